/- For all arguments, impl.FillWindow answers what spec.FillWindow answers, leaves its arguments alone, and shares nothing of what it returns.
   The row of the law FnExactFillWindow, out of its walk. Conditions: none. -/
import Derived.Test.YtaieobidkmihkaaQFnExactFillWindow2
import Derived.Test.YtaieobidkmihkaaRows
import Derived.WalkKit
import Derived.ProofKit
import Derived.OpenShut
import Derived.ShutString
import Derived.ChangeOld
import Derived.Below
import Derived.SizedLaws
import Derived.Test.YtaieobidkmihkaaWApart
import Derived.Test.YtaieobidkmihkaaWFoot
import Derived.Test.YtaieobidkmihkaaWGuard
import Derived.Test.YtaieobidkmihkaaWKept
import Derived.Test.YtaieobidkmihkaaWLast
import Derived.Test.YtaieobidkmihkaaWMore
import Derived.Test.YtaieobidkmihkaaWN
import Derived.Test.YtaieobidkmihkaaWRepsOne
import Derived.Test.YtaieobidkmihkaaWShare
import Derived.Test.YtaieobidkmihkaaWTab
import Derived.Test.YtaieobidkmihkaaWWords
namespace Go.Proofs.Ytaieobidkmihkaa.P
open Go.RowKit Go.Proofs.YtaieobidkmihkaaW.PrintWords Go.Proofs.YtaieobidkmihkaaW.PrintLast Go.Proofs.YtaieobidkmihkaaW.PrintMore
attribute [local go_sem] max2_int min2_int max_two min_two max_three min_three max_four min_four   -- for this text's walks alone
set_option linter.unusedVariables false
set_option linter.unusedSimpArgs false

/-! ### spec_FillWindow: function 53 -/
def spec_FillWindow.l0 : Nat → Int → List Int → Int → List (List Int) → Int → Int → Int → Int → Option ((List (List Int)) × Bool)
  | 0, _, _, _, _, _, _, _, _ => none
  | k + 1, x2, x8, x9, x1098000, x1099000, x1099001, x1099002, x1099003 => if x9 < x1099002 then (if x8.length < 140737488355328 then (spec_FillWindow.l0 k x2 (x8 ++ [x2]) (wrap64 (x9 + 1)) x1098000 x1099000 x1099001 x1099002 x1099003) else (none)) else ((spec_l2Write.f k x1098000 x1099000 x1099001 x1099002 x1099003 0 x8).bind fun t1107 => (some (t1107, true)))
def spec_FillWindow.f (k : Nat) (l0_0 : List (List Int)) (a1_0 : Int) (a1_1 : Int) (a1_2 : Int) (a1_3 : Int) (a2 : Int) : Option ((List (List Int)) × Bool) := (spec_l2Window.f k l0_0 a1_0 a1_1 a1_2 a1_3).bind fun t1100 => (if t1100 = true then (spec_FillWindow.l0 k a2 (([] : List Int)) 0 l0_0 a1_0 a1_1 a1_2 a1_3) else (some (([] : List (List Int)), false)))
set_option maxHeartbeats 8000000 in
set_option maxRecDepth 100000 in
theorem spec_FillWindow.calls (k : Nat) (A0_0 : Option Addr) (c0_0 : Nat) (l0_0 : List (List Int)) (a1_0 : Int) (a1_1 : Int) (a1_2 : Int) (a1_3 : Int) (a2 : Int) (r1 : List (List Int)) (r2 : Bool) (w : World) (hr0_0 : Kd.C (Kd.slice 5 (Kd.int .u8)) w A0_0 l0_0.length l0_0) (hc0_0 : l0_0.length ≤ c0_0) (h : spec_FillWindow.f k l0_0 a1_0 a1_1 a1_2 a1_3 a2 = some (r1, r2)) :
    Calls Try.prog 53 #[.agg #[.slice A0_0 l0_0.length c0_0], .agg #[.int .i64 a1_0, .int .i64 a1_1, .int .i64 a1_2, .int .i64 a1_3], .int .u8 a2] w fun e w' => ∃ v0_ : Value, e = .returned (.tuple #[.agg #[v0_], .bool r2]) ∧ Kd.S (Kd.slice 5 (Kd.int .u8)) 29 w' w.heap.size (fun _ => True) v0_ r1 ∧ Below w.heap.size w w' := by
  have hu31 := Try.underlying31
  have hu32 := Try.underlying32
  have HR0_0 := Aside0.mk hr0_0
  have HC0_0 := Aside0.mk hc0_0
  clear hr0_0 hc0_0
  have HB := Aside0.mk (Below.refl w.heap.size w)
  have H : ((spec_l2Window.f k l0_0 a1_0 a1_1 a1_2 a1_3).bind fun t1100 => (if t1100 = true then (spec_FillWindow.l0 k a2 (([] : List Int)) 0 l0_0 a1_0 a1_1 a1_2 a1_3) else (some (([] : List (List Int)), false)))) = some (r1, r2) := h
  clear h
  replace H := Option.bind_eq_some_iff.mp H
  obtain ⟨t1100, A40, H⟩ := H
  replace H : (if t1100 = true then (spec_FillWindow.l0 k a2 (([] : List Int)) 0 l0_0 a1_0 a1_1 a1_2 a1_3) else (some (([] : List (List Int)), false))) = some (r1, r2) := H
  have A4 := Aside0.mk A40
  clear A40
  by_cases c5 : t1100 = true
  · subst c5
    have H1 : (spec_FillWindow.l0 k a2 (([] : List Int)) 0 l0_0 a1_0 a1_1 a1_2 a1_3) = some (r1, r2) := by rw [if_pos rfl] at H; exact H
    clear H
    have H := H1
    clear H1
    obtain ⟨y1101, hy1101⟩ : ∃ y_ : List Int, y_ = (([] : List Int)) := ⟨_, rfl⟩
    replace H : (spec_FillWindow.l0 k a2 y1101 0 l0_0 a1_0 a1_1 a1_2 a1_3) = some (r1, r2) := by first | (rw [hy1101]; with_reducible exact H) | (have H2_ := (Option.bind_some _ _).symm.trans H; rw [hy1101]; with_reducible exact H2_) | (have H2_ := (Option.bind_some _ _).symm.trans H; with_reducible exact H2_) | with_reducible exact H | (rw [hy1101]; exact H) | exact H
    have Ny1101 := Aside0.mk hy1101
    clear hy1101
    have H' := Aside0.mk H
    clear H
    go_enter Try.func53, Try.ntmps53
    go_wp2_with (first | ((with_reducible refine gate_dst (N := 3) rfl ?_); refine box_event ?hg (N := 3) ?hd (cs := #[.slice A0_0 l0_0.length c0_0]) (t := 31) ?hr ?_; (case hd => rfl); (case hg => rfl); (case hr => first | (go_simp; done) | (go_simp; rfl)); intro gb1097 hg w6 hbox hb; have n0_ := Aside0.mk (below_step (by repeat (first | (with_reducible first | exact HB.out | apply below_alloc | apply pw_below_drewN | apply below_drew1) | exact HB.out)) hb); have n1_ := Aside0.mk (hbox); have n2_ := Aside0.mk ((by rw [hg]; exact (below_size (by repeat (first | (with_reducible first | exact HB.out | apply below_alloc | apply pw_below_drewN | apply below_drew1) | exact HB.out))) : w.heap.size ≤ gb1097)); have n3_ := Aside0.mk ((by rw [hg]; exact (below_size (by repeat (first | (with_reducible first | exact HB.out | apply below_alloc | apply pw_below_drewN | apply below_drew1) | exact HB.out))) : w.heap.size ≤ gb1097)); clear HB; have HB := n0_; have BK1097 := n1_; have GW1097 := n2_; have GE1097 := n3_; clear n0_ n1_ n2_ n3_; clear hb hbox hg) | ((with_reducible refine gate_dst (N := 4) rfl ?_); refine box_event ?hg (N := 4) ?hd (cs := #[.int .i64 a1_0, .int .i64 a1_1, .int .i64 a1_2, .int .i64 a1_3]) (t := 32) ?hr ?_; (case hd => rfl); (case hg => rfl); (case hr => first | (go_simp; done) | (go_simp; rfl)); intro gb1098 hg w7 hbox hb; have n0_ := Aside0.mk (blk_below (g := gb1097) (o := .cells #[.slice A0_0 l0_0.length c0_0] 31 (0, 0)) (by (with_reducible repeat (first | refine blk_drewN ?_ _ | refine blk_drew ?_ | refine blk_alloc ?_ _)); exact BK1097.out) hb); have n1_ := Aside0.mk (below_step (by repeat (first | (with_reducible first | exact HB.out | apply below_alloc | apply pw_below_drewN | apply below_drew1 | refine below_set ?_ GE1097.out) | exact HB.out)) hb); have n2_ := Aside0.mk (hbox); have n3_ := Aside0.mk ((by rw [hg]; exact (below_size (by repeat (first | (with_reducible first | exact HB.out | apply below_alloc | apply pw_below_drewN | apply below_drew1 | refine below_set ?_ GE1097.out) | exact HB.out))) : w.heap.size ≤ gb1098)); have n4_ := Aside0.mk ((by rw [hg]; exact (below_size (by repeat (first | (with_reducible first | exact HB.out | apply below_alloc | apply pw_below_drewN | apply below_drew1 | refine below_set ?_ GE1097.out) | exact HB.out))) : w.heap.size ≤ gb1098)); have n5_ := Aside0.mk ((by rw [hg]; exact Nat.ne_of_lt (blk_lt (g := gb1097) (o := .cells #[.slice A0_0 l0_0.length c0_0] 31 (0, 0)) (by (with_reducible repeat (first | refine blk_drewN ?_ _ | refine blk_drew ?_ | refine blk_alloc ?_ _)); exact BK1097.out)) : gb1097 ≠ gb1098)); have n6_ := Aside0.mk ((by rw [hg]; exact Nat.ne_of_gt (blk_lt (g := gb1097) (o := .cells #[.slice A0_0 l0_0.length c0_0] 31 (0, 0)) (by (with_reducible repeat (first | refine blk_drewN ?_ _ | refine blk_drew ?_ | refine blk_alloc ?_ _)); exact BK1097.out)) : gb1098 ≠ gb1097)); clear BK1097; clear HB; have BK1097 := n0_; have HB := n1_; have BK1098 := n2_; have GW1098 := n3_; have GE1098 := n4_; have NB1097_1098 := n5_; have NB1098_1097 := n6_; clear n0_ n1_ n2_ n3_ n4_ n5_ n6_; clear hb hbox hg) | ((with_reducible refine gate_dst (N := 6) rfl ?_); refine box_event ?hg (N := 6) ?hd (cs := #[.slice none 0 0]) (t := 31) ?hr ?_; (case hd => rfl); (case hg => rfl); (case hr => first | (go_simp; done) | (go_simp; rfl)); intro gb1099 hg w8 hbox hb; have n0_ := Aside0.mk (blk_below (g := gb1097) (o := .cells #[.slice A0_0 l0_0.length c0_0] 31 (0, 0)) (by (with_reducible repeat (first | refine blk_drewN ?_ _ | refine blk_drew ?_ | refine blk_alloc ?_ _)); exact BK1097.out) hb); have n1_ := Aside0.mk (blk_below (g := gb1098) (o := .cells #[.int .i64 a1_0, .int .i64 a1_1, .int .i64 a1_2, .int .i64 a1_3] 32 (0, 0)) (by (with_reducible repeat (first | refine blk_drewN ?_ _ | refine blk_drew ?_ | refine blk_alloc ?_ _)); exact BK1098.out) hb); have n2_ := Aside0.mk (below_step (by repeat (first | (with_reducible first | exact HB.out | apply below_alloc | apply pw_below_drewN | apply below_drew1 | refine below_set ?_ GE1097.out | refine below_set ?_ GE1098.out) | exact HB.out)) hb); have n3_ := Aside0.mk (hbox); have n4_ := Aside0.mk ((by rw [hg]; exact (below_size (by repeat (first | (with_reducible first | exact HB.out | apply below_alloc | apply pw_below_drewN | apply below_drew1 | refine below_set ?_ GE1097.out | refine below_set ?_ GE1098.out) | exact HB.out))) : w.heap.size ≤ gb1099)); have n5_ := Aside0.mk ((by rw [hg]; exact (below_size (by repeat (first | (with_reducible first | exact HB.out | apply below_alloc | apply pw_below_drewN | apply below_drew1 | refine below_set ?_ GE1097.out | refine below_set ?_ GE1098.out) | exact HB.out))) : w.heap.size ≤ gb1099)); have n6_ := Aside0.mk ((by rw [hg]; exact Nat.ne_of_lt (blk_lt (g := gb1097) (o := .cells #[.slice A0_0 l0_0.length c0_0] 31 (0, 0)) (by (with_reducible repeat (first | refine blk_drewN ?_ _ | refine blk_drew ?_ | refine blk_alloc ?_ _)); exact BK1097.out)) : gb1097 ≠ gb1099)); have n7_ := Aside0.mk ((by rw [hg]; exact Nat.ne_of_gt (blk_lt (g := gb1097) (o := .cells #[.slice A0_0 l0_0.length c0_0] 31 (0, 0)) (by (with_reducible repeat (first | refine blk_drewN ?_ _ | refine blk_drew ?_ | refine blk_alloc ?_ _)); exact BK1097.out)) : gb1099 ≠ gb1097)); have n8_ := Aside0.mk ((by rw [hg]; exact Nat.ne_of_lt (blk_lt (g := gb1098) (o := .cells #[.int .i64 a1_0, .int .i64 a1_1, .int .i64 a1_2, .int .i64 a1_3] 32 (0, 0)) (by (with_reducible repeat (first | refine blk_drewN ?_ _ | refine blk_drew ?_ | refine blk_alloc ?_ _)); exact BK1098.out)) : gb1098 ≠ gb1099)); have n9_ := Aside0.mk ((by rw [hg]; exact Nat.ne_of_gt (blk_lt (g := gb1098) (o := .cells #[.int .i64 a1_0, .int .i64 a1_1, .int .i64 a1_2, .int .i64 a1_3] 32 (0, 0)) (by (with_reducible repeat (first | refine blk_drewN ?_ _ | refine blk_drew ?_ | refine blk_alloc ?_ _)); exact BK1098.out)) : gb1099 ≠ gb1098)); clear BK1097; clear BK1098; clear HB; have BK1097 := n0_; have BK1098 := n1_; have HB := n2_; have BK1099 := n3_; have GW1099 := n4_; have GE1099 := n5_; have NB1097_1099 := n6_; have NB1099_1097 := n7_; have NB1098_1099 := n8_; have NB1099_1098 := n9_; clear n0_ n1_ n2_ n3_ n4_ n5_ n6_ n7_ n8_ n9_; clear hb hbox hg; have hnb9 := NB1097_1098.out; have hnc9 := NB1098_1097.out; have hnb10 := NB1097_1099.out; have hnc10 := NB1099_1097.out; have hcz11_0 : w8.cell? ⟨gb1097, 0, none⟩ = some (.slice A0_0 l0_0.length c0_0) := (blk_cell BK1097.out 0).trans rfl; have hfz11_0 := blk_frozen BK1097.out 0; have hnb12 := NB1098_1099.out; have hnc12 := NB1099_1098.out; have hcz13_0 : w8.cell? ⟨gb1098, 0, none⟩ = some (.int .i64 a1_0) := (blk_cell BK1098.out 0).trans rfl; have hcz13_1 : w8.cell? ⟨gb1098, 1, none⟩ = some (.int .i64 a1_1) := (blk_cell BK1098.out 1).trans rfl; have hcz13_2 : w8.cell? ⟨gb1098, 2, none⟩ = some (.int .i64 a1_2) := (blk_cell BK1098.out 2).trans rfl; have hcz13_3 : w8.cell? ⟨gb1098, 3, none⟩ = some (.int .i64 a1_3) := (blk_cell BK1098.out 3).trans rfl; have hfz13_0 := blk_frozen BK1098.out 0; have hfz13_1 := blk_frozen BK1098.out 1; have hfz13_2 := blk_frozen BK1098.out 2; have hfz13_3 := blk_frozen BK1098.out 3) | ((with_reducible refine gate_callee (f := 94) rfl ?_); refine goesL_ (some 12) rfl rfl Try.func94 (by kernel_rfl) rfl #[.agg #[.slice A0_0 l0_0.length c0_0], .agg #[.int .i64 a1_0, .int .i64 a1_1, .int .i64 a1_2, .int .i64 a1_3]] rfl (by (try simp only [List.map_toArray, List.map_cons, List.map_nil]); first | done | rfl | (simp only [List.length_drop, List.length_take]; rfl)) ?_; (with_reducible refine (spec_l2Window.calls k _ _ l0_0 a1_0 a1_1 a1_2 a1_3 true _ ?side1 ?side2 A4.out).mono ?_); (case side1 => repeat (first | exact (Kd.C_below HR0_0.out HB.out) | (with_reducible refine Kd.C_alloc ?_ _) | (with_reducible refine Kd.C_drewN ?_ _) | (with_reducible refine Kd.C_drew ?_))); (case side2 => exact HC0_0.out); rintro e w14 ⟨rfl, hb⟩; refine ⟨_, rfl, ?_⟩; have n0_ := Aside0.mk (blk_below (g := gb1097) (o := .cells #[.slice A0_0 l0_0.length c0_0] 31 (0, 0)) (by (with_reducible repeat (first | refine blk_drewN ?_ _ | refine blk_drew ?_ | refine blk_alloc ?_ _)); exact BK1097.out) hb); have n1_ := Aside0.mk (blk_below (g := gb1098) (o := .cells #[.int .i64 a1_0, .int .i64 a1_1, .int .i64 a1_2, .int .i64 a1_3] 32 (0, 0)) (by (with_reducible repeat (first | refine blk_drewN ?_ _ | refine blk_drew ?_ | refine blk_alloc ?_ _)); exact BK1098.out) hb); have n2_ := Aside0.mk (blk_below (g := gb1099) (o := .cells #[.slice none 0 0] 31 (0, 0)) (by (with_reducible repeat (first | refine blk_drewN ?_ _ | refine blk_drew ?_ | refine blk_alloc ?_ _)); exact BK1099.out) hb); have n3_ := Aside0.mk (below_step (by repeat (first | (with_reducible first | exact HB.out | apply below_alloc | apply pw_below_drewN | apply below_drew1 | refine below_set ?_ GE1097.out | refine below_set ?_ GE1098.out | refine below_set ?_ GE1099.out) | exact HB.out)) hb); clear BK1097; clear BK1098; clear BK1099; clear HB; have BK1097 := n0_; have BK1098 := n1_; have BK1099 := n2_; have HB := n3_; clear n0_ n1_ n2_ n3_; (try clear hb); (try clear hb2); (try clear hk); (try clear hi)) | ((with_reducible refine gate_dst (N := 15) rfl ?_); refine Kd.R_lit (Kd.int .u8) _ 5 ?hg (N := 15) ?hd (xs := ([] : List Int)) (inner := []) (ok := fun _ => True) (okp := fun _ => True) ?hr ?hp (fun _ hk => hk) trivial (Below.refl _ _) (Nat.le_refl _) (by simp) ?_; (case hd => rfl); (case hg => rfl); (case hr => first | (go_simp; done) | (go_simp; rfl)); (case hp => exact (Reps.none _ _)); intro v1102 w15 ho16 hb hg_ hnew_; clear hg_ hnew_; (first | rw [← Ny1101.out] at ho16 | (simp only [Int.reduceToNat] at ho16; rw [← Ny1101.out] at ho16)); have n0_ := Aside0.mk (Kd.R_lower ho16 (below_size (by repeat (first | (with_reducible first | exact HB.out | apply below_alloc | apply pw_below_drewN | apply below_drew1 | refine below_set ?_ GE1097.out | refine below_set ?_ GE1098.out | refine below_set ?_ GE1099.out) | exact HB.out)))); have n1_ := Aside0.mk (blk_below (g := gb1097) (o := .cells #[.slice A0_0 l0_0.length c0_0] 31 (0, 0)) (by (with_reducible repeat (first | refine blk_drewN ?_ _ | refine blk_drew ?_ | refine blk_alloc ?_ _)); exact BK1097.out) hb); have n2_ := Aside0.mk (blk_below (g := gb1098) (o := .cells #[.int .i64 a1_0, .int .i64 a1_1, .int .i64 a1_2, .int .i64 a1_3] 32 (0, 0)) (by (with_reducible repeat (first | refine blk_drewN ?_ _ | refine blk_drew ?_ | refine blk_alloc ?_ _)); exact BK1098.out) hb); have n3_ := Aside0.mk (blk_below (g := gb1099) (o := .cells #[.slice none 0 0] 31 (0, 0)) (by (with_reducible repeat (first | refine blk_drewN ?_ _ | refine blk_drew ?_ | refine blk_alloc ?_ _)); exact BK1099.out) hb); have n4_ := Aside0.mk (below_step (by repeat (first | (with_reducible first | exact HB.out | apply below_alloc | apply pw_below_drewN | apply below_drew1 | refine below_set ?_ GE1097.out | refine below_set ?_ GE1098.out | refine below_set ?_ GE1099.out) | exact HB.out)) hb); clear BK1097; clear BK1098; clear BK1099; clear HB; have HO1103 := n0_; have BK1097 := n1_; have BK1098 := n2_; have BK1099 := n3_; have HB := n4_; clear n0_ n1_ n2_ n3_ n4_; clear hb ho16))
    go_loopg [8, 9] k (fun kq v8 v9 w' => ∃ (x8_1 : List Int) (x9_1 : Int), v9 = .int .i64 x9_1 ∧ Aside0 (spec_FillWindow.l0 kq a2 x8_1 x9_1 l0_0 a1_0 a1_1 a1_2 a1_3 = some (r1, r2)) ∧ Aside0 (kq ≤ k) ∧ Aside0 (Kd.R (Kd.int .u8) 5 w' w.heap.size (fun _ => True) v8 x8_1) ∧ Aside0 (w'.heap[gb1097]? = some (.cells #[(.slice A0_0 l0_0.length c0_0)] 31 (0, 0))) ∧ Aside0 (w'.heap[gb1098]? = some (.cells #[.int .i64 a1_0, .int .i64 a1_1, .int .i64 a1_2, .int .i64 a1_3] 32 (0, 0))) ∧ Aside0 (w'.heap[gb1099]? = some (.cells #[(.slice none 0 0)] 31 (0, 0))) ∧ Aside0 (Below w.heap.size w w'))
    case atStart => exact ⟨(y1101), (0), (by first | rfl | (simp; done) | (simp [*]; done)), H', ⟨Nat.le_refl _⟩, ⟨by (with_reducible repeat (first | apply Kd.R_alloc | apply Kd.R_drewN | apply Kd.R_drew)); exact HO1103.out⟩, ⟨by (with_reducible repeat (first | refine blk_drewN ?_ _ | refine blk_drew ?_ | refine blk_alloc ?_ _)); exact BK1097.out⟩, ⟨by (with_reducible repeat (first | refine blk_drewN ?_ _ | refine blk_drew ?_ | refine blk_alloc ?_ _)); exact BK1098.out⟩, ⟨by (with_reducible repeat (first | refine blk_drewN ?_ _ | refine blk_drew ?_ | refine blk_alloc ?_ _)); exact BK1099.out⟩, ⟨by repeat (first | (with_reducible first | exact HB.out | apply below_alloc | apply pw_below_drewN | apply below_drew1 | refine below_set ?_ GE1097.out | refine below_set ?_ GE1098.out | refine below_set ?_ GE1099.out) | exact HB.out)⟩⟩
    case round =>
      clear H'
      try clear c1
      try clear p2
      try clear c5
      try clear c9
      try clear c10
      try clear c12
      try clear hcz11_0
      try clear hcz13_0
      try clear hcz13_1
      try clear hcz13_2
      try clear hcz13_3
      try clear hfz11_0
      try clear hfz13_0
      try clear hfz13_1
      try clear hfz13_2
      try clear hfz13_3
      obtain ⟨x8_1, x9_1, rfl, HA, HK1, HO_8, BK1097, BK1098, BK1099, HB⟩ := hrel
      cases gk with
      | zero => exact absurd HA.out (by simp [spec_FillWindow.l0])
      | succ k1 =>
        have H := HA.out
        clear HA
        simp only [spec_FillWindow.l0] at H
        by_cases c17 : x9_1 < a1_2
        · rw [if_pos c17] at H
          have c17b0 : decide (x9_1 < a1_2) = true := decide_eq_true c17
          clear c17
          by_cases c18 : x8_1.length < 140737488355328
          · rw [if_pos c18] at H
            have LMc18 := Aside0.mk c18
            clear c18
            obtain ⟨y1104, hy1104⟩ : ∃ y_ : List Int, y_ = (x8_1 ++ [a2]) := ⟨_, rfl⟩
            replace H : (spec_FillWindow.l0 k1 a2 y1104 (wrap64 (x9_1 + 1)) l0_0 a1_0 a1_1 a1_2 a1_3) = some (r1, r2) := by first | (rw [hy1104]; with_reducible exact H) | (have H2_ := (Option.bind_some _ _).symm.trans H; rw [hy1104]; with_reducible exact H2_) | (have H2_ := (Option.bind_some _ _).symm.trans H; with_reducible exact H2_) | with_reducible exact H | (rw [hy1104]; exact H) | exact H
            have Ny1104 := Aside0.mk hy1104
            clear hy1104
            have H' := Aside0.mk H
            clear H
            have hnb19 := NB1098_1097.out
            have hnc19 := NB1097_1098.out
            have hnb20 := NB1098_1099.out
            have hnc20 := NB1099_1098.out
            have hcz21_0 : wr.cell? ⟨gb1098, 0, none⟩ = some (.int .i64 a1_0) := (blk_cell BK1098.out 0).trans rfl
            have hcz21_1 : wr.cell? ⟨gb1098, 1, none⟩ = some (.int .i64 a1_1) := (blk_cell BK1098.out 1).trans rfl
            have hcz21_2 : wr.cell? ⟨gb1098, 2, none⟩ = some (.int .i64 a1_2) := (blk_cell BK1098.out 2).trans rfl
            have hcz21_3 : wr.cell? ⟨gb1098, 3, none⟩ = some (.int .i64 a1_3) := (blk_cell BK1098.out 3).trans rfl
            have hfz21_0 := blk_frozen BK1098.out 0
            have hfz21_1 := blk_frozen BK1098.out 1
            have hfz21_2 := blk_frozen BK1098.out 2
            have hfz21_3 := blk_frozen BK1098.out 3
            go_wp2_with (first | ((with_reducible refine gate_builtin (b := .append) (xs := #[.tmp 22, .tmp 24]) rfl ?_); at_builtin; refine Kd.R_append (Kd.int .u8) (w0 := w) w.heap.size rfl (.tmp 22) (.tmp 24) 29 5 (.int .u8 0) 1 rfl Try.underlying29 info5 rfl (by decide) (by omega) u8 x8_1 a2 [.int .u8 a2] (fun _ => True) (fun _ => False) rfl rfl ?aP (fun _ hk => hk.elim) ?aF ?aO ?aB ?aS ?aL ?_; (case aP => exact rfl); (case aB => exact (by repeat (first | (with_reducible first | exact HB.out | apply below_alloc | apply pw_below_drewN | apply below_drew1 | refine below_set ?_ GE1097.out | refine below_set ?_ GE1098.out | refine below_set ?_ GE1099.out) | exact HB.out))); (case aF => exact (fun _ _ => trivial)); (case aO => exact (by (with_reducible repeat (first | apply Kd.R_alloc | apply Kd.R_drewN | apply Kd.R_drew)); exact HO_8.out)); (case aS => exact (below_size (by repeat (first | (with_reducible first | exact HB.out | apply below_alloc | apply pw_below_drewN | apply below_drew1 | refine below_set ?_ GE1097.out | refine below_set ?_ GE1098.out | refine below_set ?_ GE1099.out) | exact HB.out)))); (case aL => have := LMc18.out; omega); intro v1105 w22 ho hb hg hat; rw [← Ny1104.out] at ho; have n0_ := Aside0.mk (blk_grown (g := gb1097) (o := .cells #[.slice A0_0 l0_0.length c0_0] 31 (0, 0)) (by (with_reducible repeat (first | refine blk_drewN ?_ _ | refine blk_drew ?_ | refine blk_alloc ?_ _)); exact BK1097.out) hg (Kd.R_ne HO_8.out BK1097.out (by decide))); have n1_ := Aside0.mk (blk_grown (g := gb1098) (o := .cells #[.int .i64 a1_0, .int .i64 a1_1, .int .i64 a1_2, .int .i64 a1_3] 32 (0, 0)) (by (with_reducible repeat (first | refine blk_drewN ?_ _ | refine blk_drew ?_ | refine blk_alloc ?_ _)); exact BK1098.out) hg (Kd.R_ne HO_8.out BK1098.out (by decide))); have n2_ := Aside0.mk (blk_grown (g := gb1099) (o := .cells #[.slice none 0 0] 31 (0, 0)) (by (with_reducible repeat (first | refine blk_drewN ?_ _ | refine blk_drew ?_ | refine blk_alloc ?_ _)); exact BK1099.out) hg (Kd.R_ne HO_8.out BK1099.out (by decide))); have n3_ := Aside0.mk (hb); have n4_ := Aside0.mk (ho); clear BK1097; clear BK1098; clear BK1099; clear HB; clear HO_8; have BK1097 := n0_; have BK1098 := n1_; have BK1099 := n2_; have HB := n3_; have HO1106 := n4_; clear n0_ n1_ n2_ n3_ n4_; clear ho hb hg hat))
            go_roundg k1
            case measure => have := HK1.out; omega
            case rel => exact ⟨(y1104), (wrap64 (x9_1 + 1)), (by first | rfl | (simp; done) | (simp [*]; done)), H', ⟨by have := HK1.out; omega⟩, ⟨by (with_reducible repeat (first | apply Kd.R_alloc | apply Kd.R_drewN | apply Kd.R_drew)); exact HO1106.out⟩, ⟨by (with_reducible repeat (first | refine blk_drewN ?_ _ | refine blk_drew ?_ | refine blk_alloc ?_ _)); exact BK1097.out⟩, ⟨by (with_reducible repeat (first | refine blk_drewN ?_ _ | refine blk_drew ?_ | refine blk_alloc ?_ _)); exact BK1098.out⟩, ⟨by (with_reducible repeat (first | refine blk_drewN ?_ _ | refine blk_drew ?_ | refine blk_alloc ?_ _)); exact BK1099.out⟩, ⟨by repeat (first | (with_reducible first | exact HB.out | apply below_alloc | apply pw_below_drewN | apply below_drew1 | refine below_set ?_ GE1097.out | refine below_set ?_ GE1098.out | refine below_set ?_ GE1099.out) | exact HB.out)⟩⟩
          · rw [if_neg c18] at H
            exact absurd H (by simp)
        · rw [if_neg c17] at H
          have c17b0 : decide (x9_1 < a1_2) = false := decide_eq_false c17
          clear c17
          replace H := Option.bind_eq_some_iff.mp H
          obtain ⟨t1107, A230, H⟩ := H
          replace H : (some (t1107, true)) = some (r1, r2) := H
          have A23 := Aside0.mk A230
          clear A230
          simp only [Option.some.injEq, Prod.mk.injEq] at H
          obtain ⟨rfl, rfl⟩ := H
          have hnb24 := NB1098_1097.out
          have hnc24 := NB1097_1098.out
          have hnb25 := NB1098_1099.out
          have hnc25 := NB1099_1098.out
          have hcz26_0 : wr.cell? ⟨gb1098, 0, none⟩ = some (.int .i64 a1_0) := (blk_cell BK1098.out 0).trans rfl
          have hcz26_1 : wr.cell? ⟨gb1098, 1, none⟩ = some (.int .i64 a1_1) := (blk_cell BK1098.out 1).trans rfl
          have hcz26_2 : wr.cell? ⟨gb1098, 2, none⟩ = some (.int .i64 a1_2) := (blk_cell BK1098.out 2).trans rfl
          have hcz26_3 : wr.cell? ⟨gb1098, 3, none⟩ = some (.int .i64 a1_3) := (blk_cell BK1098.out 3).trans rfl
          have hfz26_0 := blk_frozen BK1098.out 0
          have hfz26_1 := blk_frozen BK1098.out 1
          have hfz26_2 := blk_frozen BK1098.out 2
          have hfz26_3 := blk_frozen BK1098.out 3
          have hnb27 := NB1097_1099.out
          have hnc27 := NB1099_1097.out
          have hcz28_0 : wr.cell? ⟨gb1097, 0, none⟩ = some (.slice A0_0 l0_0.length c0_0) := (blk_cell BK1097.out 0).trans rfl
          have hfz28_0 := blk_frozen BK1097.out 0
          obtain ⟨Ao29, co29, eo29⟩ := Kd.R_slice HO_8.out
          subst eo29
          go_wp2_with (first | ((with_reducible refine gate_callee (f := 100) rfl ?_); refine goesL_ (some 29) rfl rfl Try.func100 (by kernel_rfl) rfl #[.agg #[.slice A0_0 l0_0.length c0_0], .agg #[.int .i64 a1_0, .int .i64 a1_1, .int .i64 a1_2, .int .i64 a1_3], .int .i64 0, .slice Ao29 x8_1.length co29] rfl (by (try simp only [List.map_toArray, List.map_cons, List.map_nil]); first | done | rfl | (simp only [List.length_drop, List.length_take]; rfl)) ?_; (with_reducible refine (spec_l2Write.calls k1 _ _ l0_0 a1_0 a1_1 a1_2 a1_3 0 _ _ x8_1 t1107 _ ?side1 ?side2 ?side3 ?side4 A23.out).mono ?_); (case side1 => repeat (first | exact (Kd.C_below HR0_0.out HB.out) | (with_reducible refine Kd.C_alloc ?_ _) | (with_reducible refine Kd.C_drewN ?_ _) | (with_reducible refine Kd.C_drew ?_))); (case side2 => exact HC0_0.out); (case side3 => repeat (first | exact (Kd.R_reads' HO_8.out).2.2 | (with_reducible refine Kd.C_alloc ?_ _) | (with_reducible refine Kd.C_drewN ?_ _) | (with_reducible refine Kd.C_drew ?_))); (case side4 => exact (Kd.R_reads' HO_8.out).2.1); rintro e w30 ⟨v1108, rfl, ho0, hb⟩; refine ⟨_, rfl, ?_⟩; have n0_ := Aside0.mk (Kd.R_below (by (with_reducible repeat (first | apply Kd.R_alloc | apply Kd.R_drewN | apply Kd.R_drew)); exact HO_8.out) hb); have n1_ := Aside0.mk (Kd.S_lower (Kd.S_new' ho0 (Kd.R_lt (by (with_reducible repeat (first | apply Kd.R_alloc | apply Kd.R_drewN | apply Kd.R_drew)); exact HO_8.out))) (below_size (by repeat (first | (with_reducible first | exact HB.out | apply below_alloc | apply pw_below_drewN | apply below_drew1 | refine below_set ?_ GE1097.out | refine below_set ?_ GE1098.out | refine below_set ?_ GE1099.out) | exact HB.out)))); have n2_ := Aside0.mk (blk_below (g := gb1097) (o := .cells #[.slice A0_0 l0_0.length c0_0] 31 (0, 0)) (by (with_reducible repeat (first | refine blk_drewN ?_ _ | refine blk_drew ?_ | refine blk_alloc ?_ _)); exact BK1097.out) hb); have n3_ := Aside0.mk (blk_below (g := gb1098) (o := .cells #[.int .i64 a1_0, .int .i64 a1_1, .int .i64 a1_2, .int .i64 a1_3] 32 (0, 0)) (by (with_reducible repeat (first | refine blk_drewN ?_ _ | refine blk_drew ?_ | refine blk_alloc ?_ _)); exact BK1098.out) hb); have n4_ := Aside0.mk (blk_below (g := gb1099) (o := .cells #[.slice none 0 0] 31 (0, 0)) (by (with_reducible repeat (first | refine blk_drewN ?_ _ | refine blk_drew ?_ | refine blk_alloc ?_ _)); exact BK1099.out) hb); have n5_ := Aside0.mk (below_step (by repeat (first | (with_reducible first | exact HB.out | apply below_alloc | apply pw_below_drewN | apply below_drew1 | refine below_set ?_ GE1097.out | refine below_set ?_ GE1098.out | refine below_set ?_ GE1099.out) | exact HB.out)) hb); clear HO_8; clear BK1097; clear BK1098; clear BK1099; clear HB; have HO_8 := n0_; have HO1109 := n1_; have BK1097 := n2_; have BK1098 := n3_; have BK1099 := n4_; have HB := n5_; clear n0_ n1_ n2_ n3_ n4_ n5_; (try clear hb); (try clear hb2); (try clear hk); (try clear hi); (try clear ho0); obtain ⟨Ao31, co31, eo31⟩ := Kd.S_slice HO1109.out; subst eo31; have hcz32_0 : w30.cell? ⟨gb1099, 0, none⟩ = some (.slice none 0 0) := (blk_cell BK1099.out 0).trans rfl; have hfz32_0 := blk_frozen BK1099.out 0))
          refine bodyPost_ret (results_ct rfl _ _ gb1099 31 #[.slice Ao31 t1107.length co31] (0, 0) _ rfl (by (with_reducible repeat (first | refine blk_drewN ?_ _ | refine blk_drew ?_ | refine blk_alloc ?_ _)); refine blk_put (cs := #[.slice none 0 0]) ?_ 0 _ rfl; (with_reducible repeat (first | refine blk_drewN ?_ _ | refine blk_drew ?_ | refine blk_alloc ?_ _)); exact BK1099.out) Try.underlying31 rfl (by kernel_rfl)) rfl ?_
          exact ⟨_, by first | rfl | (simp [errW_none, errW_some] <;> rfl) | (simp [*, errW_none, errW_some] <;> rfl), by (with_reducible repeat (first | apply Kd.S_alloc | apply Kd.S_drewN | apply Kd.S_drew)); exact Kd.S_mono (Kd.S_far (p := ⟨gb1099, 0, none⟩) (Kd.S_types HO1109.out BK1099.out (by decide)) (fun _ hk => hk.2) (.slice Ao31 t1107.length co31)) (fun _ hk => trivial), by repeat (first | (with_reducible first | exact HB.out | apply below_alloc | apply pw_below_drewN | apply below_drew1 | refine below_set ?_ GE1097.out | refine below_set ?_ GE1098.out | refine below_set ?_ GE1099.out) | exact HB.out)⟩
  · replace c5 := Bool.eq_false_iff.mpr c5
    subst c5
    have H1 : (some (([] : List (List Int)), false)) = some (r1, r2) := by rw [if_neg (show ¬ (false = true) by decide)] at H; exact H
    clear H
    have H := H1
    clear H1
    simp only [Option.some.injEq, Prod.mk.injEq] at H
    obtain ⟨rfl, rfl⟩ := H
    go_enter Try.func53, Try.ntmps53
    go_wp2_with (first | ((with_reducible refine gate_dst (N := 3) rfl ?_); refine box_event ?hg (N := 3) ?hd (cs := #[.slice A0_0 l0_0.length c0_0]) (t := 31) ?hr ?_; (case hd => rfl); (case hg => rfl); (case hr => first | (go_simp; done) | (go_simp; rfl)); intro gb1097 hg w33 hbox hb; have n0_ := Aside0.mk (below_step (by repeat (first | (with_reducible first | exact HB.out | apply below_alloc | apply pw_below_drewN | apply below_drew1) | exact HB.out)) hb); have n1_ := Aside0.mk (hbox); have n2_ := Aside0.mk ((by rw [hg]; exact (below_size (by repeat (first | (with_reducible first | exact HB.out | apply below_alloc | apply pw_below_drewN | apply below_drew1) | exact HB.out))) : w.heap.size ≤ gb1097)); have n3_ := Aside0.mk ((by rw [hg]; exact (below_size (by repeat (first | (with_reducible first | exact HB.out | apply below_alloc | apply pw_below_drewN | apply below_drew1) | exact HB.out))) : w.heap.size ≤ gb1097)); clear HB; have HB := n0_; have BK1097 := n1_; have GW1097 := n2_; have GE1097 := n3_; clear n0_ n1_ n2_ n3_; clear hb hbox hg) | ((with_reducible refine gate_dst (N := 4) rfl ?_); refine box_event ?hg (N := 4) ?hd (cs := #[.int .i64 a1_0, .int .i64 a1_1, .int .i64 a1_2, .int .i64 a1_3]) (t := 32) ?hr ?_; (case hd => rfl); (case hg => rfl); (case hr => first | (go_simp; done) | (go_simp; rfl)); intro gb1098 hg w34 hbox hb; have n0_ := Aside0.mk (blk_below (g := gb1097) (o := .cells #[.slice A0_0 l0_0.length c0_0] 31 (0, 0)) (by (with_reducible repeat (first | refine blk_drewN ?_ _ | refine blk_drew ?_ | refine blk_alloc ?_ _)); exact BK1097.out) hb); have n1_ := Aside0.mk (below_step (by repeat (first | (with_reducible first | exact HB.out | apply below_alloc | apply pw_below_drewN | apply below_drew1 | refine below_set ?_ GE1097.out) | exact HB.out)) hb); have n2_ := Aside0.mk (hbox); have n3_ := Aside0.mk ((by rw [hg]; exact (below_size (by repeat (first | (with_reducible first | exact HB.out | apply below_alloc | apply pw_below_drewN | apply below_drew1 | refine below_set ?_ GE1097.out) | exact HB.out))) : w.heap.size ≤ gb1098)); have n4_ := Aside0.mk ((by rw [hg]; exact (below_size (by repeat (first | (with_reducible first | exact HB.out | apply below_alloc | apply pw_below_drewN | apply below_drew1 | refine below_set ?_ GE1097.out) | exact HB.out))) : w.heap.size ≤ gb1098)); have n5_ := Aside0.mk ((by rw [hg]; exact Nat.ne_of_lt (blk_lt (g := gb1097) (o := .cells #[.slice A0_0 l0_0.length c0_0] 31 (0, 0)) (by (with_reducible repeat (first | refine blk_drewN ?_ _ | refine blk_drew ?_ | refine blk_alloc ?_ _)); exact BK1097.out)) : gb1097 ≠ gb1098)); have n6_ := Aside0.mk ((by rw [hg]; exact Nat.ne_of_gt (blk_lt (g := gb1097) (o := .cells #[.slice A0_0 l0_0.length c0_0] 31 (0, 0)) (by (with_reducible repeat (first | refine blk_drewN ?_ _ | refine blk_drew ?_ | refine blk_alloc ?_ _)); exact BK1097.out)) : gb1098 ≠ gb1097)); clear BK1097; clear HB; have BK1097 := n0_; have HB := n1_; have BK1098 := n2_; have GW1098 := n3_; have GE1098 := n4_; have NB1097_1098 := n5_; have NB1098_1097 := n6_; clear n0_ n1_ n2_ n3_ n4_ n5_ n6_; clear hb hbox hg) | ((with_reducible refine gate_dst (N := 6) rfl ?_); refine box_event ?hg (N := 6) ?hd (cs := #[.slice none 0 0]) (t := 31) ?hr ?_; (case hd => rfl); (case hg => rfl); (case hr => first | (go_simp; done) | (go_simp; rfl)); intro gb1099 hg w35 hbox hb; have n0_ := Aside0.mk (blk_below (g := gb1097) (o := .cells #[.slice A0_0 l0_0.length c0_0] 31 (0, 0)) (by (with_reducible repeat (first | refine blk_drewN ?_ _ | refine blk_drew ?_ | refine blk_alloc ?_ _)); exact BK1097.out) hb); have n1_ := Aside0.mk (blk_below (g := gb1098) (o := .cells #[.int .i64 a1_0, .int .i64 a1_1, .int .i64 a1_2, .int .i64 a1_3] 32 (0, 0)) (by (with_reducible repeat (first | refine blk_drewN ?_ _ | refine blk_drew ?_ | refine blk_alloc ?_ _)); exact BK1098.out) hb); have n2_ := Aside0.mk (below_step (by repeat (first | (with_reducible first | exact HB.out | apply below_alloc | apply pw_below_drewN | apply below_drew1 | refine below_set ?_ GE1097.out | refine below_set ?_ GE1098.out) | exact HB.out)) hb); have n3_ := Aside0.mk (hbox); have n4_ := Aside0.mk ((by rw [hg]; exact (below_size (by repeat (first | (with_reducible first | exact HB.out | apply below_alloc | apply pw_below_drewN | apply below_drew1 | refine below_set ?_ GE1097.out | refine below_set ?_ GE1098.out) | exact HB.out))) : w.heap.size ≤ gb1099)); have n5_ := Aside0.mk ((by rw [hg]; exact (below_size (by repeat (first | (with_reducible first | exact HB.out | apply below_alloc | apply pw_below_drewN | apply below_drew1 | refine below_set ?_ GE1097.out | refine below_set ?_ GE1098.out) | exact HB.out))) : w.heap.size ≤ gb1099)); have n6_ := Aside0.mk ((by rw [hg]; exact Nat.ne_of_lt (blk_lt (g := gb1097) (o := .cells #[.slice A0_0 l0_0.length c0_0] 31 (0, 0)) (by (with_reducible repeat (first | refine blk_drewN ?_ _ | refine blk_drew ?_ | refine blk_alloc ?_ _)); exact BK1097.out)) : gb1097 ≠ gb1099)); have n7_ := Aside0.mk ((by rw [hg]; exact Nat.ne_of_gt (blk_lt (g := gb1097) (o := .cells #[.slice A0_0 l0_0.length c0_0] 31 (0, 0)) (by (with_reducible repeat (first | refine blk_drewN ?_ _ | refine blk_drew ?_ | refine blk_alloc ?_ _)); exact BK1097.out)) : gb1099 ≠ gb1097)); have n8_ := Aside0.mk ((by rw [hg]; exact Nat.ne_of_lt (blk_lt (g := gb1098) (o := .cells #[.int .i64 a1_0, .int .i64 a1_1, .int .i64 a1_2, .int .i64 a1_3] 32 (0, 0)) (by (with_reducible repeat (first | refine blk_drewN ?_ _ | refine blk_drew ?_ | refine blk_alloc ?_ _)); exact BK1098.out)) : gb1098 ≠ gb1099)); have n9_ := Aside0.mk ((by rw [hg]; exact Nat.ne_of_gt (blk_lt (g := gb1098) (o := .cells #[.int .i64 a1_0, .int .i64 a1_1, .int .i64 a1_2, .int .i64 a1_3] 32 (0, 0)) (by (with_reducible repeat (first | refine blk_drewN ?_ _ | refine blk_drew ?_ | refine blk_alloc ?_ _)); exact BK1098.out)) : gb1099 ≠ gb1098)); clear BK1097; clear BK1098; clear HB; have BK1097 := n0_; have BK1098 := n1_; have HB := n2_; have BK1099 := n3_; have GW1099 := n4_; have GE1099 := n5_; have NB1097_1099 := n6_; have NB1099_1097 := n7_; have NB1098_1099 := n8_; have NB1099_1098 := n9_; clear n0_ n1_ n2_ n3_ n4_ n5_ n6_ n7_ n8_ n9_; clear hb hbox hg; have hnb36 := NB1097_1098.out; have hnc36 := NB1098_1097.out; have hnb37 := NB1097_1099.out; have hnc37 := NB1099_1097.out; have hcz38_0 : w35.cell? ⟨gb1097, 0, none⟩ = some (.slice A0_0 l0_0.length c0_0) := (blk_cell BK1097.out 0).trans rfl; have hfz38_0 := blk_frozen BK1097.out 0; have hnb39 := NB1098_1099.out; have hnc39 := NB1099_1098.out; have hcz40_0 : w35.cell? ⟨gb1098, 0, none⟩ = some (.int .i64 a1_0) := (blk_cell BK1098.out 0).trans rfl; have hcz40_1 : w35.cell? ⟨gb1098, 1, none⟩ = some (.int .i64 a1_1) := (blk_cell BK1098.out 1).trans rfl; have hcz40_2 : w35.cell? ⟨gb1098, 2, none⟩ = some (.int .i64 a1_2) := (blk_cell BK1098.out 2).trans rfl; have hcz40_3 : w35.cell? ⟨gb1098, 3, none⟩ = some (.int .i64 a1_3) := (blk_cell BK1098.out 3).trans rfl; have hfz40_0 := blk_frozen BK1098.out 0; have hfz40_1 := blk_frozen BK1098.out 1; have hfz40_2 := blk_frozen BK1098.out 2; have hfz40_3 := blk_frozen BK1098.out 3) | ((with_reducible refine gate_callee (f := 94) rfl ?_); refine goesL_ (some 12) rfl rfl Try.func94 (by kernel_rfl) rfl #[.agg #[.slice A0_0 l0_0.length c0_0], .agg #[.int .i64 a1_0, .int .i64 a1_1, .int .i64 a1_2, .int .i64 a1_3]] rfl (by (try simp only [List.map_toArray, List.map_cons, List.map_nil]); first | done | rfl | (simp only [List.length_drop, List.length_take]; rfl)) ?_; (with_reducible refine (spec_l2Window.calls k _ _ l0_0 a1_0 a1_1 a1_2 a1_3 false _ ?side1 ?side2 A4.out).mono ?_); (case side1 => repeat (first | exact (Kd.C_below HR0_0.out HB.out) | (with_reducible refine Kd.C_alloc ?_ _) | (with_reducible refine Kd.C_drewN ?_ _) | (with_reducible refine Kd.C_drew ?_))); (case side2 => exact HC0_0.out); rintro e w41 ⟨rfl, hb⟩; refine ⟨_, rfl, ?_⟩; have n0_ := Aside0.mk (blk_below (g := gb1097) (o := .cells #[.slice A0_0 l0_0.length c0_0] 31 (0, 0)) (by (with_reducible repeat (first | refine blk_drewN ?_ _ | refine blk_drew ?_ | refine blk_alloc ?_ _)); exact BK1097.out) hb); have n1_ := Aside0.mk (blk_below (g := gb1098) (o := .cells #[.int .i64 a1_0, .int .i64 a1_1, .int .i64 a1_2, .int .i64 a1_3] 32 (0, 0)) (by (with_reducible repeat (first | refine blk_drewN ?_ _ | refine blk_drew ?_ | refine blk_alloc ?_ _)); exact BK1098.out) hb); have n2_ := Aside0.mk (blk_below (g := gb1099) (o := .cells #[.slice none 0 0] 31 (0, 0)) (by (with_reducible repeat (first | refine blk_drewN ?_ _ | refine blk_drew ?_ | refine blk_alloc ?_ _)); exact BK1099.out) hb); have n3_ := Aside0.mk (below_step (by repeat (first | (with_reducible first | exact HB.out | apply below_alloc | apply pw_below_drewN | apply below_drew1 | refine below_set ?_ GE1097.out | refine below_set ?_ GE1098.out | refine below_set ?_ GE1099.out) | exact HB.out)) hb); clear BK1097; clear BK1098; clear BK1099; clear HB; have BK1097 := n0_; have BK1098 := n1_; have BK1099 := n2_; have HB := n3_; clear n0_ n1_ n2_ n3_; (try clear hb); (try clear hb2); (try clear hk); (try clear hi); have hcz42_0 : w41.cell? ⟨gb1099, 0, none⟩ = some (.slice none 0 0) := (blk_cell BK1099.out 0).trans rfl; have hfz42_0 := blk_frozen BK1099.out 0))
    refine bodyPost_ret (results_ct rfl _ _ gb1099 31 #[.slice none 0 0] (0, 0) _ rfl (by (with_reducible repeat (first | refine blk_drewN ?_ _ | refine blk_drew ?_ | refine blk_alloc ?_ _)); refine blk_put (cs := #[.slice none 0 0]) ?_ 0 _ rfl; (with_reducible repeat (first | refine blk_drewN ?_ _ | refine blk_drew ?_ | refine blk_alloc ?_ _)); exact BK1099.out) Try.underlying31 rfl (by kernel_rfl)) rfl ?_
    exact ⟨_, by first | rfl | (simp [errW_none, errW_some] <;> rfl) | (simp [*, errW_none, errW_some] <;> rfl), by first | exact Kd.S_nil _ _ _ _ _ | exact Kd.N_nil _ _ _ _ _ | exact Kd.V_nil _ _ _ _ _ | exact Kd.Q_nil _ _ _ _ _ | exact Kd.R_nil _ _ _ _ _, by repeat (first | (with_reducible first | exact HB.out | apply below_alloc | apply pw_below_drewN | apply below_drew1 | refine below_set ?_ GE1097.out | refine below_set ?_ GE1098.out | refine below_set ?_ GE1099.out) | exact HB.out)⟩

end Go.Proofs.Ytaieobidkmihkaa.P


/- FillWindow: the program's and the reference's. -/
namespace Go.Proofs.Ytaieobidkmihkaa.P
open Go.RowKit Go.Proofs.YtaieobidkmihkaaW.PrintWords Go.Proofs.YtaieobidkmihkaaW.PrintMore
set_option linter.unusedVariables false
set_option linter.unusedSimpArgs false
def fillB (m : List (List Int)) (a s n c b : Int) : List (List Int) × Bool := if (memB m && winB m a s n c) = true then (putRow m a (spl (rowB m a) s.toNat (List.replicate n.toNat b)), true) else ([], false)
theorem fillB_ok (m : List (List Int)) (a s n c b : Int) : okM (fillB m a s n c b).1 := by
  unfold fillB
  split
  · rename_i h
    simp only [Bool.and_eq_true] at h
    have hw := WinOk.of h.1 h.2
    have h1 := hw.s0; have h2 := hw.n0; have h3 := hw.s1; have h4 := hw.n1
    have hl : (spl (rowB m a) s.toNat (List.replicate n.toNat b)).length = (rowB m a).length := spl_length _ _ _ (by simp; omega)
    exact putRow_ok h.1 (by rw [hl]; exact hw.r0) (by rw [hl]; exact hw.r1)
  · exact okM_nil
def impl_FillWindow.f (m : List (List Int)) (a s n c b : Int) : Option (List (List Int) × Bool) := if okMb m = true then some (fillB m a s n c b) else none
theorem impl_FillWindow.calls (A0_0 : Option Addr) (c0_0 : Nat) (l0_0 : List (List Int)) (a1_0 a1_1 a1_2 a1_3 a2 : Int) (r1 : List (List Int)) (r2 : Bool) (w : World) (hr0_0 : Kd.C (Kd.slice 5 (Kd.int .u8)) w A0_0 l0_0.length l0_0) (hc0_0 : l0_0.length ≤ c0_0) (h : impl_FillWindow.f l0_0 a1_0 a1_1 a1_2 a1_3 a2 = some (r1, r2)) :
    Calls Try.prog 54 #[.agg #[.slice A0_0 l0_0.length c0_0], .agg #[.int .i64 a1_0, .int .i64 a1_1, .int .i64 a1_2, .int .i64 a1_3], .int .u8 a2] w fun e w' => ∃ v0_ : Value, e = .returned (.tuple #[.agg #[v0_], .bool r2]) ∧ Kd.S (Kd.slice 5 (Kd.int .u8)) 29 w' w.heap.size (fun _ => True) v0_ r1 ∧ Below w.heap.size w w' := by
  unfold impl_FillWindow.f at h
  split at h
  next hh =>
    have hm := okM_of hh
    have h := Option.some.inj h
    unfold fillB at h
    have hi : impl_areOn.f l0_0 [(⟨a1_0, a1_1, a1_2, a1_3⟩ : SimplWindow)] = some (memB l0_0 && winB l0_0 a1_0 a1_1 a1_2 a1_3) := by simp [impl_areOn.f, winW]
    cases h1 : (memB l0_0 && winB l0_0 a1_0 a1_1 a1_2 a1_3) with
    | false =>
      rw [h1, if_neg (by decide)] at h
      cases h
      exact impl_FillWindow_w0 A0_0 c0_0 l0_0 a1_0 a1_1 a1_2 a1_3 a2 w hr0_0 hc0_0 (hi.trans (congrArg some h1))
    | true =>
      have h1' := h1
      simp only [Bool.and_eq_true] at h1'
      have hw := WinOk.of h1'.1 h1'.2
      have g1 := hw.s1; have g2 := hw.n1; have g3 := hw.c1; have g4 := hw.n0
      rw [h1, if_pos rfl] at h
      cases h
      have hw2 := impl_FillWindow_w1 A0_0 c0_0 l0_0 a1_0 a1_1 a1_2 a1_3 a2 w hr0_0 hc0_0 (hi.trans (congrArg some h1)) (own_f _ hm).rounds (rowB l0_0 a1_0) rfl hw.a0 hw.a1 hw.s0 hw.n0 (by omega) hw.r0 hw.r1 (by omega)
      have he : rd [a2] 0 = a2 := rfl
      rw [he, List.take_of_length_le (by simp)] at hw2
      exact hw2
  next => cases h
theorem implFillWindow_f (m : List (List Int)) (a s n c b : Int) (h : okM m) : impl_FillWindow.f m a s n c b = some (fillB m a s n c b) := if_pos (okMb_of h)
theorem fill_ev {m : List (List Int)} {a s n c b : Int} (h : okM m) (hw : WinOk m a s n c) : ∀ (j i : Nat), i + j = n.toNat → Ev (fun q => spec_FillWindow.l0 q b (List.replicate i b) (i : Int) m a s n c) (putRow m a (spl (rowB m a) s.toNat (List.replicate n.toNat b)), true) := by
  have g1 := hw.s1; have g2 := hw.n1; have g3 := hw.c1; have g4 := hw.n0
  intro j
  induction j with
  | zero =>
    intro i hi
    obtain rfl : i = n.toNat := by omega
    refine Ev.step (f := fun q => (spec_l2Write.f q m a s n c 0 (List.replicate n.toNat b)).bind fun t => some (t, true)) (fun q => ?_) ?_
    · simp only [spec_FillWindow.l0]
      rw [if_neg (by omega)]
    · have hl := l2Write_f m a s n c 0 (List.replicate n.toNat b) h hw (Int.le_refl _) (by simp; omega)
      rw [show s.toNat + (0 : Int).toNat = s.toNat from Nat.add_zero _] at hl
      exact Ev.bind hl (Ev.now _)
  | succ j ih =>
    intro i hi
    refine Ev.step (f := fun q => spec_FillWindow.l0 q b (List.replicate (i + 1) b) ((i + 1 : Nat) : Int) m a s n c) (fun q => ?_) (ih (i + 1) (by omega))
    simp only [spec_FillWindow.l0]
    rw [if_pos (by omega), if_pos (by simp; omega), wrap_ok (by omega) (by omega), ← List.replicate_succ']
    rfl
theorem specFillWindow_f (m : List (List Int)) (a s n c b : Int) (h : okM m) (hs : -9223372036854775808 ≤ s ∧ s ≤ 9223372036854775807) : Ev (fun k => spec_FillWindow.f k m a s n c b) (fillB m a s n c b) := by
  refine Ev.bind (l2Window_f m a s n c h.len h.rows hs) ?_
  unfold fillB
  cases h1 : (memB m && winB m a s n c) with
  | false =>
    simp only [Bool.false_eq_true, if_false]
    exact Ev.now _
  | true =>
    simp only [if_true]
    have h1' := h1
    simp only [Bool.and_eq_true] at h1'
    exact fill_ev h (WinOk.of h1'.1 h1'.2) n.toNat 0 (by omega)
end Go.Proofs.Ytaieobidkmihkaa.P


/- From a row's reading of an argument to what the print's kinds say of it. -/
namespace Go.Proofs.YtaieobidkmihkaaW.Mine
open Go.RowKit Go.Proofs.YtaieobidkmihkaaW.PrintWords
set_option linter.unusedVariables false
/-- Whatever reads as data of type T is of the kind d, and ok. -/
def ReadsK {α : Type} (P : Program) (T : TypeId) (d : Kd α) (ok : α → Prop) : Prop :=
  ∀ {H : Type} {enc : TypeId × Value → H} {w : World} {base : Nat} {spare : Nat → Bool} {held : Bool} {fuel : Nat} {cs : List Value} {x : DataW H × List MemPlace}, DataW.trod enc P w base spare held fuel T cs = some x → ∃ a : α, d.K w a cs ∧ ok a
theorem ReadsK.int {P : Program} {T : TypeId} {k : IntKind} (hT : P.underlying T = some (.int k)) : ReadsK P T (Kd.int k) (fun n => (Lit.int k n).wf = true) := by
  intro H enc w base spare held fuel cs x h
  obtain ⟨n, rfl, _, hw⟩ := DataW.trod_int hT h
  exact ⟨n, rfl, hw⟩
theorem ReadsK.bool {P : Program} {T : TypeId} (hT : P.underlying T = some .bool) : ReadsK P T Kd.bool (fun _ => True) := by
  intro H enc w base spare held fuel cs x h
  obtain ⟨b, rfl, _⟩ := DataW.trod_bool hT h
  exact ⟨b, rfl, trivial⟩
theorem exists_list {α : Type} {n : Nat} {p : Nat → α → Prop} (h : ∀ i, i < n → ∃ a, p i a) : ∃ l : List α, l.length = n ∧ ∀ i a, l[i]? = some a → p i a := by
  induction n with
  | zero => exact ⟨[], rfl, fun i a hi => by simp at hi⟩
  | succ n ih =>
    obtain ⟨l, hl, hp⟩ := ih (fun i hi => h i (by omega))
    obtain ⟨a, ha⟩ := h n (by omega)
    refine ⟨l ++ [a], by simp [hl], fun i b hb => ?_⟩
    rcases Nat.lt_or_ge i n with hi | hi
    · rw [List.getElem?_append_left (by omega)] at hb
      exact hp i b hb
    · have hi2 : i = n := by
        have := (List.getElem?_eq_some_iff.1 hb).1
        simp [hl] at this
        omega
      subst hi2
      rw [← hl, List.getElem?_append_right (Nat.le_refl _)] at hb
      simp at hb
      rw [← hb]
      exact ha
theorem ReadsK.slice {α : Type} {P : Program} {T e : TypeId} {d : Kd α} {ok : α → Prop} (hT : P.underlying T = some (.slice e)) (hc : P.cellsOf e = d.sz) (h1 : ReadsK P e d ok) : ReadsK P T (Kd.slice e d) (fun xs => ∀ x ∈ xs, ok x) := by
  intro H enc w base spare held fuel cs x h
  rcases Deep.open_slice hT h with ⟨rfl, _⟩ | ⟨a, len, cap, m, n, D, Pl, rfl, hb, hl, hm, hmm, _, hx⟩
  · exact ⟨[], ⟨none, 0, rfl, Nat.le_refl _, rfl, by simp, fun h => absurd h (by simp)⟩, fun x hx => by simp at hx⟩
  · have hlm : len ≤ m := by rw [hmm]; split <;> omega
    obtain ⟨l, hll, hp⟩ := exists_list (n := len) (p := fun i y => ∃ cs', w.cells? base (a.add (i * P.cellsOf e)) (P.cellsOf e) = some cs' ∧ d.K w y cs' ∧ ok y) (fun i hi => by
      obtain ⟨cs', h2, h3⟩ := hx i (by omega)
      obtain ⟨y, hy, hok⟩ := h1 h3
      exact ⟨y, cs', h2, hy, hok⟩)
    refine ⟨l, ⟨some a, cap, by rw [hll], by omega, rfl, ?_, fun hn => ⟨a, rfl, fun j p hj => ?_⟩⟩, fun y hy => ?_⟩
    · rw [hll]; unfold maxLen at hm; omega
    · obtain ⟨cs', h2, h3, _⟩ := hp j p hj
      obtain ⟨_, hlen, hcell⟩ := World.cells?_some h2
      refine ⟨cs', by rw [hlen, hc], h3, fun i u hu => ?_⟩
      have hi : i < P.cellsOf e := by
        have := (List.getElem?_eq_some_iff.1 hu).1
        omega
      have h4 := hcell i hi
      rw [hu] at h4
      rw [← h4, ← hc]
      congr 1
      unfold Addr.add
      by_cases z1 : j * P.cellsOf e = 0 <;> by_cases z2 : i = 0 <;> simp [z1, z2, Nat.add_assoc]
    · obtain ⟨j, hj, rfl⟩ := List.mem_iff_getElem.1 hy
      obtain ⟨_, _, _, hok⟩ := hp j _ (List.getElem?_eq_getElem hj)
      exact hok
/-- The fields from offset o on. -/
def ReadsF {α : Type} (P : Program) (o : Nat) (fs : List Field) (d : Kd α) (ok : α → Prop) : Prop :=
  ∀ {H : Type} {enc : TypeId × Value → H} {w : World} {base : Nat} {spare : Nat → Bool} {held : Bool} {n : Nat} {cs : List Value}, (∀ f ∈ fs, ∃ x, DataW.trod enc P w base spare held n f.type ((cs.drop f.offset).take (P.cellsOf f.type)) = some x) → ∃ a : α, d.K w a ((cs.drop o).take d.sz) ∧ ok a
theorem ReadsF.last {α : Type} {P : Program} {o : Nat} {f : Field} {d : Kd α} {ok : α → Prop} (ho : f.offset = o) (h : ReadsK P f.type d ok) (hc : P.cellsOf f.type = d.sz) : ReadsF P o [f] d ok := by
  intro H enc w base spare held n cs hh
  obtain ⟨x, hx⟩ := hh f (by simp)
  rw [ho, hc] at hx
  exact h hx
theorem ReadsF.cons {α β : Type} {P : Program} {o : Nat} {f : Field} {fs : List Field} {d : Kd α} {d2 : Kd β} {ok : α → Prop} {ok2 : β → Prop} (ho : f.offset = o) (h : ReadsK P f.type d ok) (hc : P.cellsOf f.type = d.sz) (h2 : ReadsF P (o + d.sz) fs d2 ok2) : ReadsF P o (f :: fs) (Kd.pair d d2) (fun p => ok p.1 ∧ ok2 p.2) := by
  intro H enc w base spare held n cs hh
  obtain ⟨x, hx⟩ := hh f (by simp)
  rw [ho, hc] at hx
  obtain ⟨a, ha, hok⟩ := h hx
  obtain ⟨b, hb, hok2⟩ := h2 (fun g hg => hh g (by simp [hg]))
  refine ⟨(a, b), ⟨_, _, ?_, ha, hb⟩, hok, hok2⟩
  show (cs.drop o).take (d.sz + d2.sz) = _
  rw [List.take_add, List.drop_drop]
theorem ReadsK.struct {α : Type} {P : Program} {T : TypeId} {fs : Array Field} {d : Kd α} {ok : α → Prop} (hT : P.underlying T = some (.struct fs)) (hc : P.cellsOf T = d.sz) (h : ReadsF P 0 fs.toList d ok) : ReadsK P T d ok := by
  intro H enc w base spare held fuel cs x hx
  obtain ⟨xs, n, _, _, hl, hlen, hf⟩ := DataW.trod_struct hT hx
  obtain ⟨a, ha, hok⟩ := h (n := n) (cs := cs) (enc := enc) (w := w) (base := base) (spare := spare) (held := held) (fun f hf2 => by
    obtain ⟨i, hi, rfl⟩ := List.mem_iff_getElem.1 hf2
    have h1 := hf i fs[i] (by simp at hi; exact Array.getElem?_eq_getElem hi)
    have hi2 : i < xs.length := by simp at hi; omega
    rw [List.getElem?_eq_getElem hi2] at h1
    exact ⟨_, by simpa using h1⟩)
  refine ⟨a, ?_, hok⟩
  rwa [List.drop_zero, ← hc, ← hl, List.take_length] at ha
theorem ReadsK.iso {α β : Type} {P : Program} {T : TypeId} {d : Kd α} {ok : α → Prop} (h : ReadsK P T d ok) (f : β → α) (g : α → β) (hfg : ∀ a, f (g a) = a) : ReadsK P T (Kd.iso d f) (fun b => ok (f b)) := by
  intro H enc w base spare held fuel cs x hx
  obtain ⟨a, ha, hok⟩ := h hx
  refine ⟨g a, ?_, by show ok (f (g a)); rw [hfg]; exact hok⟩
  show d.K w (f (g a)) cs
  rw [hfg]
  exact ha
theorem agg_of {cs : Array Value} {L : List Value} (h : cs.toList = L) : cs = L.toArray := by rw [← h]
end Go.Proofs.YtaieobidkmihkaaW.Mine


namespace Go.Proofs.Ytaieobidkmihkaa.P
open Go.RowKit Go.Proofs.YtaieobidkmihkaaW.PrintWords Go.Proofs.YtaieobidkmihkaaW.PrintLast Go.Proofs.YtaieobidkmihkaaW.PrintMore
attribute [local go_sem] max2_int min2_int max_two min_two max_three min_three max_four min_four   -- for this text's walks alone
set_option linter.unusedVariables false
set_option linter.unusedSimpArgs false

/-! ### laws_toWindow: function 51 -/
def laws_toWindow.f (a0_0 : Int) (a0_1 : Int) (a0_2 : Int) (a0_3 : Int) : Option (Int × Int × Int × Int) := some (a0_0, a0_1, a0_2, a0_3)
set_option maxHeartbeats 8000000 in
set_option maxRecDepth 100000 in
theorem laws_toWindow.calls (a0_0 : Int) (a0_1 : Int) (a0_2 : Int) (a0_3 : Int) (r1 : Int) (r2 : Int) (r3 : Int) (r4 : Int) (w : World) (h : laws_toWindow.f a0_0 a0_1 a0_2 a0_3 = some (r1, r2, r3, r4)) :
    Calls Try.prog 51 #[.agg #[.int .i64 a0_0, .int .i64 a0_1, .int .i64 a0_2, .int .i64 a0_3]] w fun e w' => e = .returned (.agg #[.int .i64 r1, .int .i64 r2, .int .i64 r3, .int .i64 r4]) ∧ Below w.heap.size w w' := by
  have hu26 := Try.underlying26
  have hu32 := Try.underlying32
  have HB := Aside0.mk (Below.refl w.heap.size w)
  have H : (some (a0_0, a0_1, a0_2, a0_3)) = some (r1, r2, r3, r4) := h
  clear h
  simp only [Option.some.injEq, Prod.mk.injEq] at H
  obtain ⟨rfl, rfl, rfl, rfl⟩ := H
  go_enter Try.func51, Try.ntmps51
  go_wp2_with (first | ((with_reducible refine gate_dst (N := 1) rfl ?_); refine box_event ?hg (N := 1) ?hd (cs := #[.int .i64 a0_0, .int .i64 a0_1, .int .i64 a0_2, .int .i64 a0_3]) (t := 26) ?hr ?_; (case hd => rfl); (case hg => rfl); (case hr => first | (go_simp; done) | (go_simp; rfl)); intro gb208 hg w2 hbox hb; have n0_ := Aside0.mk (below_step (by repeat (first | (with_reducible first | exact HB.out | apply below_alloc | apply pw_below_drewN | apply below_drew1) | exact HB.out)) hb); have n1_ := Aside0.mk (hbox); have n2_ := Aside0.mk ((by rw [hg]; exact (below_size (by repeat (first | (with_reducible first | exact HB.out | apply below_alloc | apply pw_below_drewN | apply below_drew1) | exact HB.out))) : w.heap.size ≤ gb208)); have n3_ := Aside0.mk ((by rw [hg]; exact (below_size (by repeat (first | (with_reducible first | exact HB.out | apply below_alloc | apply pw_below_drewN | apply below_drew1) | exact HB.out))) : w.heap.size ≤ gb208)); clear HB; have HB := n0_; have BK208 := n1_; have GW208 := n2_; have GE208 := n3_; clear n0_ n1_ n2_ n3_; clear hb hbox hg) | ((with_reducible refine gate_dst (N := 2) rfl ?_); refine box_event ?hg (N := 2) ?hd (cs := #[.int .i64 0, .int .i64 0, .int .i64 0, .int .i64 0]) (t := 32) ?hr ?_; (case hd => rfl); (case hg => rfl); (case hr => first | (go_simp; done) | (go_simp; rfl)); intro gb209 hg w3 hbox hb; have n0_ := Aside0.mk (blk_below (g := gb208) (o := .cells #[.int .i64 a0_0, .int .i64 a0_1, .int .i64 a0_2, .int .i64 a0_3] 26 (0, 0)) (by (with_reducible repeat (first | refine blk_drewN ?_ _ | refine blk_drew ?_ | refine blk_alloc ?_ _)); exact BK208.out) hb); have n1_ := Aside0.mk (below_step (by repeat (first | (with_reducible first | exact HB.out | apply below_alloc | apply pw_below_drewN | apply below_drew1 | refine below_set ?_ GE208.out) | exact HB.out)) hb); have n2_ := Aside0.mk (hbox); have n3_ := Aside0.mk ((by rw [hg]; exact (below_size (by repeat (first | (with_reducible first | exact HB.out | apply below_alloc | apply pw_below_drewN | apply below_drew1 | refine below_set ?_ GE208.out) | exact HB.out))) : w.heap.size ≤ gb209)); have n4_ := Aside0.mk ((by rw [hg]; exact (below_size (by repeat (first | (with_reducible first | exact HB.out | apply below_alloc | apply pw_below_drewN | apply below_drew1 | refine below_set ?_ GE208.out) | exact HB.out))) : w.heap.size ≤ gb209)); have n5_ := Aside0.mk ((by rw [hg]; exact Nat.ne_of_lt (blk_lt (g := gb208) (o := .cells #[.int .i64 a0_0, .int .i64 a0_1, .int .i64 a0_2, .int .i64 a0_3] 26 (0, 0)) (by (with_reducible repeat (first | refine blk_drewN ?_ _ | refine blk_drew ?_ | refine blk_alloc ?_ _)); exact BK208.out)) : gb208 ≠ gb209)); have n6_ := Aside0.mk ((by rw [hg]; exact Nat.ne_of_gt (blk_lt (g := gb208) (o := .cells #[.int .i64 a0_0, .int .i64 a0_1, .int .i64 a0_2, .int .i64 a0_3] 26 (0, 0)) (by (with_reducible repeat (first | refine blk_drewN ?_ _ | refine blk_drew ?_ | refine blk_alloc ?_ _)); exact BK208.out)) : gb209 ≠ gb208)); clear BK208; clear HB; have BK208 := n0_; have HB := n1_; have BK209 := n2_; have GW209 := n3_; have GE209 := n4_; have NB208_209 := n5_; have NB209_208 := n6_; clear n0_ n1_ n2_ n3_ n4_ n5_ n6_; clear hb hbox hg) | ((with_reducible refine gate_dst (N := 3) rfl ?_); refine box_event ?hg (N := 3) ?hd (cs := #[.int .i64 0, .int .i64 0, .int .i64 0, .int .i64 0]) (t := 32) ?hr ?_; (case hd => rfl); (case hg => rfl); (case hr => first | (go_simp; done) | (go_simp; rfl)); intro gb210 hg w4 hbox hb; have n0_ := Aside0.mk (blk_below (g := gb208) (o := .cells #[.int .i64 a0_0, .int .i64 a0_1, .int .i64 a0_2, .int .i64 a0_3] 26 (0, 0)) (by (with_reducible repeat (first | refine blk_drewN ?_ _ | refine blk_drew ?_ | refine blk_alloc ?_ _)); exact BK208.out) hb); have n1_ := Aside0.mk (blk_below (g := gb209) (o := .cells #[.int .i64 0, .int .i64 0, .int .i64 0, .int .i64 0] 32 (0, 0)) (by (with_reducible repeat (first | refine blk_drewN ?_ _ | refine blk_drew ?_ | refine blk_alloc ?_ _)); exact BK209.out) hb); have n2_ := Aside0.mk (below_step (by repeat (first | (with_reducible first | exact HB.out | apply below_alloc | apply pw_below_drewN | apply below_drew1 | refine below_set ?_ GE208.out | refine below_set ?_ GE209.out) | exact HB.out)) hb); have n3_ := Aside0.mk (hbox); have n4_ := Aside0.mk ((by rw [hg]; exact (below_size (by repeat (first | (with_reducible first | exact HB.out | apply below_alloc | apply pw_below_drewN | apply below_drew1 | refine below_set ?_ GE208.out | refine below_set ?_ GE209.out) | exact HB.out))) : w.heap.size ≤ gb210)); have n5_ := Aside0.mk ((by rw [hg]; exact (below_size (by repeat (first | (with_reducible first | exact HB.out | apply below_alloc | apply pw_below_drewN | apply below_drew1 | refine below_set ?_ GE208.out | refine below_set ?_ GE209.out) | exact HB.out))) : w.heap.size ≤ gb210)); have n6_ := Aside0.mk ((by rw [hg]; exact Nat.ne_of_lt (blk_lt (g := gb208) (o := .cells #[.int .i64 a0_0, .int .i64 a0_1, .int .i64 a0_2, .int .i64 a0_3] 26 (0, 0)) (by (with_reducible repeat (first | refine blk_drewN ?_ _ | refine blk_drew ?_ | refine blk_alloc ?_ _)); exact BK208.out)) : gb208 ≠ gb210)); have n7_ := Aside0.mk ((by rw [hg]; exact Nat.ne_of_gt (blk_lt (g := gb208) (o := .cells #[.int .i64 a0_0, .int .i64 a0_1, .int .i64 a0_2, .int .i64 a0_3] 26 (0, 0)) (by (with_reducible repeat (first | refine blk_drewN ?_ _ | refine blk_drew ?_ | refine blk_alloc ?_ _)); exact BK208.out)) : gb210 ≠ gb208)); have n8_ := Aside0.mk ((by rw [hg]; exact Nat.ne_of_lt (blk_lt (g := gb209) (o := .cells #[.int .i64 0, .int .i64 0, .int .i64 0, .int .i64 0] 32 (0, 0)) (by (with_reducible repeat (first | refine blk_drewN ?_ _ | refine blk_drew ?_ | refine blk_alloc ?_ _)); exact BK209.out)) : gb209 ≠ gb210)); have n9_ := Aside0.mk ((by rw [hg]; exact Nat.ne_of_gt (blk_lt (g := gb209) (o := .cells #[.int .i64 0, .int .i64 0, .int .i64 0, .int .i64 0] 32 (0, 0)) (by (with_reducible repeat (first | refine blk_drewN ?_ _ | refine blk_drew ?_ | refine blk_alloc ?_ _)); exact BK209.out)) : gb210 ≠ gb209)); clear BK208; clear BK209; clear HB; have BK208 := n0_; have BK209 := n1_; have HB := n2_; have BK210 := n3_; have GW210 := n4_; have GE210 := n5_; have NB208_210 := n6_; have NB210_208 := n7_; have NB209_210 := n8_; have NB210_209 := n9_; clear n0_ n1_ n2_ n3_ n4_ n5_ n6_ n7_ n8_ n9_; clear hb hbox hg; have hnb5 := NB208_209.out; have hnc5 := NB209_208.out; have hnb6 := NB208_210.out; have hnc6 := NB210_208.out; have hcz7_0 : w4.cell? ⟨gb208, 0, none⟩ = some (.int .i64 a0_0) := (blk_cell BK208.out 0).trans rfl; have hcz7_1 : w4.cell? ⟨gb208, 1, none⟩ = some (.int .i64 a0_1) := (blk_cell BK208.out 1).trans rfl; have hcz7_2 : w4.cell? ⟨gb208, 2, none⟩ = some (.int .i64 a0_2) := (blk_cell BK208.out 2).trans rfl; have hcz7_3 : w4.cell? ⟨gb208, 3, none⟩ = some (.int .i64 a0_3) := (blk_cell BK208.out 3).trans rfl; have hfz7_0 := blk_frozen BK208.out 0; have hfz7_1 := blk_frozen BK208.out 1; have hfz7_2 := blk_frozen BK208.out 2; have hfz7_3 := blk_frozen BK208.out 3; have hnb8 := NB210_209.out; have hnc8 := NB209_210.out; have hcz9_0 : w4.cell? ⟨gb210, 0, none⟩ = some (.int .i64 0) := (blk_cell BK210.out 0).trans rfl; have hcz9_1 : w4.cell? ⟨gb210, 1, none⟩ = some (.int .i64 0) := (blk_cell BK210.out 1).trans rfl; have hcz9_2 : w4.cell? ⟨gb210, 2, none⟩ = some (.int .i64 0) := (blk_cell BK210.out 2).trans rfl; have hcz9_3 : w4.cell? ⟨gb210, 3, none⟩ = some (.int .i64 0) := (blk_cell BK210.out 3).trans rfl; have hfz9_0 := blk_frozen BK210.out 0; have hfz9_1 := blk_frozen BK210.out 1; have hfz9_2 := blk_frozen BK210.out 2; have hfz9_3 := blk_frozen BK210.out 3; have hcz10_0 : w4.cell? ⟨gb209, 0, none⟩ = some (.int .i64 0) := (blk_cell BK209.out 0).trans rfl; have hcz10_1 : w4.cell? ⟨gb209, 1, none⟩ = some (.int .i64 0) := (blk_cell BK209.out 1).trans rfl; have hcz10_2 : w4.cell? ⟨gb209, 2, none⟩ = some (.int .i64 0) := (blk_cell BK209.out 2).trans rfl; have hcz10_3 : w4.cell? ⟨gb209, 3, none⟩ = some (.int .i64 0) := (blk_cell BK209.out 3).trans rfl; have hfz10_0 := blk_frozen BK209.out 0; have hfz10_1 := blk_frozen BK209.out 1; have hfz10_2 := blk_frozen BK209.out 2; have hfz10_3 := blk_frozen BK209.out 3))
  refine bodyPost_ret (results_cell_row rfl _ _ gb209 32 #[.int .i64 a0_0, .int .i64 a0_1, .int .i64 a0_2, .int .i64 a0_3] (0, 0) _ rfl (by (with_reducible repeat (first | refine blk_drewN ?_ _ | refine blk_drew ?_ | refine blk_alloc ?_ _)); refine blk_put (cs := #[.int .i64 a0_0, .int .i64 a0_1, .int .i64 a0_2, .int .i64 0]) ?_ 3 _ rfl; (with_reducible repeat (first | refine blk_drewN ?_ _ | refine blk_drew ?_ | refine blk_alloc ?_ _)); refine blk_put (cs := #[.int .i64 a0_0, .int .i64 a0_1, .int .i64 0, .int .i64 0]) ?_ 2 _ rfl; (with_reducible repeat (first | refine blk_drewN ?_ _ | refine blk_drew ?_ | refine blk_alloc ?_ _)); refine blk_put (cs := #[.int .i64 a0_0, .int .i64 0, .int .i64 0, .int .i64 0]) ?_ 1 _ rfl; (with_reducible repeat (first | refine blk_drewN ?_ _ | refine blk_drew ?_ | refine blk_alloc ?_ _)); refine blk_put (cs := #[.int .i64 0, .int .i64 0, .int .i64 0, .int .i64 0]) ?_ 0 _ rfl; (with_reducible repeat (first | refine blk_drewN ?_ _ | refine blk_drew ?_ | refine blk_alloc ?_ _)); refine blk_far ?_ NB209_210.out _; (with_reducible repeat (first | refine blk_drewN ?_ _ | refine blk_drew ?_ | refine blk_alloc ?_ _)); refine blk_far ?_ NB209_210.out _; (with_reducible repeat (first | refine blk_drewN ?_ _ | refine blk_drew ?_ | refine blk_alloc ?_ _)); refine blk_far ?_ NB209_210.out _; (with_reducible repeat (first | refine blk_drewN ?_ _ | refine blk_drew ?_ | refine blk_alloc ?_ _)); refine blk_far ?_ NB209_210.out _; (with_reducible repeat (first | refine blk_drewN ?_ _ | refine blk_drew ?_ | refine blk_alloc ?_ _)); exact BK209.out) Try.underlying32 rfl (by kernel_rfl)) rfl ?_
  exact ⟨by first | rfl | (simp [errW_none, errW_some] <;> rfl) | (simp [*, errW_none, errW_some] <;> rfl), by repeat (first | (with_reducible first | exact HB.out | apply below_alloc | apply pw_below_drewN | apply below_drew1 | refine below_set ?_ GE208.out | refine below_set ?_ GE209.out | refine below_set ?_ GE210.out) | exact HB.out)⟩

end Go.Proofs.Ytaieobidkmihkaa.P


-- written by wip/gen_law.py
namespace Go.Proofs.Ytaieobidkmihkaa.P
open Go.RowKit Go.Proofs.YtaieobidkmihkaaW.PrintWords Go.Proofs.YtaieobidkmihkaaW.PrintLast Go.Proofs.YtaieobidkmihkaaW.PrintMore Go.Proofs.YtaieobidkmihkaaW.Mine
open List (setIfInBounds_toArray set_cons_zero set_cons_succ)
attribute [local go_sem] max2_int min2_int max_two min_two max_three min_three max_four min_four
set_option linter.unusedVariables false
set_option linter.unusedSimpArgs false
set_option maxHeartbeats 8000000 in
set_option maxRecDepth 100000 in
theorem FnExactFillWindow_run0 (A0_0 : Option Addr) (c0_0 : Nat) (l0_0 : List (List Int)) (a1_0 : Int) (a1_1 : Int) (a1_2 : Int) (a1_3 : Int) (a2_0 : Int) (r1_0 : Int) (w : World) (hr0_0 : Kd.C (Kd.slice 5 (Kd.int .u8)) w A0_0 l0_0.length l0_0) (hc0_0 : l0_0.length ≤ c0_0) (H1 : ∃ k, laws_szMemory.f k l0_0 1048576 = some r1_0) (P_ : r1_0 < 0) :
    Calls Try.prog 10 #[.agg #[.slice A0_0 l0_0.length c0_0], .agg #[.int .i64 a1_0, .int .i64 a1_1, .int .i64 a1_2, .int .i64 a1_3], .int .u8 a2_0] w fun e w' => e = .returned (.bool true) ∧ Below w.heap.size w w' := by
  have HR0_0 := Aside0.mk hr0_0; have HC0_0 := Aside0.mk hc0_0; clear hr0_0 hc0_0
  obtain ⟨k, H1_⟩ := H1; have H1 := Aside0.mk H1_; clear H1_
  have Pb_ : decide (r1_0 < 0) = true := decide_eq_true P_; clear P_
  have HS0 : Aside0 (Stk w [] w) := ⟨Stk.nil w⟩
  go_enter Try.func10, Try.ntmps10
  refine reg (aF := ?_) (nw := ?_) [evB 0 3 [] 24 (fun s => #[.slice A0_0 l0_0.length c0_0]) 9999 [] (fun s => #[.slice A0_0 l0_0.length c0_0]), evB 1 4 [] 26 (fun s => #[.int .i64 a1_0, .int .i64 a1_1, .int .i64 a1_2, .int .i64 a1_3]) 9999 [] (fun s => #[.int .i64 a1_0, .int .i64 a1_1, .int .i64 a1_2, .int .i64 a1_3]), evP 2 6 [] (fun s => .bool false)] [] [] false 3 rfl rfl (by kernel_rfl) rfl (mf0) ?aF ?nw HS0.out ?hs ?_
  rotate_left 2
  case aF => intro s; simp only [putE, EvT.val, Act.put, setIfInBounds_toArray, set_cons_zero, set_cons_succ]; rfl
  case nw => intro s; simp only [thA, bsA, List.nil_append, List.cons_append, List.append_nil, if_true, if_false, Nat.reduceLT, set_cons_zero, set_cons_succ]; rfl
  case hs => exact ⟨bv rfl (fun s w => by go_simp; try rfl), bv rfl (fun s w => by go_simp; try rfl), pu rfl, trivial⟩
  intro s1 w1 h; have HS1 := Aside0.mk h; clear h HS0
  refine tl0 ?_
  refine reg0 (aF := ?_) [] [0] false 1 rfl rfl (by kernel_rfl) rfl (fun _ => rfl) ?aF HS1.out ?hs ?_
  rotate_left 1
  case aF => intro s; simp only [putE, EvT.val, Act.put, setIfInBounds_toArray, set_cons_zero, set_cons_succ]; rfl
  case hs => exact trivial
  intro s2 w2 h; have HS2 := Aside0.mk h; clear h HS1
  refine tlP (v := .int .i64 1048576) 7 rfl ?_
  refine tl0 ?_
  refine reg0 (aF := ?_) [evL 0 18 [] (fun s => .agg #[.slice A0_0 l0_0.length c0_0]), evP 1 19 [] (fun s => .int .i64 1048576), evC 2 (some 20) [] (fun s x => .int .i64 r1_0) (fun s x => [])] [3] false 4 rfl rfl (by kernel_rfl) rfl (fun _ => rfl) ?aF HS2.out ?hs ?_
  rotate_left 1
  case aF => intro s; simp only [putE, EvT.val, Act.put, setIfInBounds_toArray, set_cons_zero, set_cons_succ]; rfl
  case hs => exact ⟨ld rfl 0 (fun s => rfl) (fun s w h => by have h0 := h 0 _ rfl; clear h; go_simp; try rfl), pu rfl, cl rfl (fun s => #[.agg #[.slice A0_0 l0_0.length c0_0], .int .i64 1048576]) Try.func15 (fun s w1 h => (laws_szMemory.calls _ _ _ _ _ _ _ (Kd.C_below HR0_0.out h.hb) HC0_0.out H1.out).mono (by rintro e w2 ⟨rfl, hb⟩; exact fin0 hb)), trivial⟩
  intro s3 w3 h; have HS3 := Aside0.mk h; clear h HS2
  refine tlP (v := .int .i64 r1_0) 7 rfl ?_
  refine tl0 ?_
  refine wp_seq ?_
  refine reg0 (aF := ?_) [evP 0 21 [] (fun s => .int .i64 r1_0), evP 1 22 [] (fun s => .bool true)] [] false 2 rfl rfl (by kernel_rfl) rfl (fun _ => rfl) ?aF HS3.out ?hs ?_
  rotate_left 1
  case aF => intro s; simp only [putE, EvT.val, Act.put, setIfInBounds_toArray, set_cons_zero, set_cons_succ]; rfl
  case hs => exact ⟨pu rfl, pb (q := .lss) Pb_ rfl, trivial⟩
  intro s4 w4 h; have HS4 := Aside0.mk h; clear h HS3
  refine tl0 ?_
  refine wp_cond_true rfl ?_
  refine reg0 (aF := ?_) [] [0] false 1 rfl rfl (by kernel_rfl) rfl (fun _ => rfl) ?aF HS4.out ?hs ?_
  rotate_left 1
  case aF => intro s; simp only [putE, EvT.val, Act.put, setIfInBounds_toArray, set_cons_zero, set_cons_succ]; rfl
  case hs => exact trivial
  intro s5 w5 h; have HS5 := Aside0.mk h; clear h HS4
  refine tlP (v := .bool true) 6 rfl ?_
  refine tl0 ?_
  refine wp_ret ?_
  go_ret
  exact ⟨by first | rfl | simp, HS5.out.hb⟩
set_option maxHeartbeats 8000000 in
set_option maxRecDepth 100000 in
theorem FnExactFillWindow_run (A0_0 : Option Addr) (c0_0 : Nat) (l0_0 : List (List Int)) (a1_0 : Int) (a1_1 : Int) (a1_2 : Int) (a1_3 : Int) (a2_0 : Int) (r1_0 : Int) (r2_0 : List (List Int)) (r3_0 : Int) (r3_1 : Int) (r3_2 : Int) (r3_3 : Int) (r4_0 : List (List Int)) (r4_1 : Bool) (r8_0 : Int) (r8_1 : List (List Int)) (r9_0 : Int) (r9_1 : List (List Int)) (w : World) (hr0_0 : Kd.C (Kd.slice 5 (Kd.int .u8)) w A0_0 l0_0.length l0_0) (hc0_0 : l0_0.length ≤ c0_0) (H1 : ∃ k, laws_szMemory.f k l0_0 1048576 = some r1_0) (H2 : laws_toMemory.f l0_0 = some r2_0) (H3 : laws_toWindow.f a1_0 a1_1 a1_2 a1_3 = some (r3_0, r3_1, r3_2, r3_3)) (H4 : ∃ k, spec_FillWindow.f k r2_0 r3_0 r3_1 r3_2 r3_3 a2_0 = some (r4_0, r4_1)) (H5 : impl_FillWindow.f r2_0 r3_0 r3_1 r3_2 r3_3 a2_0 = some (r4_0, r4_1)) (H6 : ∃ k, laws_eqMemory.f k r4_0 r4_0 = some true) (H7 : ∃ k, laws_eqMemory.f k r2_0 r2_0 = some true) (H8 : laws_markMemory.f r2_0 1 = some (r8_0, r8_1)) (H9 : laws_markMemory.f r4_0 1 = some (r9_0, r9_1)) (H10 : ∃ k, laws_heldMemory.f k r9_1 1 = some r9_0) (N_r1_0 : ¬ r1_0 < 0) (N_r8_0 : ¬ r8_0 < 0) (N_r9_0 : ¬ r9_0 < 0) :
    Calls Try.prog 10 #[.agg #[.slice A0_0 l0_0.length c0_0], .agg #[.int .i64 a1_0, .int .i64 a1_1, .int .i64 a1_2, .int .i64 a1_3], .int .u8 a2_0] w fun e w' => e = .returned (.bool true) ∧ Below w.heap.size w w' := by
  have HR0_0 := Aside0.mk hr0_0; have HC0_0 := Aside0.mk hc0_0; clear hr0_0 hc0_0
  obtain ⟨k, H1_⟩ := H1; have H1 := Aside0.mk H1_; clear H1_
  have H2_ := Aside0.mk H2; clear H2; have H2 := H2_; clear H2_
  have H3_ := Aside0.mk H3; clear H3; have H3 := H3_; clear H3_
  obtain ⟨k, H4_⟩ := H4; have H4 := Aside0.mk H4_; clear H4_
  have H5_ := Aside0.mk H5; clear H5; have H5 := H5_; clear H5_
  obtain ⟨k, H6_⟩ := H6; have H6 := Aside0.mk H6_; clear H6_
  obtain ⟨k, H7_⟩ := H7; have H7 := Aside0.mk H7_; clear H7_
  have H8_ := Aside0.mk H8; clear H8; have H8 := H8_; clear H8_
  have H9_ := Aside0.mk H9; clear H9; have H9 := H9_; clear H9_
  obtain ⟨k, H10_⟩ := H10; have H10 := Aside0.mk H10_; clear H10_
  have Nb_r1_0 : decide (r1_0 < 0) = false := decide_eq_false N_r1_0; clear N_r1_0
  have Nb_r8_0 : decide (r8_0 < 0) = false := decide_eq_false N_r8_0; clear N_r8_0
  have Nb_r9_0 : decide (r9_0 < 0) = false := decide_eq_false N_r9_0; clear N_r9_0
  have HS0 : Aside0 (Stk w [] w) := ⟨Stk.nil w⟩
  go_enter Try.func10, Try.ntmps10
  refine reg (aF := ?_) (nw := ?_) [evB 0 3 [] 24 (fun s => #[.slice A0_0 l0_0.length c0_0]) 9999 [] (fun s => #[.slice A0_0 l0_0.length c0_0]), evB 1 4 [] 26 (fun s => #[.int .i64 a1_0, .int .i64 a1_1, .int .i64 a1_2, .int .i64 a1_3]) 9999 [] (fun s => #[.int .i64 a1_0, .int .i64 a1_1, .int .i64 a1_2, .int .i64 a1_3]), evP 2 6 [] (fun s => .bool false)] [] [] false 3 rfl rfl (by kernel_rfl) rfl (mf0) ?aF ?nw HS0.out ?hs ?_
  rotate_left 2
  case aF => intro s; simp only [putE, EvT.val, Act.put, setIfInBounds_toArray, set_cons_zero, set_cons_succ]; rfl
  case nw => intro s; simp only [thA, bsA, List.nil_append, List.cons_append, List.append_nil, if_true, if_false, Nat.reduceLT, set_cons_zero, set_cons_succ]; rfl
  case hs => exact ⟨bv rfl (fun s w => by go_simp; try rfl), bv rfl (fun s w => by go_simp; try rfl), pu rfl, trivial⟩
  intro s1 w1 h; have HS1 := Aside0.mk h; clear h HS0
  refine tl0 ?_
  refine reg0 (aF := ?_) [] [0] false 1 rfl rfl (by kernel_rfl) rfl (fun _ => rfl) ?aF HS1.out ?hs ?_
  rotate_left 1
  case aF => intro s; simp only [putE, EvT.val, Act.put, setIfInBounds_toArray, set_cons_zero, set_cons_succ]; rfl
  case hs => exact trivial
  intro s2 w2 h; have HS2 := Aside0.mk h; clear h HS1
  refine tlP (v := .int .i64 1048576) 7 rfl ?_
  refine tl0 ?_
  refine reg0 (aF := ?_) [evL 0 18 [] (fun s => .agg #[.slice A0_0 l0_0.length c0_0]), evP 1 19 [] (fun s => .int .i64 1048576), evC 2 (some 20) [] (fun s x => .int .i64 r1_0) (fun s x => [])] [3] false 4 rfl rfl (by kernel_rfl) rfl (fun _ => rfl) ?aF HS2.out ?hs ?_
  rotate_left 1
  case aF => intro s; simp only [putE, EvT.val, Act.put, setIfInBounds_toArray, set_cons_zero, set_cons_succ]; rfl
  case hs => exact ⟨ld rfl 0 (fun s => rfl) (fun s w h => by have h0 := h 0 _ rfl; clear h; go_simp; try rfl), pu rfl, cl rfl (fun s => #[.agg #[.slice A0_0 l0_0.length c0_0], .int .i64 1048576]) Try.func15 (fun s w1 h => (laws_szMemory.calls _ _ _ _ _ _ _ (Kd.C_below HR0_0.out h.hb) HC0_0.out H1.out).mono (by rintro e w2 ⟨rfl, hb⟩; exact fin0 hb)), trivial⟩
  intro s3 w3 h; have HS3 := Aside0.mk h; clear h HS2
  refine tlP (v := .int .i64 r1_0) 7 rfl ?_
  refine tl0 ?_
  refine wp_seq ?_
  refine reg0 (aF := ?_) [evP 0 21 [] (fun s => .int .i64 r1_0), evP 1 22 [] (fun s => .bool false)] [] false 2 rfl rfl (by kernel_rfl) rfl (fun _ => rfl) ?aF HS3.out ?hs ?_
  rotate_left 1
  case aF => intro s; simp only [putE, EvT.val, Act.put, setIfInBounds_toArray, set_cons_zero, set_cons_succ]; rfl
  case hs => exact ⟨pu rfl, pb (q := .lss) Nb_r1_0 rfl, trivial⟩
  intro s4 w4 h; have HS4 := Aside0.mk h; clear h HS3
  refine tl0 ?_
  refine wp_cond_false rfl ?_
  refine wp_skip ?_
  refine thN ?_
  refine reg (aF := ?_) (nw := ?_) [evL 0 24 [] (fun s => .agg #[.slice A0_0 l0_0.length c0_0]), evC 1 (some 25) [] (fun s x => .agg #[.slice x.A r2_0.length x.c]) (fun s x => [rowS (Kd.slice 5 (Kd.int .u8)) 29 w x.lo x.hi x.A x.c r2_0]), evL 2 26 [] (fun s => .agg #[.int .i64 a1_0, .int .i64 a1_1, .int .i64 a1_2, .int .i64 a1_3]), evC 3 (some 27) [] (fun s x => .agg #[.int .i64 r3_0, .int .i64 r3_1, .int .i64 r3_2, .int .i64 r3_3]) (fun s x => []), evP 4 28 [] (fun s => .int .u8 a2_0), evC 5 (some 29) [1] (fun s x => .tuple #[.agg #[.slice x.A r4_0.length x.c], .bool r4_1]) (fun s x => [rowS (Kd.slice 5 (Kd.int .u8)) 29 w x.lo x.hi x.A x.c r4_0]), evP 6 23 [5] (fun s => .tuple #[.agg #[.slice (s 5).A r4_0.length (s 5).c], .bool r4_1]), evP 7 30 [5] (fun s => .agg #[.slice (s 5).A r4_0.length (s 5).c]), evP 8 31 [] (fun s => .bool r4_1), evB 9 8 [] 31 (fun s => #[.slice none 0 0]) 10 [5] (fun s => #[.slice (s 5).A r4_0.length (s 5).c]), evS 10] [11] [] true 12 rfl rfl (by kernel_rfl) rfl (mf0) ?aF ?nw HS4.out ?hs ?_
  rotate_left 2
  case aF => intro s; simp only [putE, EvT.val, Act.put, setIfInBounds_toArray, set_cons_zero, set_cons_succ]; rfl
  case nw => intro s; simp only [thA, bsA, List.nil_append, List.cons_append, List.append_nil, if_true, if_false, Nat.reduceLT, set_cons_zero, set_cons_succ]; rfl
  case hs => exact ⟨ld rfl 0 (fun s => rfl) (fun s w h => by have h0 := h 0 _ rfl; clear h; go_simp; try rfl), cl rfl (fun s => #[.agg #[.slice A0_0 l0_0.length c0_0]]) Try.func17 (fun s w1 h => (laws_toMemory.calls _ _ _ _ _ (Kd.C_below HR0_0.out h.hb) HC0_0.out H2.out).mono (by rintro e w2 ⟨v0_, rfl, ho0, hb⟩; obtain ⟨x, rfl, hx⟩ := fin_S ho0 hb h.hb.size; exact ⟨x, rfl, hx⟩)), ld rfl 1 (fun s => rfl) (fun s w h => by have h0 := h 0 _ rfl; have h1 := h 1 _ rfl; have h2 := h 2 _ rfl; have h3 := h 3 _ rfl; clear h; go_simp; try rfl), cl rfl (fun s => #[.agg #[.int .i64 a1_0, .int .i64 a1_1, .int .i64 a1_2, .int .i64 a1_3]]) Try.func51 (fun s w1 h => (laws_toWindow.calls _ _ _ _ _ _ _ _ _ H3.out).mono (by rintro e w2 ⟨rfl, hb⟩; exact fin0 hb)), pu rfl, cl rfl (fun s => #[.agg #[.slice (s 1).A r2_0.length (s 1).c], .agg #[.int .i64 r3_0, .int .i64 r3_1, .int .i64 r3_2, .int .i64 r3_3], .int .u8 a2_0]) Try.func53 (fun s w1 h => (spec_FillWindow.calls _ _ _ _ _ _ _ _ _ _ _ _ (Kd.S_reads' (h.get 0 rfl)).2.2 (Kd.S_reads' (h.get 0 rfl)).2.1 H4.out).mono (by rintro e w2 ⟨v0_, rfl, ho0, hb⟩; obtain ⟨x, rfl, hx⟩ := fin_S ho0 hb h.hb.size; exact ⟨x, rfl, hx⟩)), pu rfl, pu rfl, pu rfl, bv rfl (fun s w => by go_simp; try rfl), st rfl 9 0 (fun s => [.slice (s 5).A r4_0.length (s 5).c]) rfl (fun s w h hf => by have h0 := h 0 _ rfl; have f0 := hf 0; clear h hf; go_simp; try rfl), trivial⟩
  intro s5 w5 h; have HS5 := Aside0.mk h; clear h HS4
  refine tlP (v := .bool r4_1) 9 rfl ?_
  refine tl0 ?_
  refine reg (aF := ?_) (nw := ?_) [evL 0 32 [] (fun s => .agg #[.slice A0_0 l0_0.length c0_0]), evC 1 (some 33) [] (fun s x => .agg #[.slice x.A r2_0.length x.c]) (fun s x => [rowS (Kd.slice 5 (Kd.int .u8)) 29 w x.lo x.hi x.A x.c r2_0]), evB 2 10 [] 31 (fun s => #[.slice none 0 0]) 3 [1] (fun s => #[.slice (s 1).A r2_0.length (s 1).c]), evS 3] [] [] false 4 rfl rfl (by kernel_rfl) rfl (mf0) ?aF ?nw HS5.out ?hs ?_
  rotate_left 2
  case aF => intro s; simp only [putE, EvT.val, Act.put, setIfInBounds_toArray, set_cons_zero, set_cons_succ]; rfl
  case nw => intro s; simp only [thA, bsA, List.nil_append, List.cons_append, List.append_nil, if_true, if_false, Nat.reduceLT, set_cons_zero, set_cons_succ]; rfl
  case hs => exact ⟨ld rfl 3 (fun s => rfl) (fun s w h => by have h0 := h 0 _ rfl; clear h; go_simp; try rfl), cl rfl (fun s => #[.agg #[.slice A0_0 l0_0.length c0_0]]) Try.func17 (fun s w1 h => (laws_toMemory.calls _ _ _ _ _ (Kd.C_below HR0_0.out h.hb) HC0_0.out H2.out).mono (by rintro e w2 ⟨v0_, rfl, ho0, hb⟩; obtain ⟨x, rfl, hx⟩ := fin_S ho0 hb h.hb.size; exact ⟨x, rfl, hx⟩)), bv rfl (fun s w => by go_simp; try rfl), st rfl 2 0 (fun s => [.slice (s 1).A r2_0.length (s 1).c]) rfl (fun s w h hf => by have h0 := h 0 _ rfl; have f0 := hf 0; clear h hf; go_simp; try rfl), trivial⟩
  intro s6 w6 h; have HS6 := Aside0.mk h; clear h HS5
  refine tl0 ?_
  refine reg (aF := ?_) (nw := ?_) [evR 0 35 1 (fun s => .agg #[.slice (s6 1).A r2_0.length (s6 1).c]), evL 1 36 [] (fun s => .agg #[.int .i64 a1_0, .int .i64 a1_1, .int .i64 a1_2, .int .i64 a1_3]), evC 2 (some 37) [] (fun s x => .agg #[.int .i64 r3_0, .int .i64 r3_1, .int .i64 r3_2, .int .i64 r3_3]) (fun s x => []), evP 3 38 [] (fun s => .int .u8 a2_0), evC 4 (some 39) [] (fun s x => .tuple #[.agg #[.slice x.A r4_0.length x.c], .bool r4_1]) (fun s x => [rowS (Kd.slice 5 (Kd.int .u8)) 29 w x.lo x.hi x.A x.c r4_0]), evP 5 34 [4] (fun s => .tuple #[.agg #[.slice (s 4).A r4_0.length (s 4).c], .bool r4_1]), evP 6 40 [4] (fun s => .agg #[.slice (s 4).A r4_0.length (s 4).c]), evP 7 41 [] (fun s => .bool r4_1), evB 8 11 [] 31 (fun s => #[.slice none 0 0]) 9 [4] (fun s => #[.slice (s 4).A r4_0.length (s 4).c]), evS 9] [10] [] true 11 rfl rfl (by kernel_rfl) rfl (mf0) ?aF ?nw HS6.out ?hs ?_
  rotate_left 2
  case aF => intro s; simp only [putE, EvT.val, Act.put, setIfInBounds_toArray, set_cons_zero, set_cons_succ]; rfl
  case nw => intro s; simp only [thA, bsA, List.nil_append, List.cons_append, List.append_nil, if_true, if_false, Nat.reduceLT, set_cons_zero, set_cons_succ]; rfl
  case hs => exact ⟨lr rfl 1 rfl (fun s w h => by have h0 := h 0 _ rfl; clear h; go_simp; try rfl), ld rfl 6 (fun s => rfl) (fun s w h => by have h0 := h 0 _ rfl; have h1 := h 1 _ rfl; have h2 := h 2 _ rfl; have h3 := h 3 _ rfl; clear h; go_simp; try rfl), cl rfl (fun s => #[.agg #[.int .i64 a1_0, .int .i64 a1_1, .int .i64 a1_2, .int .i64 a1_3]]) Try.func51 (fun s w1 h => (laws_toWindow.calls _ _ _ _ _ _ _ _ _ H3.out).mono (by rintro e w2 ⟨rfl, hb⟩; exact fin0 hb)), pu rfl, cl rfl (fun s => #[.agg #[.slice (s6 1).A r2_0.length (s6 1).c], .agg #[.int .i64 r3_0, .int .i64 r3_1, .int .i64 r3_2, .int .i64 r3_3], .int .u8 a2_0]) Try.func54 (fun s w1 h => (impl_FillWindow.calls _ _ _ _ _ _ _ _ _ _ _ (Kd.S_reads' (h.get 0 rfl)).2.2 (Kd.S_reads' (h.get 0 rfl)).2.1 H5.out).mono (by rintro e w2 ⟨v0_, rfl, ho0, hb⟩; obtain ⟨x, rfl, hx⟩ := fin_S ho0 hb h.hb.size; exact ⟨x, rfl, hx⟩)), pu rfl, pu rfl, pu rfl, bv rfl (fun s w => by go_simp; try rfl), st rfl 8 0 (fun s => [.slice (s 4).A r4_0.length (s 4).c]) rfl (fun s w h hf => by have h0 := h 0 _ rfl; have f0 := hf 0; clear h hf; go_simp; try rfl), trivial⟩
  intro s7 w7 h; have HS7 := Aside0.mk h; clear h HS6
  refine tlP (v := .bool r4_1) 12 rfl ?_
  refine tl0 ?_
  refine wp_seq ?_
  refine reg0 (aF := ?_) [evL 0 42 [] (fun s => .agg #[.slice (s7 4).A r4_0.length (s7 4).c]), evL 1 43 [] (fun s => .agg #[.slice (s5 5).A r4_0.length (s5 5).c]), evC 2 (some 44) [] (fun s x => .bool true) (fun s x => []), evP 3 45 [] (fun s => .bool false), evP 4 46 [] (fun s => .bool false), evP 5 47 [] (fun s => .bool r4_1), evP 6 48 [] (fun s => .bool r4_1), evP 7 49 [] (fun s => .bool false), evP 8 50 [] (fun s => .bool false)] [] false 9 rfl rfl (by kernel_rfl) rfl (fun _ => rfl) ?aF HS7.out ?hs ?_
  rotate_left 1
  case aF => intro s; simp only [putE, EvT.val, Act.put, setIfInBounds_toArray, set_cons_zero, set_cons_succ]; rfl
  case hs => exact ⟨ld rfl 1 (fun s => rfl) (fun s w h => by have h0 := h 0 _ rfl; clear h; go_simp; try rfl), ld rfl 6 (fun s => rfl) (fun s w h => by have h0 := h 0 _ rfl; clear h; go_simp; try rfl), cl rfl (fun s => #[.agg #[.slice (s7 4).A r4_0.length (s7 4).c], .agg #[.slice (s5 5).A r4_0.length (s5 5).c]]) Try.func21 (fun s w1 h => (laws_eqMemory.calls _ _ _ _ _ _ _ _ _ (Kd.S_reads' (h.get 0 rfl)).2.2 (Kd.S_reads' (h.get 0 rfl)).2.1 (Kd.S_reads' (h.get 5 rfl)).2.2 (Kd.S_reads' (h.get 5 rfl)).2.1 H6.out).mono (by rintro e w2 ⟨rfl, hb⟩; exact fin0 hb)), pu rfl, pu rfl, pu rfl, pu rfl, pn Try.underlying4 rfl, pu rfl, trivial⟩
  intro s8 w8 h; have HS8 := Aside0.mk h; clear h HS7
  refine tl0 ?_
  refine wp_cond_false rfl ?_
  refine wp_skip ?_
  refine thN ?_
  refine wp_seq ?_
  refine reg (aF := ?_) (nw := ?_) [evR 0 51 3 (fun s => .agg #[.slice (s6 1).A r2_0.length (s6 1).c]), evL 1 52 [] (fun s => .agg #[.slice A0_0 l0_0.length c0_0]), evC 2 (some 53) [] (fun s x => .agg #[.slice x.A r2_0.length x.c]) (fun s x => [rowS (Kd.slice 5 (Kd.int .u8)) 29 w x.lo x.hi x.A x.c r2_0]), evC 3 (some 54) [2] (fun s x => .bool true) (fun s x => []), evP 4 55 [] (fun s => .bool false)] [] [] true 5 rfl rfl (by kernel_rfl) rfl (mf0) ?aF ?nw HS8.out ?hs ?_
  rotate_left 2
  case aF => intro s; simp only [putE, EvT.val, Act.put, setIfInBounds_toArray, set_cons_zero, set_cons_succ]; rfl
  case nw => intro s; simp only [thA, bsA, List.nil_append, List.cons_append, List.append_nil, if_true, if_false, Nat.reduceLT, set_cons_zero, set_cons_succ]; rfl
  case hs => exact ⟨lr rfl 3 rfl (fun s w h => by have h0 := h 0 _ rfl; clear h; go_simp; try rfl), ld rfl 7 (fun s => rfl) (fun s w h => by have h0 := h 0 _ rfl; clear h; go_simp; try rfl), cl rfl (fun s => #[.agg #[.slice A0_0 l0_0.length c0_0]]) Try.func17 (fun s w1 h => (laws_toMemory.calls _ _ _ _ _ (Kd.C_below HR0_0.out h.hb) HC0_0.out H2.out).mono (by rintro e w2 ⟨v0_, rfl, ho0, hb⟩; obtain ⟨x, rfl, hx⟩ := fin_S ho0 hb h.hb.size; exact ⟨x, rfl, hx⟩)), cl rfl (fun s => #[.agg #[.slice (s6 1).A r2_0.length (s6 1).c], .agg #[.slice (s 2).A r2_0.length (s 2).c]]) Try.func21 (fun s w1 h => (laws_eqMemory.calls _ _ _ _ _ _ _ _ _ (Kd.S_reads' (h.get 3 rfl)).2.2 (Kd.S_reads' (h.get 3 rfl)).2.1 (Kd.S_reads' (h.get 0 rfl)).2.2 (Kd.S_reads' (h.get 0 rfl)).2.1 H7.out).mono (by rintro e w2 ⟨rfl, hb⟩; exact fin0 hb)), pu rfl, trivial⟩
  intro s9 w9 h; have HS9 := Aside0.mk h; clear h HS8
  refine tl0 ?_
  refine wp_cond_false rfl ?_
  refine wp_skip ?_
  refine thN ?_
  refine reg0 (aF := ?_) [] [0] false 1 rfl rfl (by kernel_rfl) rfl (fun _ => rfl) ?aF HS9.out ?hs ?_
  rotate_left 1
  case aF => intro s; simp only [putE, EvT.val, Act.put, setIfInBounds_toArray, set_cons_zero, set_cons_succ]; rfl
  case hs => exact trivial
  intro s10 w10 h; have HS10 := Aside0.mk h; clear h HS9
  refine tlP (v := .int .i64 1) 13 rfl ?_
  refine tl0 ?_
  refine reg (aF := ?_) (nw := ?_) [evL 0 56 [] (fun s => .agg #[.slice (s6 1).A r2_0.length (s6 1).c]), evP 1 57 [] (fun s => .int .i64 1), evW 2 (some 58) [] (fun s => .int .i64 r8_0)] [3] [⟨3, 2, [], fun s => ⟨(s6 1).lo, (s6 1).hi, fun w_ => Kd.S (Kd.slice 5 (Kd.int .u8)) 29 w_ w.heap.size (fun k_ => (s6 1).lo ≤ k_ ∧ k_ < (s6 1).hi) (.slice (s6 1).A r2_0.length (s6 1).c) r8_1⟩⟩] false 4 rfl rfl (by kernel_rfl) rfl ((mf1 mf0)) ?aF ?nw HS10.out ?hs ?_
  rotate_left 2
  case aF => intro s; simp only [putE, EvT.val, Act.put, setIfInBounds_toArray, set_cons_zero, set_cons_succ]; rfl
  case nw => intro s; simp only [thA, bsA, List.nil_append, List.cons_append, List.append_nil, if_true, if_false, Nat.reduceLT, set_cons_zero, set_cons_succ]; rfl
  case hs => exact ⟨ld rfl 4 (fun s => rfl) (fun s w h => by have h0 := h 0 _ rfl; clear h; go_simp; try rfl), pu rfl, cw rfl 0 3 rfl rfl (fun s => #[.agg #[.slice (s6 1).A r2_0.length (s6 1).c], .int .i64 1]) Try.func24 (fun s w1 h => (laws_markMemory.calls (fun k_ => (s6 1).lo ≤ k_ ∧ k_ < (s6 1).hi) _ _ _ _ _ w _ h.hb (h.get 0 rfl) H8.out).mono (by rintro e w2 ⟨rfl, ho0, hb, hk⟩; exact ⟨rfl, Wrote.of 0 h rfl hb hk (fun w_ ha => S_again ho0 ha)⟩)), trivial⟩
  intro s11 w11 h; have HS11 := Aside0.mk h; clear h HS10
  refine tlP (v := .int .i64 r8_0) 13 rfl ?_
  refine tl0 ?_
  refine wp_seq ?_
  refine reg0 (aF := ?_) [evP 0 59 [] (fun s => .int .i64 r8_0), evP 1 60 [] (fun s => .bool false), evP 2 61 [] (fun s => .bool false), evL 3 62 [] (fun s => .agg #[.slice (s7 4).A r4_0.length (s7 4).c]), evL 4 63 [] (fun s => .agg #[.slice (s5 5).A r4_0.length (s5 5).c]), evC 5 (some 64) [] (fun s x => .bool true) (fun s x => []), evP 6 65 [] (fun s => .bool false), evP 7 66 [] (fun s => .bool false), evP 8 67 [] (fun s => .bool false), evP 9 68 [] (fun s => .bool r4_1), evP 10 69 [] (fun s => .bool r4_1), evP 11 70 [] (fun s => .bool false), evP 12 71 [] (fun s => .bool false)] [] false 13 rfl rfl (by kernel_rfl) rfl (fun _ => rfl) ?aF HS11.out ?hs ?_
  rotate_left 1
  case aF => intro s; simp only [putE, EvT.val, Act.put, setIfInBounds_toArray, set_cons_zero, set_cons_succ]; rfl
  case hs => exact ⟨pu rfl, pb (q := .lss) Nb_r8_0 rfl, pu rfl, ld rfl 2 (fun s => rfl) (fun s w h => by have h0 := h 0 _ rfl; clear h; go_simp; try rfl), ld rfl 7 (fun s => rfl) (fun s w h => by have h0 := h 0 _ rfl; clear h; go_simp; try rfl), cl rfl (fun s => #[.agg #[.slice (s7 4).A r4_0.length (s7 4).c], .agg #[.slice (s5 5).A r4_0.length (s5 5).c]]) Try.func21 (fun s w1 h => (laws_eqMemory.calls _ _ _ _ _ _ _ _ _ (Kd.S_reads' (h.get 1 rfl)).2.2 (Kd.S_reads' (h.get 1 rfl)).2.1 (Kd.S_reads' (h.get 6 rfl)).2.2 (Kd.S_reads' (h.get 6 rfl)).2.1 H6.out).mono (by rintro e w2 ⟨rfl, hb⟩; exact fin0 hb)), pu rfl, pu rfl, pu rfl, pu rfl, pu rfl, pn Try.underlying4 rfl, pu rfl, trivial⟩
  intro s12 w12 h; have HS12 := Aside0.mk h; clear h HS11
  refine tl0 ?_
  refine wp_cond_false rfl ?_
  refine wp_skip ?_
  refine thN ?_
  refine reg0 (aF := ?_) [] [0] false 1 rfl rfl (by kernel_rfl) rfl (fun _ => rfl) ?aF HS12.out ?hs ?_
  rotate_left 1
  case aF => intro s; simp only [putE, EvT.val, Act.put, setIfInBounds_toArray, set_cons_zero, set_cons_succ]; rfl
  case hs => exact trivial
  intro s13 w13 h; have HS13 := Aside0.mk h; clear h HS12
  refine tlP (v := .int .i64 1) 14 rfl ?_
  refine tl0 ?_
  refine reg (aF := ?_) (nw := ?_) [evL 0 72 [] (fun s => .agg #[.slice (s7 4).A r4_0.length (s7 4).c]), evP 1 73 [] (fun s => .int .i64 1), evW 2 (some 74) [] (fun s => .int .i64 r9_0)] [3] [⟨1, 2, [], fun s => ⟨(s7 4).lo, (s7 4).hi, fun w_ => Kd.S (Kd.slice 5 (Kd.int .u8)) 29 w_ w.heap.size (fun k_ => (s7 4).lo ≤ k_ ∧ k_ < (s7 4).hi) (.slice (s7 4).A r4_0.length (s7 4).c) r9_1⟩⟩] false 4 rfl rfl (by kernel_rfl) rfl ((mf1 mf0)) ?aF ?nw HS13.out ?hs ?_
  rotate_left 2
  case aF => intro s; simp only [putE, EvT.val, Act.put, setIfInBounds_toArray, set_cons_zero, set_cons_succ]; rfl
  case nw => intro s; simp only [thA, bsA, List.nil_append, List.cons_append, List.append_nil, if_true, if_false, Nat.reduceLT, set_cons_zero, set_cons_succ]; rfl
  case hs => exact ⟨ld rfl 2 (fun s => rfl) (fun s w h => by have h0 := h 0 _ rfl; clear h; go_simp; try rfl), pu rfl, cw rfl 0 1 rfl rfl (fun s => #[.agg #[.slice (s7 4).A r4_0.length (s7 4).c], .int .i64 1]) Try.func24 (fun s w1 h => (laws_markMemory.calls (fun k_ => (s7 4).lo ≤ k_ ∧ k_ < (s7 4).hi) _ _ _ _ _ w _ h.hb (h.get 0 rfl) H9.out).mono (by rintro e w2 ⟨rfl, ho0, hb, hk⟩; exact ⟨rfl, Wrote.of 0 h rfl hb hk (fun w_ ha => S_again ho0 ha)⟩)), trivial⟩
  intro s14 w14 h; have HS14 := Aside0.mk h; clear h HS13
  refine tlP (v := .int .i64 r9_0) 14 rfl ?_
  refine tl0 ?_
  refine reg0 (aF := ?_) [] [0] false 1 rfl rfl (by kernel_rfl) rfl (fun _ => rfl) ?aF HS14.out ?hs ?_
  rotate_left 1
  case aF => intro s; simp only [putE, EvT.val, Act.put, setIfInBounds_toArray, set_cons_zero, set_cons_succ]; rfl
  case hs => exact trivial
  intro s15 w15 h; have HS15 := Aside0.mk h; clear h HS14
  refine tlP (v := .int .i64 1) 15 rfl ?_
  refine tl0 ?_
  refine reg0 (aF := ?_) [evL 0 75 [] (fun s => .agg #[.slice (s7 4).A r4_0.length (s7 4).c]), evP 1 76 [] (fun s => .int .i64 1), evC 2 (some 77) [] (fun s x => .int .i64 r9_0) (fun s x => [])] [3] false 4 rfl rfl (by kernel_rfl) rfl (fun _ => rfl) ?aF HS15.out ?hs ?_
  rotate_left 1
  case aF => intro s; simp only [putE, EvT.val, Act.put, setIfInBounds_toArray, set_cons_zero, set_cons_succ]; rfl
  case hs => exact ⟨ld rfl 2 (fun s => rfl) (fun s w h => by have h0 := h 0 _ rfl; clear h; go_simp; try rfl), pu rfl, cl rfl (fun s => #[.agg #[.slice (s7 4).A r4_0.length (s7 4).c], .int .i64 1]) Try.func26 (fun s w1 h => by rw [show r4_0.length = r9_1.length from (Kd.S_reads' (h.get 1 rfl)).1]; exact (laws_heldMemory.calls _ _ _ _ _ _ _ ((Kd.S_reads' (h.get 1 rfl)).1 ▸ (Kd.S_reads' (h.get 1 rfl)).2.2) ((Kd.S_reads' (h.get 1 rfl)).1 ▸ (Kd.S_reads' (h.get 1 rfl)).2.1) H10.out).mono (by rintro e w2 ⟨rfl, hb⟩; exact fin0 hb)), trivial⟩
  intro s16 w16 h; have HS16 := Aside0.mk h; clear h HS15
  refine tlP (v := .int .i64 r9_0) 15 rfl ?_
  refine tl0 ?_
  refine wp_seq ?_
  refine reg0 (aF := ?_) [evP 0 78 [] (fun s => .int .i64 r9_0), evP 1 79 [] (fun s => .bool false)] [] false 2 rfl rfl (by kernel_rfl) rfl (fun _ => rfl) ?aF HS16.out ?hs ?_
  rotate_left 1
  case aF => intro s; simp only [putE, EvT.val, Act.put, setIfInBounds_toArray, set_cons_zero, set_cons_succ]; rfl
  case hs => exact ⟨pu rfl, pb (q := .lss) Nb_r9_0 rfl, trivial⟩
  intro s17 w17 h; have HS17 := Aside0.mk h; clear h HS16
  refine tl0 ?_
  refine wp_cond_false rfl ?_
  refine wp_skip ?_
  refine thN ?_
  refine wp_seq ?_
  refine reg0 (aF := ?_) [evP 0 80 [] (fun s => .int .i64 r9_0), evP 1 81 [] (fun s => .int .i64 r9_0), evP 2 82 [] (fun s => .bool false)] [] false 3 rfl rfl (by kernel_rfl) rfl (fun _ => rfl) ?aF HS17.out ?hs ?_
  rotate_left 1
  case aF => intro s; simp only [putE, EvT.val, Act.put, setIfInBounds_toArray, set_cons_zero, set_cons_succ]; rfl
  case hs => exact ⟨pu rfl, pu rfl, pb (q := .neq) (bne_self_eq_false _) rfl, trivial⟩
  intro s18 w18 h; have HS18 := Aside0.mk h; clear h HS17
  refine tl0 ?_
  refine wp_cond_false rfl ?_
  refine wp_skip ?_
  refine thN ?_
  refine reg (aF := ?_) (nw := ?_) [evL 0 84 [] (fun s => .agg #[.slice A0_0 l0_0.length c0_0]), evC 1 (some 85) [] (fun s x => .agg #[.slice x.A r2_0.length x.c]) (fun s x => [rowS (Kd.slice 5 (Kd.int .u8)) 29 w x.lo x.hi x.A x.c r2_0]), evL 2 86 [] (fun s => .agg #[.int .i64 a1_0, .int .i64 a1_1, .int .i64 a1_2, .int .i64 a1_3]), evC 3 (some 87) [] (fun s x => .agg #[.int .i64 r3_0, .int .i64 r3_1, .int .i64 r3_2, .int .i64 r3_3]) (fun s x => []), evP 4 88 [] (fun s => .int .u8 a2_0), evC 5 (some 89) [1] (fun s x => .tuple #[.agg #[.slice x.A r4_0.length x.c], .bool r4_1]) (fun s x => [rowS (Kd.slice 5 (Kd.int .u8)) 29 w x.lo x.hi x.A x.c r4_0]), evP 6 83 [5] (fun s => .tuple #[.agg #[.slice (s 5).A r4_0.length (s 5).c], .bool r4_1]), evP 7 90 [5] (fun s => .agg #[.slice (s 5).A r4_0.length (s 5).c]), evP 8 91 [] (fun s => .bool r4_1), evB 9 16 [] 31 (fun s => #[.slice none 0 0]) 10 [5] (fun s => #[.slice (s 5).A r4_0.length (s 5).c]), evS 10] [11] [] true 12 rfl rfl (by kernel_rfl) rfl (mf0) ?aF ?nw HS18.out ?hs ?_
  rotate_left 2
  case aF => intro s; simp only [putE, EvT.val, Act.put, setIfInBounds_toArray, set_cons_zero, set_cons_succ]; rfl
  case nw => intro s; simp only [thA, bsA, List.nil_append, List.cons_append, List.append_nil, if_true, if_false, Nat.reduceLT, set_cons_zero, set_cons_succ]; rfl
  case hs => exact ⟨ld rfl 8 (fun s => rfl) (fun s w h => by have h0 := h 0 _ rfl; clear h; go_simp; try rfl), cl rfl (fun s => #[.agg #[.slice A0_0 l0_0.length c0_0]]) Try.func17 (fun s w1 h => (laws_toMemory.calls _ _ _ _ _ (Kd.C_below HR0_0.out h.hb) HC0_0.out H2.out).mono (by rintro e w2 ⟨v0_, rfl, ho0, hb⟩; obtain ⟨x, rfl, hx⟩ := fin_S ho0 hb h.hb.size; exact ⟨x, rfl, hx⟩)), ld rfl 9 (fun s => rfl) (fun s w h => by have h0 := h 0 _ rfl; have h1 := h 1 _ rfl; have h2 := h 2 _ rfl; have h3 := h 3 _ rfl; clear h; go_simp; try rfl), cl rfl (fun s => #[.agg #[.int .i64 a1_0, .int .i64 a1_1, .int .i64 a1_2, .int .i64 a1_3]]) Try.func51 (fun s w1 h => (laws_toWindow.calls _ _ _ _ _ _ _ _ _ H3.out).mono (by rintro e w2 ⟨rfl, hb⟩; exact fin0 hb)), pu rfl, cl rfl (fun s => #[.agg #[.slice (s 1).A r2_0.length (s 1).c], .agg #[.int .i64 r3_0, .int .i64 r3_1, .int .i64 r3_2, .int .i64 r3_3], .int .u8 a2_0]) Try.func54 (fun s w1 h => (impl_FillWindow.calls _ _ _ _ _ _ _ _ _ _ _ (Kd.S_reads' (h.get 0 rfl)).2.2 (Kd.S_reads' (h.get 0 rfl)).2.1 H5.out).mono (by rintro e w2 ⟨v0_, rfl, ho0, hb⟩; obtain ⟨x, rfl, hx⟩ := fin_S ho0 hb h.hb.size; exact ⟨x, rfl, hx⟩)), pu rfl, pu rfl, pu rfl, bv rfl (fun s w => by go_simp; try rfl), st rfl 9 0 (fun s => [.slice (s 5).A r4_0.length (s 5).c]) rfl (fun s w h hf => by have h0 := h 0 _ rfl; have f0 := hf 0; clear h hf; go_simp; try rfl), trivial⟩
  intro s19 w19 h; have HS19 := Aside0.mk h; clear h HS18
  refine tlP (v := .bool r4_1) 17 rfl ?_
  refine tl0 ?_
  refine wp_seq ?_
  refine reg0 (aF := ?_) [evL 0 92 [] (fun s => .agg #[.slice (s19 5).A r4_0.length (s19 5).c]), evL 1 93 [] (fun s => .agg #[.slice (s5 5).A r4_0.length (s5 5).c]), evC 2 (some 94) [] (fun s x => .bool true) (fun s x => []), evP 3 95 [] (fun s => .bool false), evP 4 96 [] (fun s => .bool false), evP 5 97 [] (fun s => .bool r4_1), evP 6 98 [] (fun s => .bool r4_1), evP 7 99 [] (fun s => .bool false), evP 8 100 [] (fun s => .bool false)] [] false 9 rfl rfl (by kernel_rfl) rfl (fun _ => rfl) ?aF HS19.out ?hs ?_
  rotate_left 1
  case aF => intro s; simp only [putE, EvT.val, Act.put, setIfInBounds_toArray, set_cons_zero, set_cons_succ]; rfl
  case hs => exact ⟨ld rfl 2 (fun s => rfl) (fun s w h => by have h0 := h 0 _ rfl; clear h; go_simp; try rfl), ld rfl 10 (fun s => rfl) (fun s w h => by have h0 := h 0 _ rfl; clear h; go_simp; try rfl), cl rfl (fun s => #[.agg #[.slice (s19 5).A r4_0.length (s19 5).c], .agg #[.slice (s5 5).A r4_0.length (s5 5).c]]) Try.func21 (fun s w1 h => (laws_eqMemory.calls _ _ _ _ _ _ _ _ _ (Kd.S_reads' (h.get 1 rfl)).2.2 (Kd.S_reads' (h.get 1 rfl)).2.1 (Kd.S_reads' (h.get 9 rfl)).2.2 (Kd.S_reads' (h.get 9 rfl)).2.1 H6.out).mono (by rintro e w2 ⟨rfl, hb⟩; exact fin0 hb)), pu rfl, pu rfl, pu rfl, pu rfl, pn Try.underlying4 rfl, pu rfl, trivial⟩
  intro s20 w20 h; have HS20 := Aside0.mk h; clear h HS19
  refine tl0 ?_
  refine wp_cond_false rfl ?_
  refine wp_skip ?_
  refine thN ?_
  refine reg0 (aF := ?_) [] [0] false 1 rfl rfl (by kernel_rfl) rfl (fun _ => rfl) ?aF HS20.out ?hs ?_
  rotate_left 1
  case aF => intro s; simp only [putE, EvT.val, Act.put, setIfInBounds_toArray, set_cons_zero, set_cons_succ]; rfl
  case hs => exact trivial
  intro s21 w21 h; have HS21 := Aside0.mk h; clear h HS20
  refine tlP (v := .int .i64 1) 15 rfl ?_
  refine tl0 ?_
  refine reg0 (aF := ?_) [evL 0 101 [] (fun s => .agg #[.slice (s7 4).A r4_0.length (s7 4).c]), evP 1 102 [] (fun s => .int .i64 1), evC 2 (some 103) [] (fun s x => .int .i64 r9_0) (fun s x => [])] [3] false 4 rfl rfl (by kernel_rfl) rfl (fun _ => rfl) ?aF HS21.out ?hs ?_
  rotate_left 1
  case aF => intro s; simp only [putE, EvT.val, Act.put, setIfInBounds_toArray, set_cons_zero, set_cons_succ]; rfl
  case hs => exact ⟨ld rfl 5 (fun s => rfl) (fun s w h => by have h0 := h 0 _ rfl; clear h; go_simp; try rfl), pu rfl, cl rfl (fun s => #[.agg #[.slice (s7 4).A r4_0.length (s7 4).c], .int .i64 1]) Try.func26 (fun s w1 h => by rw [show r4_0.length = r9_1.length from (Kd.S_reads' (h.get 4 rfl)).1]; exact (laws_heldMemory.calls _ _ _ _ _ _ _ ((Kd.S_reads' (h.get 4 rfl)).1 ▸ (Kd.S_reads' (h.get 4 rfl)).2.2) ((Kd.S_reads' (h.get 4 rfl)).1 ▸ (Kd.S_reads' (h.get 4 rfl)).2.1) H10.out).mono (by rintro e w2 ⟨rfl, hb⟩; exact fin0 hb)), trivial⟩
  intro s22 w22 h; have HS22 := Aside0.mk h; clear h HS21
  refine tlP (v := .int .i64 r9_0) 15 rfl ?_
  refine tl0 ?_
  refine wp_seq ?_
  refine reg0 (aF := ?_) [evP 0 104 [] (fun s => .int .i64 r9_0), evP 1 105 [] (fun s => .bool false)] [] false 2 rfl rfl (by kernel_rfl) rfl (fun _ => rfl) ?aF HS22.out ?hs ?_
  rotate_left 1
  case aF => intro s; simp only [putE, EvT.val, Act.put, setIfInBounds_toArray, set_cons_zero, set_cons_succ]; rfl
  case hs => exact ⟨pu rfl, pb (q := .lss) Nb_r9_0 rfl, trivial⟩
  intro s23 w23 h; have HS23 := Aside0.mk h; clear h HS22
  refine tl0 ?_
  refine wp_cond_false rfl ?_
  refine wp_skip ?_
  refine thN ?_
  refine wp_seq ?_
  refine reg0 (aF := ?_) [evP 0 106 [] (fun s => .int .i64 r9_0), evP 1 107 [] (fun s => .int .i64 r9_0), evP 2 108 [] (fun s => .bool false)] [] false 3 rfl rfl (by kernel_rfl) rfl (fun _ => rfl) ?aF HS23.out ?hs ?_
  rotate_left 1
  case aF => intro s; simp only [putE, EvT.val, Act.put, setIfInBounds_toArray, set_cons_zero, set_cons_succ]; rfl
  case hs => exact ⟨pu rfl, pu rfl, pb (q := .neq) (bne_self_eq_false _) rfl, trivial⟩
  intro s24 w24 h; have HS24 := Aside0.mk h; clear h HS23
  refine tl0 ?_
  refine wp_cond_false rfl ?_
  refine wp_skip ?_
  refine thN ?_
  refine reg0 (aF := ?_) [] [0] false 1 rfl rfl (by kernel_rfl) rfl (fun _ => rfl) ?aF HS24.out ?hs ?_
  rotate_left 1
  case aF => intro s; simp only [putE, EvT.val, Act.put, setIfInBounds_toArray, set_cons_zero, set_cons_succ]; rfl
  case hs => exact trivial
  intro s25 w25 h; have HS25 := Aside0.mk h; clear h HS24
  refine tlP (v := .bool true) 6 rfl ?_
  refine tl0 ?_
  refine wp_ret ?_
  go_ret
  exact ⟨by first | rfl | simp, HS25.out.hb⟩
end Go.Proofs.Ytaieobidkmihkaa.P


/- The law FnExactFillWindow. -/
namespace Go.Proofs.Ytaieobidkmihkaa.P
open Go.RowKit Go.Proofs.YtaieobidkmihkaaW.PrintWords Go.Proofs.YtaieobidkmihkaaW.Mine
set_option linter.unusedVariables false
theorem FnExactFillWindow_walk (w : World) (cs0 : Array Value) (a0 : (List (List Int))) (hK0 : (Kd.slice 29 (Kd.slice 5 (Kd.int .u8))).K w a0 cs0.toList) (ok0 : (∀ y1 ∈ a0, (∀ y2 ∈ y1, (Lit.int .u8 y2).wf = true))) (cs1 : Array Value) (a1 : (Int × (Int × (Int × Int)))) (hK1 : (Kd.pair (Kd.int .i64) (Kd.pair (Kd.int .i64) (Kd.pair (Kd.int .i64) (Kd.int .i64)))).K w a1 cs1.toList) (ok1 : ((Lit.int .i64 a1.1).wf = true ∧ ((Lit.int .i64 a1.2.1).wf = true ∧ ((Lit.int .i64 a1.2.2.1).wf = true ∧ (Lit.int .i64 a1.2.2.2).wf = true)))) (a2 : Int) (w2 : (Lit.int .u8 a2).wf = true) :
    Calls Try.prog 10 #[.agg cs0, .agg cs1, .int .u8 a2] w fun e w' => e = .returned (.bool true) ∧ Below w.heap.size w w' := by
  obtain ⟨A0, c0, hcs0, hc0, hr0⟩ := hK0
  obtain rfl := agg_of hcs0
  obtain ⟨x10, x11, x12, x13⟩ := a1
  obtain ⟨_, _, hcs1, rfl, ⟨_, _, rfl, rfl, ⟨_, _, rfl, rfl, rfl⟩⟩⟩ := hK1
  obtain rfl := agg_of hcs1
  obtain ⟨r, hz, hh⟩ := szMemory_f a0 1048576 (by omega) (by omega) hr0.2.1 (C_inner_len hr0)
  rcases hh with ⟨hm, h5⟩ | rfl
  · have hs : -9223372036854775808 ≤ x11 ∧ x11 ≤ 9223372036854775807 := wf_i64 ok1.2.1
    have h6 := fillB_ok a0 x10 x11 x12 x13 a2
    exact FnExactFillWindow_run A0 c0 a0 x10 x11 x12 x13 a2 _ _ _ _ _ _ _ _ _ _ _ _ w hr0 hc0 hz.rounds (toMemory_f a0 hm) rfl (specFillWindow_f a0 x10 x11 x12 x13 a2 hm hs).rounds (implFillWindow_f a0 x10 x11 x12 x13 a2 hm) (eqM _ h6).rounds (eqM _ hm).rounds (markM _ hm) (markM _ h6) (heldMemory_f _ h6).rounds (by omega) (markM_pos _) (markM_pos _)
  · exact FnExactFillWindow_run0 A0 c0 a0 x10 x11 x12 x13 a2 _ w hr0 hc0 hz.rounds (by omega)
end Go.Proofs.Ytaieobidkmihkaa.P


namespace Go.Proofs.Ytaieobidkmihkaa.fnExactFillWindow
open Go.ChangeShapes Go.WideShapes Go.ChangeAt Go.RowKit Go.Proofs.YtaieobidkmihkaaW.PrintWords Go.Proofs.YtaieobidkmihkaaW.Mine Go.Proofs.Ytaieobidkmihkaa.P
open Go.ChangeMaps (open_string shut_string)
set_option linter.unusedVariables false
theorem own : ownKnob Try.prog.godebug = none := by kernel_rfl
theorem laidOut : laidOutB Try.prog = true := by kernel_rfl
set_option maxRecDepth 100000 in
theorem lifted (os : Os) (started : os.Started) (H : Type) (enc : TypeId × Value → H) :
    ReturnsInHanded {} Try.checked os 10 .any (Rows.fnExactFillWindowSpec.pre6 enc Try.prog Try.f10 Rows.fnExactFillWindowRow.domain false) (Rows.fnExactFillWindowSpec.post enc Try.prog Try.f10 false true false false) := by
  refine returnsInHanded_of_change_sized (C := Try.checked) own started (by kernel_rfl) Try.func10
    (ChangeSpec.witness6 (enc := enc) (C := Try.checked) false ⟨#[], #[.agg #[.slice none 0 0], .agg #[.int .i64 0, .int .i64 0, .int .i64 0, .int .i64 0], .int .u8 0], []⟩ 8 (by kernel_rfl) (by kernel_rfl) (by kernel_rfl) (by kernel_rfl)) ?_
  intro W base args ds gs before hval0 hW hcnd hsz0 _
  have hval : ∀ (j : Nat) t v, Try.f10.params[j]? = some t → args[j]? = some v → Value.okWide Try.prog W .any base t v := hval0
  have hW' := hW
  obtain ⟨p, q, hA0, hV, rfl, hfz, hnd⟩ := hW
  have hA : DataW.TrodAll enc Try.prog W 0 (fun _ => true) true Try.f10.params.toList args.toList ds p := hA0
  rw [Try.params10] at hA hval
  obtain ⟨v0, vs0, d0, ds0, p0, q0, hargs, rfl, rfl, h0, r0⟩ := trodAll_cons hA
  obtain ⟨v1, vs1, d1, ds1, p1, q1, rfl, rfl, rfl, h1, r1⟩ := trodAll_cons r0
  obtain ⟨v2, vs2, d2, ds2, p2, q2, rfl, rfl, rfl, h2, r2⟩ := trodAll_cons r1
  obtain ⟨rfl, rfl, rfl⟩ := trodAll_nil r2
  obtain rfl : args = #[v0, v1, v2] := by cases args; simp_all
  obtain ⟨rfl, rfl⟩ := trodVars_none hV
  have k0 := h0
  have lt0 : ∀ x ∈ p0, x.block < W.heap.size := by obtain ⟨m, hm⟩ := k0; exact DataW.trod_lt m _ _ _ hm
  obtain ⟨cs0, rfl, _⟩ := okWide_struct Try.underlying24 (hval 0 24 v0 rfl rfl)
  obtain ⟨a0, hK0, ok0⟩ : ∃ a : (List (List Int)), (Kd.slice 29 (Kd.slice 5 (Kd.int .u8))).K W a cs0.toList ∧ (∀ y1 ∈ a, (∀ y2 ∈ y1, (Lit.int .u8 y2).wf = true)) := by obtain ⟨fuel, hf⟩ := h0; exact (ReadsK.struct Try.underlying24 (by kernel_rfl) (ReadsF.last rfl (ReadsK.slice Try.underlying22 (by kernel_rfl) (ReadsK.slice Try.underlying29 (by kernel_rfl) (ReadsK.int Try.underlying5))) (by kernel_rfl))) hf
  have k1 := h1
  have lt1 : ∀ x ∈ p1, x.block < W.heap.size := by obtain ⟨m, hm⟩ := k1; exact DataW.trod_lt m _ _ _ hm
  obtain ⟨cs1, rfl, _⟩ := okWide_struct Try.underlying26 (hval 1 26 v1 rfl rfl)
  obtain ⟨a1, hK1, ok1⟩ : ∃ a : (Int × (Int × (Int × Int))), (Kd.pair (Kd.int .i64) (Kd.pair (Kd.int .i64) (Kd.pair (Kd.int .i64) (Kd.int .i64)))).K W a cs1.toList ∧ ((Lit.int .i64 a.1).wf = true ∧ ((Lit.int .i64 a.2.1).wf = true ∧ ((Lit.int .i64 a.2.2.1).wf = true ∧ (Lit.int .i64 a.2.2.2).wf = true))) := by obtain ⟨fuel, hf⟩ := h1; exact (ReadsK.struct Try.underlying26 (by kernel_rfl) (ReadsF.cons rfl (ReadsK.int Try.underlying3) (by kernel_rfl) (ReadsF.cons rfl (ReadsK.int Try.underlying3) (by kernel_rfl) (ReadsF.cons rfl (ReadsK.int Try.underlying3) (by kernel_rfl) (ReadsF.last rfl (ReadsK.int Try.underlying3) (by kernel_rfl)))))) hf
  obtain ⟨a2, rfl, rfl, rfl, w2⟩ := open_int Try.underlying5 (hval 2 5 v2 rfl rfl) h2
  clear hA0 hval0 hsz0
  refine (FnExactFillWindow_walk W cs0 a0 hK0 ok0 cs1 a1 hK1 ok1 a2 w2).mono fun e W' ⟨he, bel⟩ => ?_
  subst he
  exact ⟨_, rfl, _, _, _, [], _, [], hW', trodAll_mk1 (shut_bool Try.underlying4 _), (trodAll_cons_mk (Below.trod laidOut (by kernel_rfl) (of_decide_eq_true (by kernel_rfl)) k0 bel lt0) (trodAll_cons_mk (Below.trod laidOut (by kernel_rfl) (of_decide_eq_true (by kernel_rfl)) k1 bel lt1) (trodAll_cons_mk (shut_int Try.underlying5 w2) trodAll_mk0))), rfl, bel.frame _, fun h => by cases h⟩
theorem over : Rows.fnExactFillWindowRow.holds Try.pinned (OpenSpec.ofChange Rows.fnExactFillWindowSpec) :=
  OpenClaim.holds_of_wide 10 Try.f10 rfl rfl rfl rfl rfl rfl rfl ⟨rfl, rfl, rfl, rfl, rfl⟩ rfl rfl rfl rfl rfl (by kernel_rfl) Try.func10 (by kernel_rfl)
    (of_decide_eq_true (by kernel_rfl)) (by unfold Func.isWrapper; first | (rw [if_pos (by decide +kernel)]; kernel_rfl) | (rw [if_neg (by decide +kernel)]; exact ⟨rfl, rfl⟩))
    (fun os started H enc _ => lifted os started H enc)
theorem proved : Rows.FnExactFillWindowSaid := over
end Go.Proofs.Ytaieobidkmihkaa.fnExactFillWindow
namespace Go.Proofs.Ytaieobidkmihkaa
theorem fnExactFillWindow_holds : Rows.FnExactFillWindowSaid := fnExactFillWindow.proved
#print axioms fnExactFillWindow_holds
end Go.Proofs.Ytaieobidkmihkaa


