/- Part 5 of the proof of the law FnExactAppendFrame: contracts of the functions that it reaches. -/
import Derived.Test.YtaieobidkmihkaaQFnExactAppendFrame4
namespace Go.Proofs.Ytaieobidkmihkaa.P
open Go.RowKit Go.Proofs.YtaieobidkmihkaaW.PrintWords Go.Proofs.YtaieobidkmihkaaW.PrintLast Go.Proofs.YtaieobidkmihkaaW.PrintMore
attribute [local go_sem] max2_int min2_int max_two min_two max_three min_three max_four min_four   -- for this text's walks alone
set_option linter.unusedVariables false
set_option linter.unusedSimpArgs false

/-! ### spec_l2Append: function 95 -/
mutual
def spec_l2Append.j0 : Nat → List Int → Bool → List (List Int) → Int → Int → Int → Int → Option ((List (List Int)) × Int × Int × Int × Int × Bool)
  | 0, _, _, _, _, _, _, _ => none
  | k + 1, x2, x44, x916000, x917000, x917001, x917002, x917003 => if x44 = true then (some (([] : List (List Int)), 0, 0, 0, 0, false)) else ((spec_l2Bytes.f k x916000 x917000 x917001 x917002 x917003).bind fun t927 => (if t927.length + x2.length < 140737488355328 then (spec_l2Append.l0 k (wrap64 (x917002 + (x2.length : Int))) (t927 ++ x2) x916000 x917000 x917001 x917002 x917003) else (none)))
def spec_l2Append.l0 : Nat → Int → List Int → List (List Int) → Int → Int → Int → Int → Option ((List (List Int)) × Int × Int × Int × Int × Bool)
  | 0, _, _, _, _, _, _, _ => none
  | k + 1, x9, x10, x916000, x917000, x917001, x917002, x917003 => (spec_l1Most.f (wrap64 (2 * x917003)) x9).bind fun t933 => ((spec_l1Least.f t933 64).bind fun t934 => (if (x10.length : Int) < t934 then (if x10.length < 140737488355328 then (spec_l2Append.l0 k x9 (x10 ++ [0]) x916000 x917000 x917001 x917002 x917003) else (none)) else ((spec_l2New.f k x916000 x10 x9).bind fun bt938 => (some (bt938.1, bt938.2.1, bt938.2.2.1, bt938.2.2.2.1, bt938.2.2.2.2, true)))))
end
def spec_l2Append.f (k : Nat) (l0_0 : List (List Int)) (a1_0 : Int) (a1_1 : Int) (a1_2 : Int) (a1_3 : Int) (l2 : List Int) : Option ((List (List Int)) × Int × Int × Int × Int × Bool) := (spec_l2Room.f a1_0 a1_1 a1_2 a1_3).bind fun t919 => (if (l2.length : Int) ≤ t919 then ((spec_l2Write.f k l0_0 a1_0 a1_1 a1_2 a1_3 a1_2 l2).bind fun t920 => ((spec_l2Slice.f a1_0 a1_1 a1_2 a1_3 0 (wrap64 (a1_2 + (l2.length : Int))) a1_3).bind fun bt923 => (some (t920, bt923.1, bt923.2.1, bt923.2.2.1, bt923.2.2.2, true)))) else (if (l2.length : Int) > (wrap64 (64 - a1_2)) then (spec_l2Append.j0 k l2 true l0_0 a1_0 a1_1 a1_2 a1_3) else (spec_l2Append.j0 k l2 ((l0_0.length : Int) == 16) l0_0 a1_0 a1_1 a1_2 a1_3)))
def spec_l2Append.T2 : Bool × List (List Nat × List Nat) := (true, [([], []), ([], []), ([], []), ([2], [2]), ([], []), ([0, 1, 3, 4], [0, 1, 3, 4]), ([], []), ([], []), ([7], [7]), ([], []), ([9], [9]), ([8, 10], [8, 10]), ([], []), ([12], [12]), ([6, 11, 13, 5], [6, 11, 13]), ([5, 14, 0, 1, 2, 3, 4, 5], [5]), ([14, 15, 0, 1, 2, 3, 4, 5, 6, 7, 8, 9, 10, 11, 12, 13, 14, 15], [14]), ([16, 0, 1, 2, 3, 4, 5, 6, 7, 8, 9, 10, 11, 12, 13, 14, 15, 16], [])])
def spec_l2Append.B2 : List Nat := [0, 0, 0, 4, 0, 31, 0, 0, 128, 0, 512, 1920, 0, 4096, 16383, 32767, 65535, 131071]
theorem spec_l2Append.tab2 : rtab .any (opsOf Try.f95 2) = spec_l2Append.T2 := by kernel_rfl
theorem spec_l2Append.bits2 : waitsOk spec_l2Append.T2.2 spec_l2Append.B2 = true := by kernel_rfl
set_option maxHeartbeats 8000000 in
set_option maxRecDepth 100000 in
theorem spec_l2Append.calls (k : Nat) (A0_0 : Option Addr) (c0_0 : Nat) (l0_0 : List (List Int)) (a1_0 : Int) (a1_1 : Int) (a1_2 : Int) (a1_3 : Int) (A2 : Option Addr) (c2 : Nat) (l2 : List Int) (r1 : List (List Int)) (r2 : Int) (r3 : Int) (r4 : Int) (r5 : Int) (r6 : Bool) (w : World) (hr0_0 : Kd.C (Kd.slice 5 (Kd.int .u8)) w A0_0 l0_0.length l0_0) (hc0_0 : l0_0.length ≤ c0_0) (hr2 : Kd.C (Kd.int .u8) w A2 l2.length l2) (hc2 : l2.length ≤ c2) (h : spec_l2Append.f k l0_0 a1_0 a1_1 a1_2 a1_3 l2 = some (r1, r2, r3, r4, r5, r6)) :
    Calls Try.prog 95 #[.agg #[.slice A0_0 l0_0.length c0_0], .agg #[.int .i64 a1_0, .int .i64 a1_1, .int .i64 a1_2, .int .i64 a1_3], .slice A2 l2.length c2] w fun e w' => ∃ v0_ : Value, e = .returned (.tuple #[.agg #[v0_], .agg #[.int .i64 r2, .int .i64 r3, .int .i64 r4, .int .i64 r5], .bool r6]) ∧ Kd.S (Kd.slice 5 (Kd.int .u8)) 29 w' w.heap.size (fun _ => True) v0_ r1 ∧ Below w.heap.size w w' := by
  have hu31 := Try.underlying31
  have hu32 := Try.underlying32
  have HR0_0 := Aside0.mk hr0_0
  have HC0_0 := Aside0.mk hc0_0
  clear hr0_0 hc0_0
  have HR2 := Aside0.mk hr2
  have HC2 := Aside0.mk hc2
  clear hr2 hc2
  have HB := Aside0.mk (Below.refl w.heap.size w)
  have H : ((spec_l2Room.f a1_0 a1_1 a1_2 a1_3).bind fun t919 => (if (l2.length : Int) ≤ t919 then ((spec_l2Write.f k l0_0 a1_0 a1_1 a1_2 a1_3 a1_2 l2).bind fun t920 => ((spec_l2Slice.f a1_0 a1_1 a1_2 a1_3 0 (wrap64 (a1_2 + (l2.length : Int))) a1_3).bind fun bt923 => (some (t920, bt923.1, bt923.2.1, bt923.2.2.1, bt923.2.2.2, true)))) else (if (l2.length : Int) > (wrap64 (64 - a1_2)) then (spec_l2Append.j0 k l2 true l0_0 a1_0 a1_1 a1_2 a1_3) else (spec_l2Append.j0 k l2 ((l0_0.length : Int) == 16) l0_0 a1_0 a1_1 a1_2 a1_3)))) = some (r1, r2, r3, r4, r5, r6) := h
  clear h
  replace H := Option.bind_eq_some_iff.mp H
  obtain ⟨t919, A40, H⟩ := H
  replace H : (if (l2.length : Int) ≤ t919 then ((spec_l2Write.f k l0_0 a1_0 a1_1 a1_2 a1_3 a1_2 l2).bind fun t920 => ((spec_l2Slice.f a1_0 a1_1 a1_2 a1_3 0 (wrap64 (a1_2 + (l2.length : Int))) a1_3).bind fun bt923 => (some (t920, bt923.1, bt923.2.1, bt923.2.2.1, bt923.2.2.2, true)))) else (if (l2.length : Int) > (wrap64 (64 - a1_2)) then (spec_l2Append.j0 k l2 true l0_0 a1_0 a1_1 a1_2 a1_3) else (spec_l2Append.j0 k l2 ((l0_0.length : Int) == 16) l0_0 a1_0 a1_1 a1_2 a1_3))) = some (r1, r2, r3, r4, r5, r6) := H
  have A4 := Aside0.mk A40
  clear A40
  by_cases c5 : (l2.length : Int) ≤ t919
  · rw [if_pos c5] at H
    have c5b0 : decide ((l2.length : Int) ≤ t919) = true := decide_eq_true c5
    clear c5
    replace H := Option.bind_eq_some_iff.mp H
    obtain ⟨t920, A60, H⟩ := H
    replace H : ((spec_l2Slice.f a1_0 a1_1 a1_2 a1_3 0 (wrap64 (a1_2 + (l2.length : Int))) a1_3).bind fun bt923 => (some (t920, bt923.1, bt923.2.1, bt923.2.2.1, bt923.2.2.2, true))) = some (r1, r2, r3, r4, r5, r6) := H
    have A6 := Aside0.mk A60
    clear A60
    replace H := Option.bind_eq_some_iff.mp H
    obtain ⟨⟨t923, t924, t925, t926⟩, A70, H⟩ := H
    replace H : (some (t920, t923, t924, t925, t926, true)) = some (r1, r2, r3, r4, r5, r6) := H
    have A7 := Aside0.mk A70
    clear A70
    simp only [Option.some.injEq, Prod.mk.injEq] at H
    obtain ⟨rfl, rfl, rfl, rfl, rfl, rfl⟩ := H
    go_enter Try.func95, Try.ntmps95
    try go_wp2_with (first | ((with_reducible refine gate_dst (N := 3) rfl ?_); (try (refine gate_guard (by rfl) ?_; dsimp only)); refine box_event ?hg (N := 3) ?hd (cs := #[.slice A0_0 l0_0.length c0_0]) (t := 31) ?hr ?_; (case hd => rfl); (case hg => rfl); (case hr => first | (go_simp; done) | (go_simp; rfl)); intro gb915 hg w8 hbox hb; have n0_ := Aside0.mk (below_step (by repeat (first | (with_reducible first | exact HB.out | apply below_alloc | apply pw_below_drewN | apply below_drew1) | exact HB.out)) hb); have n1_ := Aside0.mk (hbox); have n2_ := Aside0.mk ((by rw [hg]; exact (below_size (by repeat (first | (with_reducible first | exact HB.out | apply below_alloc | apply pw_below_drewN | apply below_drew1) | exact HB.out))) : w.heap.size ≤ gb915)); have n3_ := Aside0.mk ((by rw [hg]; exact (below_size (by repeat (first | (with_reducible first | exact HB.out | apply below_alloc | apply pw_below_drewN | apply below_drew1) | exact HB.out))) : w.heap.size ≤ gb915)); clear HB; have HB := n0_; have BK915 := n1_; have GW915 := n2_; have GE915 := n3_; clear n0_ n1_ n2_ n3_; clear hb hbox hg) | ((with_reducible refine gate_dst (N := 4) rfl ?_); (try (refine gate_guard (by rfl) ?_; dsimp only)); refine box_event ?hg (N := 4) ?hd (cs := #[.int .i64 a1_0, .int .i64 a1_1, .int .i64 a1_2, .int .i64 a1_3]) (t := 32) ?hr ?_; (case hd => rfl); (case hg => rfl); (case hr => first | (go_simp; done) | (go_simp; rfl)); intro gb916 hg w9 hbox hb; have n0_ := Aside0.mk (blk_below (g := gb915) (o := .cells #[.slice A0_0 l0_0.length c0_0] 31 (0, 0)) (by (with_reducible repeat (first | refine blk_drewN ?_ _ | refine blk_drew ?_ | refine blk_alloc ?_ _)); exact BK915.out) hb); have n1_ := Aside0.mk (below_step (by repeat (first | (with_reducible first | exact HB.out | apply below_alloc | apply pw_below_drewN | apply below_drew1 | refine below_set ?_ GE915.out) | exact HB.out)) hb); have n2_ := Aside0.mk (hbox); have n3_ := Aside0.mk ((by rw [hg]; exact (below_size (by repeat (first | (with_reducible first | exact HB.out | apply below_alloc | apply pw_below_drewN | apply below_drew1 | refine below_set ?_ GE915.out) | exact HB.out))) : w.heap.size ≤ gb916)); have n4_ := Aside0.mk ((by rw [hg]; exact (below_size (by repeat (first | (with_reducible first | exact HB.out | apply below_alloc | apply pw_below_drewN | apply below_drew1 | refine below_set ?_ GE915.out) | exact HB.out))) : w.heap.size ≤ gb916)); have n5_ := Aside0.mk ((by rw [hg]; exact Nat.ne_of_lt (blk_lt (g := gb915) (o := .cells #[.slice A0_0 l0_0.length c0_0] 31 (0, 0)) (by (with_reducible repeat (first | refine blk_drewN ?_ _ | refine blk_drew ?_ | refine blk_alloc ?_ _)); exact BK915.out)) : gb915 ≠ gb916)); have n6_ := Aside0.mk ((by rw [hg]; exact Nat.ne_of_gt (blk_lt (g := gb915) (o := .cells #[.slice A0_0 l0_0.length c0_0] 31 (0, 0)) (by (with_reducible repeat (first | refine blk_drewN ?_ _ | refine blk_drew ?_ | refine blk_alloc ?_ _)); exact BK915.out)) : gb916 ≠ gb915)); clear BK915; clear HB; have BK915 := n0_; have HB := n1_; have BK916 := n2_; have GW916 := n3_; have GE916 := n4_; have NB915_916 := n5_; have NB916_915 := n6_; clear n0_ n1_ n2_ n3_ n4_ n5_ n6_; clear hb hbox hg) | ((with_reducible refine gate_dst (N := 6) rfl ?_); (try (refine gate_guard (by rfl) ?_; dsimp only)); refine box_event ?hg (N := 6) ?hd (cs := #[.slice none 0 0]) (t := 31) ?hr ?_; (case hd => rfl); (case hg => rfl); (case hr => first | (go_simp; done) | (go_simp; rfl)); intro gb917 hg w10 hbox hb; have n0_ := Aside0.mk (blk_below (g := gb915) (o := .cells #[.slice A0_0 l0_0.length c0_0] 31 (0, 0)) (by (with_reducible repeat (first | refine blk_drewN ?_ _ | refine blk_drew ?_ | refine blk_alloc ?_ _)); exact BK915.out) hb); have n1_ := Aside0.mk (blk_below (g := gb916) (o := .cells #[.int .i64 a1_0, .int .i64 a1_1, .int .i64 a1_2, .int .i64 a1_3] 32 (0, 0)) (by (with_reducible repeat (first | refine blk_drewN ?_ _ | refine blk_drew ?_ | refine blk_alloc ?_ _)); exact BK916.out) hb); have n2_ := Aside0.mk (below_step (by repeat (first | (with_reducible first | exact HB.out | apply below_alloc | apply pw_below_drewN | apply below_drew1 | refine below_set ?_ GE915.out | refine below_set ?_ GE916.out) | exact HB.out)) hb); have n3_ := Aside0.mk (hbox); have n4_ := Aside0.mk ((by rw [hg]; exact (below_size (by repeat (first | (with_reducible first | exact HB.out | apply below_alloc | apply pw_below_drewN | apply below_drew1 | refine below_set ?_ GE915.out | refine below_set ?_ GE916.out) | exact HB.out))) : w.heap.size ≤ gb917)); have n5_ := Aside0.mk ((by rw [hg]; exact (below_size (by repeat (first | (with_reducible first | exact HB.out | apply below_alloc | apply pw_below_drewN | apply below_drew1 | refine below_set ?_ GE915.out | refine below_set ?_ GE916.out) | exact HB.out))) : w.heap.size ≤ gb917)); have n6_ := Aside0.mk ((by rw [hg]; exact Nat.ne_of_lt (blk_lt (g := gb915) (o := .cells #[.slice A0_0 l0_0.length c0_0] 31 (0, 0)) (by (with_reducible repeat (first | refine blk_drewN ?_ _ | refine blk_drew ?_ | refine blk_alloc ?_ _)); exact BK915.out)) : gb915 ≠ gb917)); have n7_ := Aside0.mk ((by rw [hg]; exact Nat.ne_of_gt (blk_lt (g := gb915) (o := .cells #[.slice A0_0 l0_0.length c0_0] 31 (0, 0)) (by (with_reducible repeat (first | refine blk_drewN ?_ _ | refine blk_drew ?_ | refine blk_alloc ?_ _)); exact BK915.out)) : gb917 ≠ gb915)); have n8_ := Aside0.mk ((by rw [hg]; exact Nat.ne_of_lt (blk_lt (g := gb916) (o := .cells #[.int .i64 a1_0, .int .i64 a1_1, .int .i64 a1_2, .int .i64 a1_3] 32 (0, 0)) (by (with_reducible repeat (first | refine blk_drewN ?_ _ | refine blk_drew ?_ | refine blk_alloc ?_ _)); exact BK916.out)) : gb916 ≠ gb917)); have n9_ := Aside0.mk ((by rw [hg]; exact Nat.ne_of_gt (blk_lt (g := gb916) (o := .cells #[.int .i64 a1_0, .int .i64 a1_1, .int .i64 a1_2, .int .i64 a1_3] 32 (0, 0)) (by (with_reducible repeat (first | refine blk_drewN ?_ _ | refine blk_drew ?_ | refine blk_alloc ?_ _)); exact BK916.out)) : gb917 ≠ gb916)); clear BK915; clear BK916; clear HB; have BK915 := n0_; have BK916 := n1_; have HB := n2_; have BK917 := n3_; have GW917 := n4_; have GE917 := n5_; have NB915_917 := n6_; have NB917_915 := n7_; have NB916_917 := n8_; have NB917_916 := n9_; clear n0_ n1_ n2_ n3_ n4_ n5_ n6_ n7_ n8_ n9_; clear hb hbox hg) | ((with_reducible refine gate_dst (N := 7) rfl ?_); (try (refine gate_guard (by rfl) ?_; dsimp only)); refine box_event ?hg (N := 7) ?hd (cs := #[.int .i64 0, .int .i64 0, .int .i64 0, .int .i64 0]) (t := 32) ?hr ?_; (case hd => rfl); (case hg => rfl); (case hr => first | (go_simp; done) | (go_simp; rfl)); intro gb918 hg w11 hbox hb; have n0_ := Aside0.mk (blk_below (g := gb915) (o := .cells #[.slice A0_0 l0_0.length c0_0] 31 (0, 0)) (by (with_reducible repeat (first | refine blk_drewN ?_ _ | refine blk_drew ?_ | refine blk_alloc ?_ _)); exact BK915.out) hb); have n1_ := Aside0.mk (blk_below (g := gb916) (o := .cells #[.int .i64 a1_0, .int .i64 a1_1, .int .i64 a1_2, .int .i64 a1_3] 32 (0, 0)) (by (with_reducible repeat (first | refine blk_drewN ?_ _ | refine blk_drew ?_ | refine blk_alloc ?_ _)); exact BK916.out) hb); have n2_ := Aside0.mk (blk_below (g := gb917) (o := .cells #[.slice none 0 0] 31 (0, 0)) (by (with_reducible repeat (first | refine blk_drewN ?_ _ | refine blk_drew ?_ | refine blk_alloc ?_ _)); exact BK917.out) hb); have n3_ := Aside0.mk (below_step (by repeat (first | (with_reducible first | exact HB.out | apply below_alloc | apply pw_below_drewN | apply below_drew1 | refine below_set ?_ GE915.out | refine below_set ?_ GE916.out | refine below_set ?_ GE917.out) | exact HB.out)) hb); have n4_ := Aside0.mk (hbox); have n5_ := Aside0.mk ((by rw [hg]; exact (below_size (by repeat (first | (with_reducible first | exact HB.out | apply below_alloc | apply pw_below_drewN | apply below_drew1 | refine below_set ?_ GE915.out | refine below_set ?_ GE916.out | refine below_set ?_ GE917.out) | exact HB.out))) : w.heap.size ≤ gb918)); have n6_ := Aside0.mk ((by rw [hg]; exact (below_size (by repeat (first | (with_reducible first | exact HB.out | apply below_alloc | apply pw_below_drewN | apply below_drew1 | refine below_set ?_ GE915.out | refine below_set ?_ GE916.out | refine below_set ?_ GE917.out) | exact HB.out))) : w.heap.size ≤ gb918)); have n7_ := Aside0.mk ((by rw [hg]; exact Nat.ne_of_lt (blk_lt (g := gb915) (o := .cells #[.slice A0_0 l0_0.length c0_0] 31 (0, 0)) (by (with_reducible repeat (first | refine blk_drewN ?_ _ | refine blk_drew ?_ | refine blk_alloc ?_ _)); exact BK915.out)) : gb915 ≠ gb918)); have n8_ := Aside0.mk ((by rw [hg]; exact Nat.ne_of_gt (blk_lt (g := gb915) (o := .cells #[.slice A0_0 l0_0.length c0_0] 31 (0, 0)) (by (with_reducible repeat (first | refine blk_drewN ?_ _ | refine blk_drew ?_ | refine blk_alloc ?_ _)); exact BK915.out)) : gb918 ≠ gb915)); have n9_ := Aside0.mk ((by rw [hg]; exact Nat.ne_of_lt (blk_lt (g := gb916) (o := .cells #[.int .i64 a1_0, .int .i64 a1_1, .int .i64 a1_2, .int .i64 a1_3] 32 (0, 0)) (by (with_reducible repeat (first | refine blk_drewN ?_ _ | refine blk_drew ?_ | refine blk_alloc ?_ _)); exact BK916.out)) : gb916 ≠ gb918)); have n10_ := Aside0.mk ((by rw [hg]; exact Nat.ne_of_gt (blk_lt (g := gb916) (o := .cells #[.int .i64 a1_0, .int .i64 a1_1, .int .i64 a1_2, .int .i64 a1_3] 32 (0, 0)) (by (with_reducible repeat (first | refine blk_drewN ?_ _ | refine blk_drew ?_ | refine blk_alloc ?_ _)); exact BK916.out)) : gb918 ≠ gb916)); have n11_ := Aside0.mk ((by rw [hg]; exact Nat.ne_of_lt (blk_lt (g := gb917) (o := .cells #[.slice none 0 0] 31 (0, 0)) (by (with_reducible repeat (first | refine blk_drewN ?_ _ | refine blk_drew ?_ | refine blk_alloc ?_ _)); exact BK917.out)) : gb917 ≠ gb918)); have n12_ := Aside0.mk ((by rw [hg]; exact Nat.ne_of_gt (blk_lt (g := gb917) (o := .cells #[.slice none 0 0] 31 (0, 0)) (by (with_reducible repeat (first | refine blk_drewN ?_ _ | refine blk_drew ?_ | refine blk_alloc ?_ _)); exact BK917.out)) : gb918 ≠ gb917)); clear BK915; clear BK916; clear BK917; clear HB; have BK915 := n0_; have BK916 := n1_; have BK917 := n2_; have HB := n3_; have BK918 := n4_; have GW918 := n5_; have GE918 := n6_; have NB915_918 := n7_; have NB918_915 := n8_; have NB916_918 := n9_; have NB918_916 := n10_; have NB917_918 := n11_; have NB918_917 := n12_; clear n0_ n1_ n2_ n3_ n4_ n5_ n6_ n7_ n8_ n9_ n10_ n11_ n12_; clear hb hbox hg; have hnb12 := NB916_915.out; have hnc12 := NB915_916.out; have hnb13 := NB916_917.out; have hnc13 := NB917_916.out; have hnb14 := NB916_918.out; have hnc14 := NB918_916.out; have hcz15_0 : w11.cell? ⟨gb916, 0, none⟩ = some (.int .i64 a1_0) := (blk_cell BK916.out 0).trans rfl; have hcz15_1 : w11.cell? ⟨gb916, 1, none⟩ = some (.int .i64 a1_1) := (blk_cell BK916.out 1).trans rfl; have hcz15_2 : w11.cell? ⟨gb916, 2, none⟩ = some (.int .i64 a1_2) := (blk_cell BK916.out 2).trans rfl; have hcz15_3 : w11.cell? ⟨gb916, 3, none⟩ = some (.int .i64 a1_3) := (blk_cell BK916.out 3).trans rfl; have hfz15_0 := blk_frozen BK916.out 0; have hfz15_1 := blk_frozen BK916.out 1; have hfz15_2 := blk_frozen BK916.out 2; have hfz15_3 := blk_frozen BK916.out 3) | ((with_reducible refine gate_callee (f := 123) rfl ?_); refine goesL_ (some 16) rfl rfl Try.func123 (by kernel_rfl) rfl #[.agg #[.int .i64 a1_0, .int .i64 a1_1, .int .i64 a1_2, .int .i64 a1_3]] rfl (by (try simp only [List.map_toArray, List.map_cons, List.map_nil]); first | done | rfl | (simp only [List.length_drop, List.length_take]; rfl)) ?_; (with_reducible refine (spec_l2Room.calls a1_0 a1_1 a1_2 a1_3 t919 _ A4.out).mono ?_); rintro e w16 ⟨rfl, hb⟩; refine ⟨_, rfl, ?_⟩; have n0_ := Aside0.mk (blk_below (g := gb915) (o := .cells #[.slice A0_0 l0_0.length c0_0] 31 (0, 0)) (by (with_reducible repeat (first | refine blk_drewN ?_ _ | refine blk_drew ?_ | refine blk_alloc ?_ _)); exact BK915.out) hb); have n1_ := Aside0.mk (blk_below (g := gb916) (o := .cells #[.int .i64 a1_0, .int .i64 a1_1, .int .i64 a1_2, .int .i64 a1_3] 32 (0, 0)) (by (with_reducible repeat (first | refine blk_drewN ?_ _ | refine blk_drew ?_ | refine blk_alloc ?_ _)); exact BK916.out) hb); have n2_ := Aside0.mk (blk_below (g := gb917) (o := .cells #[.slice none 0 0] 31 (0, 0)) (by (with_reducible repeat (first | refine blk_drewN ?_ _ | refine blk_drew ?_ | refine blk_alloc ?_ _)); exact BK917.out) hb); have n3_ := Aside0.mk (blk_below (g := gb918) (o := .cells #[.int .i64 0, .int .i64 0, .int .i64 0, .int .i64 0] 32 (0, 0)) (by (with_reducible repeat (first | refine blk_drewN ?_ _ | refine blk_drew ?_ | refine blk_alloc ?_ _)); exact BK918.out) hb); have n4_ := Aside0.mk (below_step (by repeat (first | (with_reducible first | exact HB.out | apply below_alloc | apply pw_below_drewN | apply below_drew1 | refine below_set ?_ GE915.out | refine below_set ?_ GE916.out | refine below_set ?_ GE917.out | refine below_set ?_ GE918.out) | exact HB.out)) hb); clear BK915; clear BK916; clear BK917; clear BK918; clear HB; have BK915 := n0_; have BK916 := n1_; have BK917 := n2_; have BK918 := n3_; have HB := n4_; clear n0_ n1_ n2_ n3_ n4_; (try clear hb); (try clear hb2); (try clear hk); (try clear hi)))
    have n0_ := Aside0.mk (blk_drew BK915.out)
    have n1_ := Aside0.mk (blk_drew BK916.out)
    have n2_ := Aside0.mk (blk_drew BK917.out)
    have n3_ := Aside0.mk (blk_drew BK918.out)
    have n4_ := Aside0.mk (below_drew1 HB.out)
    clear BK915
    clear BK916
    clear BK917
    clear BK918
    clear HB
    have BK915 := n0_
    have BK916 := n1_
    have BK917 := n2_
    have BK918 := n3_
    have HB := n4_
    clear n0_ n1_ n2_ n3_ n4_
    refine start_ (n := 18) (S := fun w' => w'.cell? ⟨gb915, 0, none⟩ = some (.slice A0_0 l0_0.length c0_0) ∧ w'.cell? ⟨gb916, 0, none⟩ = some (.int .i64 a1_0) ∧ w'.cell? ⟨gb916, 1, none⟩ = some (.int .i64 a1_1) ∧ w'.cell? ⟨gb916, 2, none⟩ = some (.int .i64 a1_2) ∧ w'.cell? ⟨gb916, 3, none⟩ = some (.int .i64 a1_3)) (ds := []) #[false, false, false, false, false, false, false, false, false, false, false, false, false, false, false, false, false, false] (by kernel_rfl) rfl rfl ⟨(blk_cell BK915.out 0).trans rfl, (blk_cell BK916.out 0).trans rfl, (blk_cell BK916.out 1).trans rfl, (blk_cell BK916.out 2).trans rfl, (blk_cell BK916.out 3).trans rfl⟩ (fun hHeld => ?_); refine with_tabW spec_l2Append.tab2 spec_l2Append.bits2 (fun HT_ HW_ => ?_)
    generalize w16.drew = w17 at BK915 BK916 BK917 BK918 HB hHeld ⊢
    refine pure_ (i := 2) (N := some 20) (v := ?_) (a' := ?_) #[false, false, true, false, false, false, false, false, false, false, false, false, false, false, false, false, false, false] rfl rfl (any_of HT_.out (by kernel_rfl)) (fun _ _ _ h => h) (Or.inl ⟨by rfl, ?_⟩) ?_ ?_
    rotate_left
    · intro w'
      go_simp
      with_reducible rfl
    rotate_left
    · simp only [Act.put, List.setIfInBounds_toArray, List.set_cons_zero, List.set_cons_succ, i64_w, i32_w]
      rfl
    refine pure_ (i := 4) (N := some 22) (v := ?_) (a' := ?_) #[false, false, true, false, true, false, false, false, false, false, false, false, false, false, false, false, false, false] rfl rfl (any_of HT_.out (by kernel_rfl)) (fun _ _ _ h => h) (Or.inl ⟨by rfl, ?_⟩) ?_ ?_
    rotate_left
    · intro w'
      go_simp
      with_reducible rfl
    rotate_left
    · simp only [Act.put, List.setIfInBounds_toArray, List.set_cons_zero, List.set_cons_succ, i64_w, i32_w]
      rfl
    refine pure_ (i := 7) (N := some 25) (v := ?_) (a' := ?_) #[false, false, true, false, true, false, false, true, false, false, false, false, false, false, false, false, false, false] rfl rfl (any_of HT_.out (by kernel_rfl)) (fun _ _ _ h => h) (Or.inl ⟨by rfl, ?_⟩) ?_ ?_
    rotate_left
    · intro w'
      go_simp
      with_reducible rfl
    rotate_left
    · simp only [Act.put, List.setIfInBounds_toArray, List.set_cons_zero, List.set_cons_succ, i64_w, i32_w]
      rfl
    refine pure_ (i := 9) (N := some 27) (v := ?_) (a' := ?_) #[false, false, true, false, true, false, false, true, false, true, false, false, false, false, false, false, false, false] rfl rfl (any_of HT_.out (by kernel_rfl)) (fun _ _ _ h => h) (Or.inl ⟨by rfl, ?_⟩) ?_ ?_
    rotate_left
    · intro w'
      go_simp
      with_reducible rfl
    rotate_left
    · simp only [Act.put, List.setIfInBounds_toArray, List.set_cons_zero, List.set_cons_succ, i64_w, i32_w]
      rfl
    refine pure_ (i := 10) (N := some 28) (v := ?_) (a' := ?_) #[false, false, true, false, true, false, false, true, false, true, true, false, false, false, false, false, false, false] rfl rfl (any_of HT_.out (by kernel_rfl)) (fun _ _ _ h => h) (Or.inl ⟨by rfl, ?_⟩) ?_ ?_
    rotate_left
    · intro w'
      go_simp
      with_reducible rfl
    rotate_left
    · simp only [Act.put, List.setIfInBounds_toArray, List.set_cons_zero, List.set_cons_succ, i64_w, i32_w]
      rfl
    refine pure_ (i := 12) (N := some 30) (v := ?_) (a' := ?_) #[false, false, true, false, true, false, false, true, false, true, true, false, true, false, false, false, false, false] rfl rfl (any_of HT_.out (by kernel_rfl)) (fun _ _ _ h => h) (Or.inl ⟨by rfl, ?_⟩) ?_ ?_
    rotate_left
    · intro w'
      go_simp
      with_reducible rfl
    rotate_left
    · simp only [Act.put, List.setIfInBounds_toArray, List.set_cons_zero, List.set_cons_succ, i64_w, i32_w]
      rfl
    refine take_ (i := 0) (N := some 18) (v := ?_) (a' := ?_) #[true, false, true, false, true, false, false, true, false, true, true, false, true, false, false, false, false, false] rfl rfl (take_ofW HT_.out HW_.out (by kernel_rfl)) (fun _ _ _ h => h) (Or.inl ⟨by rfl, ?_⟩) hHeld ?_ ?_
    rotate_left
    · rintro w' ⟨s0, s1, s2, s3, s4⟩
      go_simp
      with_reducible rfl
    rotate_left
    · simp only [Act.put, List.setIfInBounds_toArray, List.set_cons_zero, List.set_cons_succ, i64_w, i32_w]
      rfl
    refine take_ (i := 1) (N := some 19) (v := ?_) (a' := ?_) #[true, true, true, false, true, false, false, true, false, true, true, false, true, false, false, false, false, false] rfl rfl (take_ofW HT_.out HW_.out (by kernel_rfl)) (fun _ _ _ h => h) (Or.inl ⟨by rfl, ?_⟩) hHeld ?_ ?_
    rotate_left
    · rintro w' ⟨s0, s1, s2, s3, s4⟩
      go_simp
      with_reducible rfl
    rotate_left
    · simp only [Act.put, List.setIfInBounds_toArray, List.set_cons_zero, List.set_cons_succ, i64_w, i32_w]
      rfl
    refine take_ (i := 3) (N := some 21) (v := ?_) (a' := ?_) #[true, true, true, true, true, false, false, true, false, true, true, false, true, false, false, false, false, false] rfl rfl (take_ofW HT_.out HW_.out (by kernel_rfl)) (fun _ _ _ h => h) (Or.inl ⟨by rfl, ?_⟩) hHeld ?_ ?_
    rotate_left
    · rintro w' ⟨s0, s1, s2, s3, s4⟩
      go_simp
      with_reducible rfl
    rotate_left
    · simp only [Act.put, List.setIfInBounds_toArray, List.set_cons_zero, List.set_cons_succ, i64_w, i32_w]
      rfl
    refine take_ (i := 6) (N := some 24) (v := ?_) (a' := ?_) #[true, true, true, true, true, false, true, true, false, true, true, false, true, false, false, false, false, false] rfl rfl (take_ofW HT_.out HW_.out (by kernel_rfl)) (fun _ _ _ h => h) (Or.inl ⟨by rfl, ?_⟩) hHeld ?_ ?_
    rotate_left
    · rintro w' ⟨s0, s1, s2, s3, s4⟩
      go_simp
      with_reducible rfl
    rotate_left
    · simp only [Act.put, List.setIfInBounds_toArray, List.set_cons_zero, List.set_cons_succ, i64_w, i32_w]
      rfl
    refine take_ (i := 8) (N := some 26) (v := ?_) (a' := ?_) #[true, true, true, true, true, false, true, true, true, true, true, false, true, false, false, false, false, false] rfl rfl (take_ofW HT_.out HW_.out (by kernel_rfl)) (fun _ _ _ h => h) (Or.inl ⟨by rfl, ?_⟩) hHeld ?_ ?_
    rotate_left
    · rintro w' ⟨s0, s1, s2, s3, s4⟩
      go_simp
      with_reducible rfl
    rotate_left
    · simp only [Act.put, List.setIfInBounds_toArray, List.set_cons_zero, List.set_cons_succ, i64_w, i32_w]
      rfl
    refine pure_ (i := 11) (N := some 29) (v := ?_) (a' := ?_) #[true, true, true, true, true, false, true, true, true, true, true, true, true, false, false, false, false, false] rfl rfl (any_of HT_.out (by kernel_rfl)) (fun _ _ _ h => h) (Or.inl ⟨by rfl, ?_⟩) ?_ ?_
    rotate_left
    · intro w'
      go_simp
      with_reducible rfl
    rotate_left
    · simp only [Act.put, List.setIfInBounds_toArray, List.set_cons_zero, List.set_cons_succ, i64_w, i32_w]
      rfl
    refine take_ (i := 13) (N := some 31) (v := ?_) (a' := ?_) #[true, true, true, true, true, false, true, true, true, true, true, true, true, true, false, false, false, false] rfl rfl (take_ofW HT_.out HW_.out (by kernel_rfl)) (fun _ _ _ h => h) (Or.inl ⟨by rfl, ?_⟩) hHeld ?_ ?_
    rotate_left
    · rintro w' ⟨s0, s1, s2, s3, s4⟩
      go_simp
      with_reducible rfl
    rotate_left
    · simp only [Act.put, List.setIfInBounds_toArray, List.set_cons_zero, List.set_cons_succ, i64_w, i32_w]
      rfl
    refine one_ (i := 5) (N := some 23) #[true, true, true, true, true, true, true, true, true, true, true, true, true, true, false, false, false, false] rfl rfl (one_of HT_.out (by kernel_rfl)) (by decide) (fun K hK => ?_)
    refine goes_ Try.func100 (by kernel_rfl) rfl #[.agg #[.slice A0_0 l0_0.length c0_0], .agg #[.int .i64 a1_0, .int .i64 a1_1, .int .i64 a1_2, .int .i64 a1_3], .int .i64 a1_2, .slice A2 l2.length c2] (by rfl) rfl rfl (by (try simp only [List.map_toArray, List.map_cons, List.map_nil]); first | done | rfl | (simp only [List.length_drop, List.length_take]; rfl)) ?_
    with_reducible refine (spec_l2Write.calls k _ _ l0_0 a1_0 a1_1 a1_2 a1_3 a1_2 _ _ l2 t920 _ ?side1 ?side2 ?side3 ?side4 A6.out).mono ?_
    (case side1 => repeat (first | exact (Kd.C_below HR0_0.out HB.out) | (with_reducible refine Kd.C_alloc ?_ _) | (with_reducible refine Kd.C_drewN ?_ _) | (with_reducible refine Kd.C_drew ?_)))
    (case side2 => exact HC0_0.out)
    (case side3 => repeat (first | exact (Kd.C_below HR2.out HB.out) | (with_reducible refine Kd.C_alloc ?_ _) | (with_reducible refine Kd.C_drewN ?_ _) | (with_reducible refine Kd.C_drew ?_)))
    (case side4 => exact HC2.out)
    rintro e w18 ⟨v921, rfl, ho0, hb⟩
    refine ⟨_, rfl, ?_⟩
    have n0_ := Aside0.mk (Kd.S_lower ho0 (below_size (by repeat (first | (with_reducible first | exact HB.out | apply below_alloc | apply pw_below_drewN | apply below_drew1 | refine below_set ?_ GE915.out | refine below_set ?_ GE916.out | refine below_set ?_ GE917.out | refine below_set ?_ GE918.out) | exact HB.out))))
    have n1_ := Aside0.mk (blk_below (g := gb915) (o := .cells #[.slice A0_0 l0_0.length c0_0] 31 (0, 0)) (by (with_reducible repeat (first | refine blk_drewN ?_ _ | refine blk_drew ?_ | refine blk_alloc ?_ _)); exact BK915.out) hb)
    have n2_ := Aside0.mk (blk_below (g := gb916) (o := .cells #[.int .i64 a1_0, .int .i64 a1_1, .int .i64 a1_2, .int .i64 a1_3] 32 (0, 0)) (by (with_reducible repeat (first | refine blk_drewN ?_ _ | refine blk_drew ?_ | refine blk_alloc ?_ _)); exact BK916.out) hb)
    have n3_ := Aside0.mk (blk_below (g := gb917) (o := .cells #[.slice none 0 0] 31 (0, 0)) (by (with_reducible repeat (first | refine blk_drewN ?_ _ | refine blk_drew ?_ | refine blk_alloc ?_ _)); exact BK917.out) hb)
    have n4_ := Aside0.mk (blk_below (g := gb918) (o := .cells #[.int .i64 0, .int .i64 0, .int .i64 0, .int .i64 0] 32 (0, 0)) (by (with_reducible repeat (first | refine blk_drewN ?_ _ | refine blk_drew ?_ | refine blk_alloc ?_ _)); exact BK918.out) hb)
    have n5_ := Aside0.mk (below_step (by repeat (first | (with_reducible first | exact HB.out | apply below_alloc | apply pw_below_drewN | apply below_drew1 | refine below_set ?_ GE915.out | refine below_set ?_ GE916.out | refine below_set ?_ GE917.out | refine below_set ?_ GE918.out) | exact HB.out)) hb)
    clear BK915
    clear BK916
    clear BK917
    clear BK918
    clear HB
    have HO922 := n0_
    have BK915 := n1_
    have BK916 := n2_
    have BK917 := n3_
    have BK918 := n4_
    have HB := n5_
    clear n0_ n1_ n2_ n3_ n4_ n5_
    (try clear hb)
    (try clear hb2)
    (try clear hk)
    (try clear hi)
    (try clear ho0)
    refine hK.out _ _ ⟨(blk_cell BK915.out 0).trans rfl, (blk_cell BK916.out 0).trans rfl, (blk_cell BK916.out 1).trans rfl, (blk_cell BK916.out 2).trans rfl, (blk_cell BK916.out 3).trans rfl⟩ (fun hHeld => ?_)
    clear hK K
    refine norm_ (a' := ?_) ?_ ?_
    rotate_left
    · show Act.put _ (some 23) _ = _
      simp only [Act.put, List.setIfInBounds_toArray, List.set_cons_zero, List.set_cons_succ, i64_w, i32_w]
      rfl
    refine one_ (i := 14) (N := some 32) #[true, true, true, true, true, true, true, true, true, true, true, true, true, true, true, false, false, false] rfl rfl (one_of HT_.out (by kernel_rfl)) (by decide) (fun K hK => ?_)
    refine goes_ Try.func124 (by kernel_rfl) rfl #[.agg #[.int .i64 a1_0, .int .i64 a1_1, .int .i64 a1_2, .int .i64 a1_3], .int .i64 0, .int .i64 (wrap64 (a1_2 + (l2.length : Int))), .int .i64 a1_3] (by rfl) rfl rfl (by (try simp only [List.map_toArray, List.map_cons, List.map_nil]); first | done | rfl | (simp only [List.length_drop, List.length_take]; rfl)) ?_
    with_reducible refine (spec_l2Slice.calls a1_0 a1_1 a1_2 a1_3 0 (wrap64 (a1_2 + (l2.length : Int))) a1_3 t923 t924 t925 t926 _ A7.out).mono ?_
    rintro e w19 ⟨rfl, hb⟩
    refine ⟨_, rfl, ?_⟩
    have n0_ := Aside0.mk (Kd.S_below (by (with_reducible repeat (first | apply Kd.S_alloc | apply Kd.S_drewN | apply Kd.S_drew)); exact HO922.out) hb)
    have n1_ := Aside0.mk (blk_below (g := gb915) (o := .cells #[.slice A0_0 l0_0.length c0_0] 31 (0, 0)) (by (with_reducible repeat (first | refine blk_drewN ?_ _ | refine blk_drew ?_ | refine blk_alloc ?_ _)); exact BK915.out) hb)
    have n2_ := Aside0.mk (blk_below (g := gb916) (o := .cells #[.int .i64 a1_0, .int .i64 a1_1, .int .i64 a1_2, .int .i64 a1_3] 32 (0, 0)) (by (with_reducible repeat (first | refine blk_drewN ?_ _ | refine blk_drew ?_ | refine blk_alloc ?_ _)); exact BK916.out) hb)
    have n3_ := Aside0.mk (blk_below (g := gb917) (o := .cells #[.slice none 0 0] 31 (0, 0)) (by (with_reducible repeat (first | refine blk_drewN ?_ _ | refine blk_drew ?_ | refine blk_alloc ?_ _)); exact BK917.out) hb)
    have n4_ := Aside0.mk (blk_below (g := gb918) (o := .cells #[.int .i64 0, .int .i64 0, .int .i64 0, .int .i64 0] 32 (0, 0)) (by (with_reducible repeat (first | refine blk_drewN ?_ _ | refine blk_drew ?_ | refine blk_alloc ?_ _)); exact BK918.out) hb)
    have n5_ := Aside0.mk (below_step (by repeat (first | (with_reducible first | exact HB.out | apply below_alloc | apply pw_below_drewN | apply below_drew1 | refine below_set ?_ GE915.out | refine below_set ?_ GE916.out | refine below_set ?_ GE917.out | refine below_set ?_ GE918.out) | exact HB.out)) hb)
    clear HO922
    clear BK915
    clear BK916
    clear BK917
    clear BK918
    clear HB
    have HO922 := n0_
    have BK915 := n1_
    have BK916 := n2_
    have BK917 := n3_
    have BK918 := n4_
    have HB := n5_
    clear n0_ n1_ n2_ n3_ n4_ n5_
    (try clear hb)
    (try clear hb2)
    (try clear hk)
    (try clear hi)
    obtain ⟨Ao20, co20, eo20⟩ := Kd.S_slice HO922.out
    (first | subst eo20 | (injection eo20 with f1_ f2_ f3_; have f4_ := f1_.symm; have f5_ := f3_.symm; clear f1_ f2_ f3_; subst f4_; subst f5_))
    refine hK.out _ _ ⟨(blk_cell BK915.out 0).trans rfl, (blk_cell BK916.out 0).trans rfl, (blk_cell BK916.out 1).trans rfl, (blk_cell BK916.out 2).trans rfl, (blk_cell BK916.out 3).trans rfl⟩ (fun hHeld => ?_)
    clear hK K
    refine norm_ (a' := ?_) ?_ ?_
    rotate_left
    · show Act.put _ (some 32) _ = _
      simp only [Act.put, List.setIfInBounds_toArray, List.set_cons_zero, List.set_cons_succ, i64_w, i32_w]
      rfl
    refine one_ (i := 15) (N := none) #[true, true, true, true, true, true, true, true, true, true, true, true, true, true, true, true, false, false] rfl rfl (one_of HT_.out (by kernel_rfl)) (by decide) (fun K hK => ?_)
    have hs21 : w19.cell? ⟨gb917, 0, none⟩ = some (.slice none 0 0) := (blk_cell BK917.out 0).trans rfl
    have hfs21 := blk_frozen BK917.out 0
    have hns21_0 := NB915_917.out
    have hns21_1 := NB916_917.out
    have hns21_3 := NB918_917.out
    have hms21_0 := NB917_915.out
    have hms21_1 := NB917_916.out
    have hms21_3 := NB917_918.out
    refine skip_ (w1 := ?_) (by rfl) rfl ?_ ?_
    rotate_left
    · go_simp
      rfl
    refine hK.out _ _ ⟨((cell_far (p := ⟨gb917, _, none⟩) NB915_917.out _).trans (hHeld.1)), ((cell_far (p := ⟨gb917, _, none⟩) NB916_917.out _).trans (hHeld.2.1)), ((cell_far (p := ⟨gb917, _, none⟩) NB916_917.out _).trans (hHeld.2.2.1)), ((cell_far (p := ⟨gb917, _, none⟩) NB916_917.out _).trans (hHeld.2.2.2.1)), ((cell_far (p := ⟨gb917, _, none⟩) NB916_917.out _).trans (hHeld.2.2.2.2))⟩ (fun hHeld => ?_)
    clear hK K
    refine one_ (i := 16) (N := none) #[true, true, true, true, true, true, true, true, true, true, true, true, true, true, true, true, true, false] rfl rfl (one_of HT_.out (by kernel_rfl)) (by decide) (fun K hK => ?_)
    have hs22 : w19.cell? ⟨gb918, 0, none⟩ = some (.int .i64 0) := (blk_cell BK918.out 0).trans rfl
    have hfs22 := blk_frozen BK918.out 0
    have hns22_0 := NB915_918.out
    have hns22_1 := NB916_918.out
    have hns22_2 := NB917_918.out
    have hms22_0 := NB918_915.out
    have hms22_1 := NB918_916.out
    have hms22_2 := NB918_917.out
    have hs23 : w19.cell? ⟨gb918, 1, none⟩ = some (.int .i64 0) := (blk_cell BK918.out 1).trans rfl
    have hfs23 := blk_frozen BK918.out 1
    have hns23_0 := NB915_918.out
    have hns23_1 := NB916_918.out
    have hns23_2 := NB917_918.out
    have hms23_0 := NB918_915.out
    have hms23_1 := NB918_916.out
    have hms23_2 := NB918_917.out
    have hs24 : w19.cell? ⟨gb918, 2, none⟩ = some (.int .i64 0) := (blk_cell BK918.out 2).trans rfl
    have hfs24 := blk_frozen BK918.out 2
    have hns24_0 := NB915_918.out
    have hns24_1 := NB916_918.out
    have hns24_2 := NB917_918.out
    have hms24_0 := NB918_915.out
    have hms24_1 := NB918_916.out
    have hms24_2 := NB918_917.out
    have hs25 : w19.cell? ⟨gb918, 3, none⟩ = some (.int .i64 0) := (blk_cell BK918.out 3).trans rfl
    have hfs25 := blk_frozen BK918.out 3
    have hns25_0 := NB915_918.out
    have hns25_1 := NB916_918.out
    have hns25_2 := NB917_918.out
    have hms25_0 := NB918_915.out
    have hms25_1 := NB918_916.out
    have hms25_2 := NB918_917.out
    refine skip_ (w1 := ?_) (by rfl) rfl ?_ ?_
    rotate_left
    · go_simp
      rfl
    refine hK.out _ _ ⟨((cell_far (p := ⟨gb918, _, none⟩) NB915_918.out _).trans (((cell_far (p := ⟨gb918, _, none⟩) NB915_918.out _).trans (((cell_far (p := ⟨gb918, _, none⟩) NB915_918.out _).trans (((cell_far (p := ⟨gb918, _, none⟩) NB915_918.out _).trans (hHeld.1)))))))), ((cell_far (p := ⟨gb918, _, none⟩) NB916_918.out _).trans (((cell_far (p := ⟨gb918, _, none⟩) NB916_918.out _).trans (((cell_far (p := ⟨gb918, _, none⟩) NB916_918.out _).trans (((cell_far (p := ⟨gb918, _, none⟩) NB916_918.out _).trans (hHeld.2.1)))))))), ((cell_far (p := ⟨gb918, _, none⟩) NB916_918.out _).trans (((cell_far (p := ⟨gb918, _, none⟩) NB916_918.out _).trans (((cell_far (p := ⟨gb918, _, none⟩) NB916_918.out _).trans (((cell_far (p := ⟨gb918, _, none⟩) NB916_918.out _).trans (hHeld.2.2.1)))))))), ((cell_far (p := ⟨gb918, _, none⟩) NB916_918.out _).trans (((cell_far (p := ⟨gb918, _, none⟩) NB916_918.out _).trans (((cell_far (p := ⟨gb918, _, none⟩) NB916_918.out _).trans (((cell_far (p := ⟨gb918, _, none⟩) NB916_918.out _).trans (hHeld.2.2.2.1)))))))), ((cell_far (p := ⟨gb918, _, none⟩) NB916_918.out _).trans (((cell_far (p := ⟨gb918, _, none⟩) NB916_918.out _).trans (((cell_far (p := ⟨gb918, _, none⟩) NB916_918.out _).trans (((cell_far (p := ⟨gb918, _, none⟩) NB916_918.out _).trans (hHeld.2.2.2.2))))))))⟩ (fun hHeld => ?_)
    clear hK K
    refine pure_ (i := 17) (N := some 8) (v := ?_) (a' := ?_) #[true, true, true, true, true, true, true, true, true, true, true, true, true, true, true, true, true, true] rfl rfl (any_of HT_.out (by kernel_rfl)) (fun _ _ _ h => h) (Or.inl ⟨by rfl, ?_⟩) ?_ ?_
    rotate_left
    · intro w'
      go_simp
      with_reducible rfl
    rotate_left
    · simp only [Act.put, List.setIfInBounds_toArray, List.set_cons_zero, List.set_cons_succ, i64_w, i32_w]
      rfl
    refine done_ (done_of HT_.out (by kernel_rfl)) ?_
    try go_wp2
    refine bodyPost_ret (results_list (rs := [.cell 6 31, .cell 7 32, .tmp 8]) rfl (by simp) (.cell gb917 31 #[.slice Ao20 t920.length co20] (0, 0) _ rfl (by (with_reducible repeat (first | refine blk_drewN ?_ _ | refine blk_drew ?_ | refine blk_alloc ?_ _)); refine blk_far ?_ NB917_918.out _; (with_reducible repeat (first | refine blk_drewN ?_ _ | refine blk_drew ?_ | refine blk_alloc ?_ _)); refine blk_far ?_ NB917_918.out _; (with_reducible repeat (first | refine blk_drewN ?_ _ | refine blk_drew ?_ | refine blk_alloc ?_ _)); refine blk_far ?_ NB917_918.out _; (with_reducible repeat (first | refine blk_drewN ?_ _ | refine blk_drew ?_ | refine blk_alloc ?_ _)); refine blk_far ?_ NB917_918.out _; (with_reducible repeat (first | refine blk_drewN ?_ _ | refine blk_drew ?_ | refine blk_alloc ?_ _)); refine blk_put (cs := #[.slice none 0 0]) ?_ 0 _ rfl; (with_reducible repeat (first | refine blk_drewN ?_ _ | refine blk_drew ?_ | refine blk_alloc ?_ _)); exact BK917.out) Try.underlying31 rfl (by kernel_rfl) (.cell gb918 32 #[.int .i64 t923, .int .i64 t924, .int .i64 t925, .int .i64 t926] (0, 0) _ rfl (by (with_reducible repeat (first | refine blk_drewN ?_ _ | refine blk_drew ?_ | refine blk_alloc ?_ _)); refine blk_put (cs := #[.int .i64 t923, .int .i64 t924, .int .i64 t925, .int .i64 0]) ?_ 3 _ rfl; (with_reducible repeat (first | refine blk_drewN ?_ _ | refine blk_drew ?_ | refine blk_alloc ?_ _)); refine blk_put (cs := #[.int .i64 t923, .int .i64 t924, .int .i64 0, .int .i64 0]) ?_ 2 _ rfl; (with_reducible repeat (first | refine blk_drewN ?_ _ | refine blk_drew ?_ | refine blk_alloc ?_ _)); refine blk_put (cs := #[.int .i64 t923, .int .i64 0, .int .i64 0, .int .i64 0]) ?_ 1 _ rfl; (with_reducible repeat (first | refine blk_drewN ?_ _ | refine blk_drew ?_ | refine blk_alloc ?_ _)); refine blk_put (cs := #[.int .i64 0, .int .i64 0, .int .i64 0, .int .i64 0]) ?_ 0 _ rfl; (with_reducible repeat (first | refine blk_drewN ?_ _ | refine blk_drew ?_ | refine blk_alloc ?_ _)); refine blk_far ?_ NB918_917.out _; (with_reducible repeat (first | refine blk_drewN ?_ _ | refine blk_drew ?_ | refine blk_alloc ?_ _)); exact BK918.out) Try.underlying32 rfl (by kernel_rfl) (.tmp .nil)))) rfl ?_
    exact ⟨_, by first | rfl | (simp [errW_none, errW_some] <;> rfl) | (simp [*, errW_none, errW_some] <;> rfl), by (with_reducible repeat (first | apply Kd.S_alloc | apply Kd.S_drewN | apply Kd.S_drew)); exact Kd.S_mono (Kd.S_far (p := ⟨gb918, 3, none⟩) (Kd.S_far (p := ⟨gb918, 2, none⟩) (Kd.S_far (p := ⟨gb918, 1, none⟩) (Kd.S_far (p := ⟨gb918, 0, none⟩) (Kd.S_far (p := ⟨gb917, 0, none⟩) (Kd.S_types (Kd.S_types HO922.out BK917.out (by decide)) BK918.out (by decide)) (fun _ hk => hk.1.2) (.slice Ao20 t920.length co20)) (fun _ hk => hk.2) (.int .i64 t923)) (fun _ hk => hk.2) (.int .i64 t924)) (fun _ hk => hk.2) (.int .i64 t925)) (fun _ hk => hk.2) (.int .i64 t926)) (fun _ hk => trivial), by repeat (first | (with_reducible first | exact HB.out | apply below_alloc | apply pw_below_drewN | apply below_drew1 | refine below_set ?_ GE915.out | refine below_set ?_ GE916.out | refine below_set ?_ GE917.out | refine below_set ?_ GE918.out) | exact HB.out)⟩
  · rw [if_neg c5] at H
    have c5b0 : decide ((l2.length : Int) ≤ t919) = false := decide_eq_false c5
    clear c5
    have HC26 := Aside0.mk H
    clear H
    go_enter Try.func95, Try.ntmps95
    go_upto_region 3 with (first | ((with_reducible refine gate_dst (N := 3) rfl ?_); (try (refine gate_guard (by rfl) ?_; dsimp only)); refine box_event ?hg (N := 3) ?hd (cs := #[.slice A0_0 l0_0.length c0_0]) (t := 31) ?hr ?_; (case hd => rfl); (case hg => rfl); (case hr => first | (go_simp; done) | (go_simp; rfl)); intro gb915 hg w27 hbox hb; have n0_ := Aside0.mk (below_step (by repeat (first | (with_reducible first | exact HB.out | apply below_alloc | apply pw_below_drewN | apply below_drew1) | exact HB.out)) hb); have n1_ := Aside0.mk (hbox); have n2_ := Aside0.mk ((by rw [hg]; exact (below_size (by repeat (first | (with_reducible first | exact HB.out | apply below_alloc | apply pw_below_drewN | apply below_drew1) | exact HB.out))) : w.heap.size ≤ gb915)); have n3_ := Aside0.mk ((by rw [hg]; exact (below_size (by repeat (first | (with_reducible first | exact HB.out | apply below_alloc | apply pw_below_drewN | apply below_drew1) | exact HB.out))) : w.heap.size ≤ gb915)); clear HB; have HB := n0_; have BK915 := n1_; have GW915 := n2_; have GE915 := n3_; clear n0_ n1_ n2_ n3_; clear hb hbox hg) | ((with_reducible refine gate_dst (N := 4) rfl ?_); (try (refine gate_guard (by rfl) ?_; dsimp only)); refine box_event ?hg (N := 4) ?hd (cs := #[.int .i64 a1_0, .int .i64 a1_1, .int .i64 a1_2, .int .i64 a1_3]) (t := 32) ?hr ?_; (case hd => rfl); (case hg => rfl); (case hr => first | (go_simp; done) | (go_simp; rfl)); intro gb916 hg w28 hbox hb; have n0_ := Aside0.mk (blk_below (g := gb915) (o := .cells #[.slice A0_0 l0_0.length c0_0] 31 (0, 0)) (by (with_reducible repeat (first | refine blk_drewN ?_ _ | refine blk_drew ?_ | refine blk_alloc ?_ _)); exact BK915.out) hb); have n1_ := Aside0.mk (below_step (by repeat (first | (with_reducible first | exact HB.out | apply below_alloc | apply pw_below_drewN | apply below_drew1 | refine below_set ?_ GE915.out) | exact HB.out)) hb); have n2_ := Aside0.mk (hbox); have n3_ := Aside0.mk ((by rw [hg]; exact (below_size (by repeat (first | (with_reducible first | exact HB.out | apply below_alloc | apply pw_below_drewN | apply below_drew1 | refine below_set ?_ GE915.out) | exact HB.out))) : w.heap.size ≤ gb916)); have n4_ := Aside0.mk ((by rw [hg]; exact (below_size (by repeat (first | (with_reducible first | exact HB.out | apply below_alloc | apply pw_below_drewN | apply below_drew1 | refine below_set ?_ GE915.out) | exact HB.out))) : w.heap.size ≤ gb916)); have n5_ := Aside0.mk ((by rw [hg]; exact Nat.ne_of_lt (blk_lt (g := gb915) (o := .cells #[.slice A0_0 l0_0.length c0_0] 31 (0, 0)) (by (with_reducible repeat (first | refine blk_drewN ?_ _ | refine blk_drew ?_ | refine blk_alloc ?_ _)); exact BK915.out)) : gb915 ≠ gb916)); have n6_ := Aside0.mk ((by rw [hg]; exact Nat.ne_of_gt (blk_lt (g := gb915) (o := .cells #[.slice A0_0 l0_0.length c0_0] 31 (0, 0)) (by (with_reducible repeat (first | refine blk_drewN ?_ _ | refine blk_drew ?_ | refine blk_alloc ?_ _)); exact BK915.out)) : gb916 ≠ gb915)); clear BK915; clear HB; have BK915 := n0_; have HB := n1_; have BK916 := n2_; have GW916 := n3_; have GE916 := n4_; have NB915_916 := n5_; have NB916_915 := n6_; clear n0_ n1_ n2_ n3_ n4_ n5_ n6_; clear hb hbox hg) | ((with_reducible refine gate_dst (N := 6) rfl ?_); (try (refine gate_guard (by rfl) ?_; dsimp only)); refine box_event ?hg (N := 6) ?hd (cs := #[.slice none 0 0]) (t := 31) ?hr ?_; (case hd => rfl); (case hg => rfl); (case hr => first | (go_simp; done) | (go_simp; rfl)); intro gb917 hg w29 hbox hb; have n0_ := Aside0.mk (blk_below (g := gb915) (o := .cells #[.slice A0_0 l0_0.length c0_0] 31 (0, 0)) (by (with_reducible repeat (first | refine blk_drewN ?_ _ | refine blk_drew ?_ | refine blk_alloc ?_ _)); exact BK915.out) hb); have n1_ := Aside0.mk (blk_below (g := gb916) (o := .cells #[.int .i64 a1_0, .int .i64 a1_1, .int .i64 a1_2, .int .i64 a1_3] 32 (0, 0)) (by (with_reducible repeat (first | refine blk_drewN ?_ _ | refine blk_drew ?_ | refine blk_alloc ?_ _)); exact BK916.out) hb); have n2_ := Aside0.mk (below_step (by repeat (first | (with_reducible first | exact HB.out | apply below_alloc | apply pw_below_drewN | apply below_drew1 | refine below_set ?_ GE915.out | refine below_set ?_ GE916.out) | exact HB.out)) hb); have n3_ := Aside0.mk (hbox); have n4_ := Aside0.mk ((by rw [hg]; exact (below_size (by repeat (first | (with_reducible first | exact HB.out | apply below_alloc | apply pw_below_drewN | apply below_drew1 | refine below_set ?_ GE915.out | refine below_set ?_ GE916.out) | exact HB.out))) : w.heap.size ≤ gb917)); have n5_ := Aside0.mk ((by rw [hg]; exact (below_size (by repeat (first | (with_reducible first | exact HB.out | apply below_alloc | apply pw_below_drewN | apply below_drew1 | refine below_set ?_ GE915.out | refine below_set ?_ GE916.out) | exact HB.out))) : w.heap.size ≤ gb917)); have n6_ := Aside0.mk ((by rw [hg]; exact Nat.ne_of_lt (blk_lt (g := gb915) (o := .cells #[.slice A0_0 l0_0.length c0_0] 31 (0, 0)) (by (with_reducible repeat (first | refine blk_drewN ?_ _ | refine blk_drew ?_ | refine blk_alloc ?_ _)); exact BK915.out)) : gb915 ≠ gb917)); have n7_ := Aside0.mk ((by rw [hg]; exact Nat.ne_of_gt (blk_lt (g := gb915) (o := .cells #[.slice A0_0 l0_0.length c0_0] 31 (0, 0)) (by (with_reducible repeat (first | refine blk_drewN ?_ _ | refine blk_drew ?_ | refine blk_alloc ?_ _)); exact BK915.out)) : gb917 ≠ gb915)); have n8_ := Aside0.mk ((by rw [hg]; exact Nat.ne_of_lt (blk_lt (g := gb916) (o := .cells #[.int .i64 a1_0, .int .i64 a1_1, .int .i64 a1_2, .int .i64 a1_3] 32 (0, 0)) (by (with_reducible repeat (first | refine blk_drewN ?_ _ | refine blk_drew ?_ | refine blk_alloc ?_ _)); exact BK916.out)) : gb916 ≠ gb917)); have n9_ := Aside0.mk ((by rw [hg]; exact Nat.ne_of_gt (blk_lt (g := gb916) (o := .cells #[.int .i64 a1_0, .int .i64 a1_1, .int .i64 a1_2, .int .i64 a1_3] 32 (0, 0)) (by (with_reducible repeat (first | refine blk_drewN ?_ _ | refine blk_drew ?_ | refine blk_alloc ?_ _)); exact BK916.out)) : gb917 ≠ gb916)); clear BK915; clear BK916; clear HB; have BK915 := n0_; have BK916 := n1_; have HB := n2_; have BK917 := n3_; have GW917 := n4_; have GE917 := n5_; have NB915_917 := n6_; have NB917_915 := n7_; have NB916_917 := n8_; have NB917_916 := n9_; clear n0_ n1_ n2_ n3_ n4_ n5_ n6_ n7_ n8_ n9_; clear hb hbox hg) | ((with_reducible refine gate_dst (N := 7) rfl ?_); (try (refine gate_guard (by rfl) ?_; dsimp only)); refine box_event ?hg (N := 7) ?hd (cs := #[.int .i64 0, .int .i64 0, .int .i64 0, .int .i64 0]) (t := 32) ?hr ?_; (case hd => rfl); (case hg => rfl); (case hr => first | (go_simp; done) | (go_simp; rfl)); intro gb918 hg w30 hbox hb; have n0_ := Aside0.mk (blk_below (g := gb915) (o := .cells #[.slice A0_0 l0_0.length c0_0] 31 (0, 0)) (by (with_reducible repeat (first | refine blk_drewN ?_ _ | refine blk_drew ?_ | refine blk_alloc ?_ _)); exact BK915.out) hb); have n1_ := Aside0.mk (blk_below (g := gb916) (o := .cells #[.int .i64 a1_0, .int .i64 a1_1, .int .i64 a1_2, .int .i64 a1_3] 32 (0, 0)) (by (with_reducible repeat (first | refine blk_drewN ?_ _ | refine blk_drew ?_ | refine blk_alloc ?_ _)); exact BK916.out) hb); have n2_ := Aside0.mk (blk_below (g := gb917) (o := .cells #[.slice none 0 0] 31 (0, 0)) (by (with_reducible repeat (first | refine blk_drewN ?_ _ | refine blk_drew ?_ | refine blk_alloc ?_ _)); exact BK917.out) hb); have n3_ := Aside0.mk (below_step (by repeat (first | (with_reducible first | exact HB.out | apply below_alloc | apply pw_below_drewN | apply below_drew1 | refine below_set ?_ GE915.out | refine below_set ?_ GE916.out | refine below_set ?_ GE917.out) | exact HB.out)) hb); have n4_ := Aside0.mk (hbox); have n5_ := Aside0.mk ((by rw [hg]; exact (below_size (by repeat (first | (with_reducible first | exact HB.out | apply below_alloc | apply pw_below_drewN | apply below_drew1 | refine below_set ?_ GE915.out | refine below_set ?_ GE916.out | refine below_set ?_ GE917.out) | exact HB.out))) : w.heap.size ≤ gb918)); have n6_ := Aside0.mk ((by rw [hg]; exact (below_size (by repeat (first | (with_reducible first | exact HB.out | apply below_alloc | apply pw_below_drewN | apply below_drew1 | refine below_set ?_ GE915.out | refine below_set ?_ GE916.out | refine below_set ?_ GE917.out) | exact HB.out))) : w.heap.size ≤ gb918)); have n7_ := Aside0.mk ((by rw [hg]; exact Nat.ne_of_lt (blk_lt (g := gb915) (o := .cells #[.slice A0_0 l0_0.length c0_0] 31 (0, 0)) (by (with_reducible repeat (first | refine blk_drewN ?_ _ | refine blk_drew ?_ | refine blk_alloc ?_ _)); exact BK915.out)) : gb915 ≠ gb918)); have n8_ := Aside0.mk ((by rw [hg]; exact Nat.ne_of_gt (blk_lt (g := gb915) (o := .cells #[.slice A0_0 l0_0.length c0_0] 31 (0, 0)) (by (with_reducible repeat (first | refine blk_drewN ?_ _ | refine blk_drew ?_ | refine blk_alloc ?_ _)); exact BK915.out)) : gb918 ≠ gb915)); have n9_ := Aside0.mk ((by rw [hg]; exact Nat.ne_of_lt (blk_lt (g := gb916) (o := .cells #[.int .i64 a1_0, .int .i64 a1_1, .int .i64 a1_2, .int .i64 a1_3] 32 (0, 0)) (by (with_reducible repeat (first | refine blk_drewN ?_ _ | refine blk_drew ?_ | refine blk_alloc ?_ _)); exact BK916.out)) : gb916 ≠ gb918)); have n10_ := Aside0.mk ((by rw [hg]; exact Nat.ne_of_gt (blk_lt (g := gb916) (o := .cells #[.int .i64 a1_0, .int .i64 a1_1, .int .i64 a1_2, .int .i64 a1_3] 32 (0, 0)) (by (with_reducible repeat (first | refine blk_drewN ?_ _ | refine blk_drew ?_ | refine blk_alloc ?_ _)); exact BK916.out)) : gb918 ≠ gb916)); have n11_ := Aside0.mk ((by rw [hg]; exact Nat.ne_of_lt (blk_lt (g := gb917) (o := .cells #[.slice none 0 0] 31 (0, 0)) (by (with_reducible repeat (first | refine blk_drewN ?_ _ | refine blk_drew ?_ | refine blk_alloc ?_ _)); exact BK917.out)) : gb917 ≠ gb918)); have n12_ := Aside0.mk ((by rw [hg]; exact Nat.ne_of_gt (blk_lt (g := gb917) (o := .cells #[.slice none 0 0] 31 (0, 0)) (by (with_reducible repeat (first | refine blk_drewN ?_ _ | refine blk_drew ?_ | refine blk_alloc ?_ _)); exact BK917.out)) : gb918 ≠ gb917)); clear BK915; clear BK916; clear BK917; clear HB; have BK915 := n0_; have BK916 := n1_; have BK917 := n2_; have HB := n3_; have BK918 := n4_; have GW918 := n5_; have GE918 := n6_; have NB915_918 := n7_; have NB918_915 := n8_; have NB916_918 := n9_; have NB918_916 := n10_; have NB917_918 := n11_; have NB918_917 := n12_; clear n0_ n1_ n2_ n3_ n4_ n5_ n6_ n7_ n8_ n9_ n10_ n11_ n12_; clear hb hbox hg; have hnb31 := NB916_915.out; have hnc31 := NB915_916.out; have hnb32 := NB916_917.out; have hnc32 := NB917_916.out; have hnb33 := NB916_918.out; have hnc33 := NB918_916.out; have hcz34_0 : w30.cell? ⟨gb916, 0, none⟩ = some (.int .i64 a1_0) := (blk_cell BK916.out 0).trans rfl; have hcz34_1 : w30.cell? ⟨gb916, 1, none⟩ = some (.int .i64 a1_1) := (blk_cell BK916.out 1).trans rfl; have hcz34_2 : w30.cell? ⟨gb916, 2, none⟩ = some (.int .i64 a1_2) := (blk_cell BK916.out 2).trans rfl; have hcz34_3 : w30.cell? ⟨gb916, 3, none⟩ = some (.int .i64 a1_3) := (blk_cell BK916.out 3).trans rfl; have hfz34_0 := blk_frozen BK916.out 0; have hfz34_1 := blk_frozen BK916.out 1; have hfz34_2 := blk_frozen BK916.out 2; have hfz34_3 := blk_frozen BK916.out 3) | ((with_reducible refine gate_callee (f := 123) rfl ?_); refine goesL_ (some 16) rfl rfl Try.func123 (by kernel_rfl) rfl #[.agg #[.int .i64 a1_0, .int .i64 a1_1, .int .i64 a1_2, .int .i64 a1_3]] rfl (by (try simp only [List.map_toArray, List.map_cons, List.map_nil]); first | done | rfl | (simp only [List.length_drop, List.length_take]; rfl)) ?_; (with_reducible refine (spec_l2Room.calls a1_0 a1_1 a1_2 a1_3 t919 _ A4.out).mono ?_); rintro e w35 ⟨rfl, hb⟩; refine ⟨_, rfl, ?_⟩; have n0_ := Aside0.mk (blk_below (g := gb915) (o := .cells #[.slice A0_0 l0_0.length c0_0] 31 (0, 0)) (by (with_reducible repeat (first | refine blk_drewN ?_ _ | refine blk_drew ?_ | refine blk_alloc ?_ _)); exact BK915.out) hb); have n1_ := Aside0.mk (blk_below (g := gb916) (o := .cells #[.int .i64 a1_0, .int .i64 a1_1, .int .i64 a1_2, .int .i64 a1_3] 32 (0, 0)) (by (with_reducible repeat (first | refine blk_drewN ?_ _ | refine blk_drew ?_ | refine blk_alloc ?_ _)); exact BK916.out) hb); have n2_ := Aside0.mk (blk_below (g := gb917) (o := .cells #[.slice none 0 0] 31 (0, 0)) (by (with_reducible repeat (first | refine blk_drewN ?_ _ | refine blk_drew ?_ | refine blk_alloc ?_ _)); exact BK917.out) hb); have n3_ := Aside0.mk (blk_below (g := gb918) (o := .cells #[.int .i64 0, .int .i64 0, .int .i64 0, .int .i64 0] 32 (0, 0)) (by (with_reducible repeat (first | refine blk_drewN ?_ _ | refine blk_drew ?_ | refine blk_alloc ?_ _)); exact BK918.out) hb); have n4_ := Aside0.mk (below_step (by repeat (first | (with_reducible first | exact HB.out | apply below_alloc | apply pw_below_drewN | apply below_drew1 | refine below_set ?_ GE915.out | refine below_set ?_ GE916.out | refine below_set ?_ GE917.out | refine below_set ?_ GE918.out) | exact HB.out)) hb); clear BK915; clear BK916; clear BK917; clear BK918; clear HB; have BK915 := n0_; have BK916 := n1_; have BK917 := n2_; have BK918 := n3_; have HB := n4_; clear n0_ n1_ n2_ n3_ n4_; (try clear hb); (try clear hb2); (try clear hk); (try clear hi)))
    (try simp only [Act.put, List.setIfInBounds_toArray, List.set_cons_zero, List.set_cons_succ])
    go_cut [44] (fun v44 wc => ∃ (kq : Nat) (x44_25 : Bool), v44 = .bool x44_25 ∧ Aside0 (spec_l2Append.j0 kq l2 x44_25 l0_0 a1_0 a1_1 a1_2 a1_3 = some (r1, r2, r3, r4, r5, r6)) ∧ Aside0 (kq ≤ k) ∧ Aside0 (wc.heap[gb915]? = some (.cells #[(.slice A0_0 l0_0.length c0_0)] 31 (0, 0))) ∧ Aside0 (wc.heap[gb916]? = some (.cells #[.int .i64 a1_0, .int .i64 a1_1, .int .i64 a1_2, .int .i64 a1_3] 32 (0, 0))) ∧ Aside0 (wc.heap[gb917]? = some (.cells #[(.slice none 0 0)] 31 (0, 0))) ∧ Aside0 (wc.heap[gb918]? = some (.cells #[.int .i64 0, .int .i64 0, .int .i64 0, .int .i64 0] 32 (0, 0))) ∧ Aside0 (Below w.heap.size w wc))
    case first =>
      have H := HC26.out
      clear HC26
      by_cases c36 : (l2.length : Int) > (wrap64 (64 - a1_2))
      · rw [if_pos c36] at H
        have c36b0 : decide ((wrap64 (64 - a1_2)) < (l2.length : Int)) = true := decide_eq_true c36
        clear c36
        (first | rw [c36b0] | (simp only [i64_w, i32_w]; rw [c36b0]) | skip)
        have H' := Aside0.mk H
        clear H
        have hnb37 := NB916_915.out
        have hnc37 := NB915_916.out
        have hnb38 := NB916_917.out
        have hnc38 := NB917_916.out
        have hnb39 := NB916_918.out
        have hnc39 := NB918_916.out
        have hcz40_0 : w35.cell? ⟨gb916, 0, none⟩ = some (.int .i64 a1_0) := (blk_cell BK916.out 0).trans rfl
        have hcz40_1 : w35.cell? ⟨gb916, 1, none⟩ = some (.int .i64 a1_1) := (blk_cell BK916.out 1).trans rfl
        have hcz40_2 : w35.cell? ⟨gb916, 2, none⟩ = some (.int .i64 a1_2) := (blk_cell BK916.out 2).trans rfl
        have hcz40_3 : w35.cell? ⟨gb916, 3, none⟩ = some (.int .i64 a1_3) := (blk_cell BK916.out 3).trans rfl
        have hfz40_0 := blk_frozen BK916.out 0
        have hfz40_1 := blk_frozen BK916.out 1
        have hfz40_2 := blk_frozen BK916.out 2
        have hfz40_3 := blk_frozen BK916.out 3
        go_wp2
        go_meet
        case rel => exact ⟨_, (true), (by first | rfl | (simp; done) | (simp [*]; done)), H', ⟨by first | omega | exact Nat.le_refl _⟩, ⟨by (with_reducible repeat (first | refine blk_drewN ?_ _ | refine blk_drew ?_ | refine blk_alloc ?_ _)); exact BK915.out⟩, ⟨by (with_reducible repeat (first | refine blk_drewN ?_ _ | refine blk_drew ?_ | refine blk_alloc ?_ _)); exact BK916.out⟩, ⟨by (with_reducible repeat (first | refine blk_drewN ?_ _ | refine blk_drew ?_ | refine blk_alloc ?_ _)); exact BK917.out⟩, ⟨by (with_reducible repeat (first | refine blk_drewN ?_ _ | refine blk_drew ?_ | refine blk_alloc ?_ _)); exact BK918.out⟩, ⟨by repeat (first | (with_reducible first | exact HB.out | apply below_alloc | apply pw_below_drewN | apply below_drew1 | refine below_set ?_ GE915.out | refine below_set ?_ GE916.out | refine below_set ?_ GE917.out | refine below_set ?_ GE918.out) | exact HB.out)⟩⟩
      · rw [if_neg c36] at H
        have c36b0 : decide ((wrap64 (64 - a1_2)) < (l2.length : Int)) = false := decide_eq_false c36
        clear c36
        (first | rw [c36b0] | (simp only [i64_w, i32_w]; rw [c36b0]) | skip)
        have H' := Aside0.mk H
        clear H
        have hnb41 := NB916_915.out
        have hnc41 := NB915_916.out
        have hnb42 := NB916_917.out
        have hnc42 := NB917_916.out
        have hnb43 := NB916_918.out
        have hnc43 := NB918_916.out
        have hcz44_0 : w35.cell? ⟨gb916, 0, none⟩ = some (.int .i64 a1_0) := (blk_cell BK916.out 0).trans rfl
        have hcz44_1 : w35.cell? ⟨gb916, 1, none⟩ = some (.int .i64 a1_1) := (blk_cell BK916.out 1).trans rfl
        have hcz44_2 : w35.cell? ⟨gb916, 2, none⟩ = some (.int .i64 a1_2) := (blk_cell BK916.out 2).trans rfl
        have hcz44_3 : w35.cell? ⟨gb916, 3, none⟩ = some (.int .i64 a1_3) := (blk_cell BK916.out 3).trans rfl
        have hfz44_0 := blk_frozen BK916.out 0
        have hfz44_1 := blk_frozen BK916.out 1
        have hfz44_2 := blk_frozen BK916.out 2
        have hfz44_3 := blk_frozen BK916.out 3
        have hnb45 := NB915_917.out
        have hnc45 := NB917_915.out
        have hnb46 := NB915_918.out
        have hnc46 := NB918_915.out
        have hcz47_0 : w35.cell? ⟨gb915, 0, none⟩ = some (.slice A0_0 l0_0.length c0_0) := (blk_cell BK915.out 0).trans rfl
        have hfz47_0 := blk_frozen BK915.out 0
        go_wp2
        go_meet
        case rel => exact ⟨_, (((l0_0.length : Int) == 16)), (by first | rfl | (simp; done) | (simp [*]; done)), H', ⟨by first | omega | exact Nat.le_refl _⟩, ⟨by (with_reducible repeat (first | refine blk_drewN ?_ _ | refine blk_drew ?_ | refine blk_alloc ?_ _)); exact BK915.out⟩, ⟨by (with_reducible repeat (first | refine blk_drewN ?_ _ | refine blk_drew ?_ | refine blk_alloc ?_ _)); exact BK916.out⟩, ⟨by (with_reducible repeat (first | refine blk_drewN ?_ _ | refine blk_drew ?_ | refine blk_alloc ?_ _)); exact BK917.out⟩, ⟨by (with_reducible repeat (first | refine blk_drewN ?_ _ | refine blk_drew ?_ | refine blk_alloc ?_ _)); exact BK918.out⟩, ⟨by repeat (first | (with_reducible first | exact HB.out | apply below_alloc | apply pw_below_drewN | apply below_drew1 | refine below_set ?_ GE915.out | refine below_set ?_ GE916.out | refine below_set ?_ GE917.out | refine below_set ?_ GE918.out) | exact HB.out)⟩⟩
    case rest =>
      clear HC26
      try clear c1
      try clear c2
      try clear p2
      try clear c3
      try clear c4
      try clear c5
      try clear c5b0
      try clear p6
      try clear c9
      try clear c10
      try clear c12
      try clear c13
      try clear c14
      try clear c31
      try clear c32
      try clear c33
      try clear c36
      try clear c36b0
      try clear c37
      try clear c38
      try clear c39
      try clear c41
      try clear c42
      try clear c43
      try clear c45
      try clear c46
      try clear hcz15_0
      try clear hcz15_1
      try clear hcz15_2
      try clear hcz15_3
      try clear hcz34_0
      try clear hcz34_1
      try clear hcz34_2
      try clear hcz34_3
      try clear hcz40_0
      try clear hcz40_1
      try clear hcz40_2
      try clear hcz40_3
      try clear hcz44_0
      try clear hcz44_1
      try clear hcz44_2
      try clear hcz44_3
      try clear hcz47_0
      try clear hfz15_0
      try clear hfz15_1
      try clear hfz15_2
      try clear hfz15_3
      try clear hfz34_0
      try clear hfz34_1
      try clear hfz34_2
      try clear hfz34_3
      try clear hfz40_0
      try clear hfz40_1
      try clear hfz40_2
      try clear hfz40_3
      try clear hfz44_0
      try clear hfz44_1
      try clear hfz44_2
      try clear hfz44_3
      try clear hfz47_0
      obtain ⟨kq, x44_25, rfl, HA, HJ25, BK915, BK916, BK917, BK918, HB⟩ := hcut
      cases kq with
      | zero => exact absurd HA.out (by simp [spec_l2Append.j0])
      | succ kj25 =>
        have H := HA.out
        clear HA
        simp only [spec_l2Append.j0] at H
        by_cases c48 : x44_25 = true
        · subst c48
          have H1 : (some (([] : List (List Int)), 0, 0, 0, 0, false)) = some (r1, r2, r3, r4, r5, r6) := by rw [if_pos rfl] at H; exact H
          clear H
          have H := H1
          clear H1
          simp only [Option.some.injEq, Prod.mk.injEq] at H
          obtain ⟨rfl, rfl, rfl, rfl, rfl, rfl⟩ := H
          have hnb49 := NB917_915.out
          have hnc49 := NB915_917.out
          have hnb50 := NB917_916.out
          have hnc50 := NB916_917.out
          have hnb51 := NB917_918.out
          have hnc51 := NB918_917.out
          have hcz52_0 : wc.cell? ⟨gb917, 0, none⟩ = some (.slice none 0 0) := (blk_cell BK917.out 0).trans rfl
          have hfz52_0 := blk_frozen BK917.out 0
          have hnb53 := NB918_915.out
          have hnc53 := NB915_918.out
          have hnb54 := NB918_916.out
          have hnc54 := NB916_918.out
          have hcz55_0 : wc.cell? ⟨gb918, 0, none⟩ = some (.int .i64 0) := (blk_cell BK918.out 0).trans rfl
          have hcz55_1 : wc.cell? ⟨gb918, 1, none⟩ = some (.int .i64 0) := (blk_cell BK918.out 1).trans rfl
          have hcz55_2 : wc.cell? ⟨gb918, 2, none⟩ = some (.int .i64 0) := (blk_cell BK918.out 2).trans rfl
          have hcz55_3 : wc.cell? ⟨gb918, 3, none⟩ = some (.int .i64 0) := (blk_cell BK918.out 3).trans rfl
          have hfz55_0 := blk_frozen BK918.out 0
          have hfz55_1 := blk_frozen BK918.out 1
          have hfz55_2 := blk_frozen BK918.out 2
          have hfz55_3 := blk_frozen BK918.out 3
          go_wp2
          refine bodyPost_ret (results_list (rs := [.cell 6 31, .cell 7 32, .tmp 8]) rfl (by simp) (.cell gb917 31 #[.slice none 0 0] (0, 0) _ rfl (by (with_reducible repeat (first | refine blk_drewN ?_ _ | refine blk_drew ?_ | refine blk_alloc ?_ _)); refine blk_far ?_ NB917_918.out _; (with_reducible repeat (first | refine blk_drewN ?_ _ | refine blk_drew ?_ | refine blk_alloc ?_ _)); refine blk_far ?_ NB917_918.out _; (with_reducible repeat (first | refine blk_drewN ?_ _ | refine blk_drew ?_ | refine blk_alloc ?_ _)); refine blk_far ?_ NB917_918.out _; (with_reducible repeat (first | refine blk_drewN ?_ _ | refine blk_drew ?_ | refine blk_alloc ?_ _)); refine blk_far ?_ NB917_918.out _; (with_reducible repeat (first | refine blk_drewN ?_ _ | refine blk_drew ?_ | refine blk_alloc ?_ _)); refine blk_put (cs := #[.slice none 0 0]) ?_ 0 _ rfl; (with_reducible repeat (first | refine blk_drewN ?_ _ | refine blk_drew ?_ | refine blk_alloc ?_ _)); exact BK917.out) Try.underlying31 rfl (by kernel_rfl) (.cell gb918 32 #[.int .i64 0, .int .i64 0, .int .i64 0, .int .i64 0] (0, 0) _ rfl (by (with_reducible repeat (first | refine blk_drewN ?_ _ | refine blk_drew ?_ | refine blk_alloc ?_ _)); refine blk_put (cs := #[.int .i64 0, .int .i64 0, .int .i64 0, .int .i64 0]) ?_ 3 _ rfl; (with_reducible repeat (first | refine blk_drewN ?_ _ | refine blk_drew ?_ | refine blk_alloc ?_ _)); refine blk_put (cs := #[.int .i64 0, .int .i64 0, .int .i64 0, .int .i64 0]) ?_ 2 _ rfl; (with_reducible repeat (first | refine blk_drewN ?_ _ | refine blk_drew ?_ | refine blk_alloc ?_ _)); refine blk_put (cs := #[.int .i64 0, .int .i64 0, .int .i64 0, .int .i64 0]) ?_ 1 _ rfl; (with_reducible repeat (first | refine blk_drewN ?_ _ | refine blk_drew ?_ | refine blk_alloc ?_ _)); refine blk_put (cs := #[.int .i64 0, .int .i64 0, .int .i64 0, .int .i64 0]) ?_ 0 _ rfl; (with_reducible repeat (first | refine blk_drewN ?_ _ | refine blk_drew ?_ | refine blk_alloc ?_ _)); refine blk_far ?_ NB918_917.out _; (with_reducible repeat (first | refine blk_drewN ?_ _ | refine blk_drew ?_ | refine blk_alloc ?_ _)); exact BK918.out) Try.underlying32 rfl (by kernel_rfl) (.tmp .nil)))) rfl ?_
          exact ⟨_, by first | rfl | (simp [errW_none, errW_some] <;> rfl) | (simp [*, errW_none, errW_some] <;> rfl), by first | exact Kd.S_nil _ _ _ _ _ | exact Kd.N_nil _ _ _ _ _ | exact Kd.V_nil _ _ _ _ _ | exact Kd.Q_nil _ _ _ _ _ | exact Kd.R_nil _ _ _ _ _, by repeat (first | (with_reducible first | exact HB.out | apply below_alloc | apply pw_below_drewN | apply below_drew1 | refine below_set ?_ GE915.out | refine below_set ?_ GE916.out | refine below_set ?_ GE917.out | refine below_set ?_ GE918.out) | exact HB.out)⟩
        · replace c48 := Bool.eq_false_iff.mpr c48
          subst c48
          have H1 : ((spec_l2Bytes.f kj25 l0_0 a1_0 a1_1 a1_2 a1_3).bind fun t927 => (if t927.length + l2.length < 140737488355328 then (spec_l2Append.l0 kj25 (wrap64 (a1_2 + (l2.length : Int))) (t927 ++ l2) l0_0 a1_0 a1_1 a1_2 a1_3) else (none))) = some (r1, r2, r3, r4, r5, r6) := by rw [if_neg (show ¬ (false = true) by decide)] at H; exact H
          clear H
          have H := H1
          clear H1
          replace H := Option.bind_eq_some_iff.mp H
          obtain ⟨t927, A560, H⟩ := H
          replace H : (if t927.length + l2.length < 140737488355328 then (spec_l2Append.l0 kj25 (wrap64 (a1_2 + (l2.length : Int))) (t927 ++ l2) l0_0 a1_0 a1_1 a1_2 a1_3) else (none)) = some (r1, r2, r3, r4, r5, r6) := H
          have A56 := Aside0.mk A560
          clear A560
          by_cases c57 : t927.length + l2.length < 140737488355328
          · rw [if_pos c57] at H
            have LMc57 := Aside0.mk c57
            clear c57
            obtain ⟨y930, hy930⟩ : ∃ y_ : List Int, y_ = (t927 ++ l2) := ⟨_, rfl⟩
            replace H : (spec_l2Append.l0 kj25 (wrap64 (a1_2 + (l2.length : Int))) y930 l0_0 a1_0 a1_1 a1_2 a1_3) = some (r1, r2, r3, r4, r5, r6) := by first | (rw [hy930]; with_reducible exact H) | (have H2_ := (Option.bind_some _ _).symm.trans H; rw [hy930]; with_reducible exact H2_) | (have H2_ := (Option.bind_some _ _).symm.trans H; with_reducible exact H2_) | with_reducible exact H | (rw [hy930]; exact H) | exact H
            have Ny930 := Aside0.mk hy930
            clear hy930
            have H' := Aside0.mk H
            clear H
            have hnb58 := NB916_915.out
            have hnc58 := NB915_916.out
            have hnb59 := NB916_917.out
            have hnc59 := NB917_916.out
            have hnb60 := NB916_918.out
            have hnc60 := NB918_916.out
            have hcz61_0 : wc.cell? ⟨gb916, 0, none⟩ = some (.int .i64 a1_0) := (blk_cell BK916.out 0).trans rfl
            have hcz61_1 : wc.cell? ⟨gb916, 1, none⟩ = some (.int .i64 a1_1) := (blk_cell BK916.out 1).trans rfl
            have hcz61_2 : wc.cell? ⟨gb916, 2, none⟩ = some (.int .i64 a1_2) := (blk_cell BK916.out 2).trans rfl
            have hcz61_3 : wc.cell? ⟨gb916, 3, none⟩ = some (.int .i64 a1_3) := (blk_cell BK916.out 3).trans rfl
            have hfz61_0 := blk_frozen BK916.out 0
            have hfz61_1 := blk_frozen BK916.out 1
            have hfz61_2 := blk_frozen BK916.out 2
            have hfz61_3 := blk_frozen BK916.out 3
            have hnb62 := NB915_917.out
            have hnc62 := NB917_915.out
            have hnb63 := NB915_918.out
            have hnc63 := NB918_915.out
            have hcz64_0 : wc.cell? ⟨gb915, 0, none⟩ = some (.slice A0_0 l0_0.length c0_0) := (blk_cell BK915.out 0).trans rfl
            have hfz64_0 := blk_frozen BK915.out 0
            go_wp2_with (first | ((with_reducible refine gate_callee (f := 98) rfl ?_); refine goesL_ (some 54) rfl rfl Try.func98 (by kernel_rfl) rfl #[.agg #[.slice A0_0 l0_0.length c0_0], .agg #[.int .i64 a1_0, .int .i64 a1_1, .int .i64 a1_2, .int .i64 a1_3]] rfl (by (try simp only [List.map_toArray, List.map_cons, List.map_nil]); first | done | rfl | (simp only [List.length_drop, List.length_take]; rfl)) ?_; (with_reducible refine (spec_l2Bytes.calls kj25 _ _ l0_0 a1_0 a1_1 a1_2 a1_3 t927 _ ?side1 ?side2 A56.out).mono ?_); (case side1 => repeat (first | exact (Kd.C_below HR0_0.out HB.out) | (with_reducible refine Kd.C_alloc ?_ _) | (with_reducible refine Kd.C_drewN ?_ _) | (with_reducible refine Kd.C_drew ?_))); (case side2 => exact HC0_0.out); rintro e w65 ⟨v928, rfl, ho0, hb⟩; refine ⟨_, rfl, ?_⟩; have n0_ := Aside0.mk (Kd.R_lower ho0 (below_size (by repeat (first | (with_reducible first | exact HB.out | apply below_alloc | apply pw_below_drewN | apply below_drew1 | refine below_set ?_ GE915.out | refine below_set ?_ GE916.out | refine below_set ?_ GE917.out | refine below_set ?_ GE918.out) | exact HB.out)))); have n1_ := Aside0.mk (blk_below (g := gb915) (o := .cells #[.slice A0_0 l0_0.length c0_0] 31 (0, 0)) (by (with_reducible repeat (first | refine blk_drewN ?_ _ | refine blk_drew ?_ | refine blk_alloc ?_ _)); exact BK915.out) hb); have n2_ := Aside0.mk (blk_below (g := gb916) (o := .cells #[.int .i64 a1_0, .int .i64 a1_1, .int .i64 a1_2, .int .i64 a1_3] 32 (0, 0)) (by (with_reducible repeat (first | refine blk_drewN ?_ _ | refine blk_drew ?_ | refine blk_alloc ?_ _)); exact BK916.out) hb); have n3_ := Aside0.mk (blk_below (g := gb917) (o := .cells #[.slice none 0 0] 31 (0, 0)) (by (with_reducible repeat (first | refine blk_drewN ?_ _ | refine blk_drew ?_ | refine blk_alloc ?_ _)); exact BK917.out) hb); have n4_ := Aside0.mk (blk_below (g := gb918) (o := .cells #[.int .i64 0, .int .i64 0, .int .i64 0, .int .i64 0] 32 (0, 0)) (by (with_reducible repeat (first | refine blk_drewN ?_ _ | refine blk_drew ?_ | refine blk_alloc ?_ _)); exact BK918.out) hb); have n5_ := Aside0.mk (below_step (by repeat (first | (with_reducible first | exact HB.out | apply below_alloc | apply pw_below_drewN | apply below_drew1 | refine below_set ?_ GE915.out | refine below_set ?_ GE916.out | refine below_set ?_ GE917.out | refine below_set ?_ GE918.out) | exact HB.out)) hb); clear BK915; clear BK916; clear BK917; clear BK918; clear HB; have HO929 := n0_; have BK915 := n1_; have BK916 := n2_; have BK917 := n3_; have BK918 := n4_; have HB := n5_; clear n0_ n1_ n2_ n3_ n4_ n5_; (try clear hb); (try clear hb2); (try clear hk); (try clear hi); (try clear ho0)) | ((with_reducible refine gate_builtin (b := .append) (xs := #[.tmp 54, .tmp 55]) rfl ?_); (try (refine gate_guard (by rfl) ?_; dsimp only)); at_builtin; refine Kd.R_append_rows (Kd.int .u8) (w0 := w) w.heap.size rfl (.tmp 54) (.tmp 55) 29 5 (.int .u8 0) 1 rfl Try.underlying29 info5 rfl (by decide) (by omega) v928 t927 l2 _ _ _ (fun _ => True) (fun _ => False) rfl rfl ?aO ?aR (fun _ _ h => h) (fun _ h => h.elim) ?aF ?aB ?aS ?aL ?_; (case aR => repeat (first | exact (Kd.C_below HR2.out HB.out) | (with_reducible refine Kd.C_alloc ?_ _) | (with_reducible refine Kd.C_drewN ?_ _) | (with_reducible refine Kd.C_drew ?_))); (case aB => exact (by repeat (first | (with_reducible first | exact HB.out | apply below_alloc | apply pw_below_drewN | apply below_drew1 | refine below_set ?_ GE915.out | refine below_set ?_ GE916.out | refine below_set ?_ GE917.out | refine below_set ?_ GE918.out) | exact HB.out))); (case aF => exact (fun _ _ => trivial)); (case aO => exact (by (with_reducible repeat (first | apply Kd.R_alloc | apply Kd.R_drewN | apply Kd.R_drew)); exact HO929.out)); (case aS => exact (below_size (by repeat (first | (with_reducible first | exact HB.out | apply below_alloc | apply pw_below_drewN | apply below_drew1 | refine below_set ?_ GE915.out | refine below_set ?_ GE916.out | refine below_set ?_ GE917.out | refine below_set ?_ GE918.out) | exact HB.out)))); (case aL => have := LMc57.out; omega); intro v931 w66 ho hb hg hat; rw [← Ny930.out] at ho; have n0_ := Aside0.mk (blk_grown (g := gb915) (o := .cells #[.slice A0_0 l0_0.length c0_0] 31 (0, 0)) (by (with_reducible repeat (first | refine blk_drewN ?_ _ | refine blk_drew ?_ | refine blk_alloc ?_ _)); exact BK915.out) hg (Kd.R_ne HO929.out BK915.out (by decide))); have n1_ := Aside0.mk (blk_grown (g := gb916) (o := .cells #[.int .i64 a1_0, .int .i64 a1_1, .int .i64 a1_2, .int .i64 a1_3] 32 (0, 0)) (by (with_reducible repeat (first | refine blk_drewN ?_ _ | refine blk_drew ?_ | refine blk_alloc ?_ _)); exact BK916.out) hg (Kd.R_ne HO929.out BK916.out (by decide))); have n2_ := Aside0.mk (blk_grown (g := gb917) (o := .cells #[.slice none 0 0] 31 (0, 0)) (by (with_reducible repeat (first | refine blk_drewN ?_ _ | refine blk_drew ?_ | refine blk_alloc ?_ _)); exact BK917.out) hg (Kd.R_ne HO929.out BK917.out (by decide))); have n3_ := Aside0.mk (blk_grown (g := gb918) (o := .cells #[.int .i64 0, .int .i64 0, .int .i64 0, .int .i64 0] 32 (0, 0)) (by (with_reducible repeat (first | refine blk_drewN ?_ _ | refine blk_drew ?_ | refine blk_alloc ?_ _)); exact BK918.out) hg (Kd.R_ne HO929.out BK918.out (by decide))); have n4_ := Aside0.mk (hb); have n5_ := Aside0.mk (ho); clear BK915; clear BK916; clear BK917; clear BK918; clear HB; clear HO929; have BK915 := n0_; have BK916 := n1_; have BK917 := n2_; have BK918 := n3_; have HB := n4_; have HO932 := n5_; clear n0_ n1_ n2_ n3_ n4_ n5_; clear ho hb hg hat))
            go_loopg [10] kj25 (fun kq v10 w' => ∃ (x10_2 : List Int), Aside0 (spec_l2Append.l0 kq (wrap64 (a1_2 + (l2.length : Int))) x10_2 l0_0 a1_0 a1_1 a1_2 a1_3 = some (r1, r2, r3, r4, r5, r6)) ∧ Aside0 (kq ≤ kj25) ∧ Aside0 (Kd.R (Kd.int .u8) 5 w' w.heap.size (fun _ => True) v10 x10_2) ∧ Aside0 (w'.heap[gb915]? = some (.cells #[(.slice A0_0 l0_0.length c0_0)] 31 (0, 0))) ∧ Aside0 (w'.heap[gb916]? = some (.cells #[.int .i64 a1_0, .int .i64 a1_1, .int .i64 a1_2, .int .i64 a1_3] 32 (0, 0))) ∧ Aside0 (w'.heap[gb917]? = some (.cells #[(.slice none 0 0)] 31 (0, 0))) ∧ Aside0 (w'.heap[gb918]? = some (.cells #[.int .i64 0, .int .i64 0, .int .i64 0, .int .i64 0] 32 (0, 0))) ∧ Aside0 (Below w.heap.size w w'))
            case atStart => exact ⟨(y930), H', ⟨Nat.le_refl _⟩, ⟨by (with_reducible repeat (first | apply Kd.R_alloc | apply Kd.R_drewN | apply Kd.R_drew)); exact HO932.out⟩, ⟨by (with_reducible repeat (first | refine blk_drewN ?_ _ | refine blk_drew ?_ | refine blk_alloc ?_ _)); exact BK915.out⟩, ⟨by (with_reducible repeat (first | refine blk_drewN ?_ _ | refine blk_drew ?_ | refine blk_alloc ?_ _)); exact BK916.out⟩, ⟨by (with_reducible repeat (first | refine blk_drewN ?_ _ | refine blk_drew ?_ | refine blk_alloc ?_ _)); exact BK917.out⟩, ⟨by (with_reducible repeat (first | refine blk_drewN ?_ _ | refine blk_drew ?_ | refine blk_alloc ?_ _)); exact BK918.out⟩, ⟨by repeat (first | (with_reducible first | exact HB.out | apply below_alloc | apply pw_below_drewN | apply below_drew1 | refine below_set ?_ GE915.out | refine below_set ?_ GE916.out | refine below_set ?_ GE917.out | refine below_set ?_ GE918.out) | exact HB.out)⟩⟩
            case round =>
              clear H'
              try clear c1
              try clear c2
              try clear p2
              try clear c3
              try clear c4
              try clear c5
              try clear c5b0
              try clear c6
              try clear p6
              try clear c9
              try clear c10
              try clear c12
              try clear c13
              try clear c14
              try clear c31
              try clear c32
              try clear c33
              try clear c36
              try clear c36b0
              try clear c37
              try clear c38
              try clear c39
              try clear c41
              try clear c42
              try clear c43
              try clear c45
              try clear c46
              try clear c48
              try clear c49
              try clear c50
              try clear c51
              try clear c53
              try clear c54
              try clear c57
              try clear c58
              try clear c59
              try clear c60
              try clear c62
              try clear c63
              try clear p64
              try clear hcz15_0
              try clear hcz15_1
              try clear hcz15_2
              try clear hcz15_3
              try clear hcz34_0
              try clear hcz34_1
              try clear hcz34_2
              try clear hcz34_3
              try clear hcz40_0
              try clear hcz40_1
              try clear hcz40_2
              try clear hcz40_3
              try clear hcz44_0
              try clear hcz44_1
              try clear hcz44_2
              try clear hcz44_3
              try clear hcz47_0
              try clear hcz52_0
              try clear hcz55_0
              try clear hcz55_1
              try clear hcz55_2
              try clear hcz55_3
              try clear hcz61_0
              try clear hcz61_1
              try clear hcz61_2
              try clear hcz61_3
              try clear hcz64_0
              try clear hfz15_0
              try clear hfz15_1
              try clear hfz15_2
              try clear hfz15_3
              try clear hfz34_0
              try clear hfz34_1
              try clear hfz34_2
              try clear hfz34_3
              try clear hfz40_0
              try clear hfz40_1
              try clear hfz40_2
              try clear hfz40_3
              try clear hfz44_0
              try clear hfz44_1
              try clear hfz44_2
              try clear hfz44_3
              try clear hfz47_0
              try clear hfz52_0
              try clear hfz55_0
              try clear hfz55_1
              try clear hfz55_2
              try clear hfz55_3
              try clear hfz61_0
              try clear hfz61_1
              try clear hfz61_2
              try clear hfz61_3
              try clear hfz64_0
              try clear p2
              try clear p6
              obtain ⟨x10_2, HA, HK2, HO_10, BK915, BK916, BK917, BK918, HB⟩ := hrel
              cases gk with
              | zero => exact absurd HA.out (by simp [spec_l2Append.l0])
              | succ k2 =>
                have H := HA.out
                clear HA
                simp only [spec_l2Append.l0] at H
                replace H := Option.bind_eq_some_iff.mp H
                obtain ⟨t933, A670, H⟩ := H
                replace H : ((spec_l1Least.f t933 64).bind fun t934 => (if (x10_2.length : Int) < t934 then (if x10_2.length < 140737488355328 then (spec_l2Append.l0 k2 (wrap64 (a1_2 + (l2.length : Int))) (x10_2 ++ [0]) l0_0 a1_0 a1_1 a1_2 a1_3) else (none)) else ((spec_l2New.f k2 l0_0 x10_2 (wrap64 (a1_2 + (l2.length : Int)))).bind fun bt938 => (some (bt938.1, bt938.2.1, bt938.2.2.1, bt938.2.2.2.1, bt938.2.2.2.2, true))))) = some (r1, r2, r3, r4, r5, r6) := H
                have A67 := Aside0.mk A670
                clear A670
                replace H := Option.bind_eq_some_iff.mp H
                obtain ⟨t934, A680, H⟩ := H
                replace H : (if (x10_2.length : Int) < t934 then (if x10_2.length < 140737488355328 then (spec_l2Append.l0 k2 (wrap64 (a1_2 + (l2.length : Int))) (x10_2 ++ [0]) l0_0 a1_0 a1_1 a1_2 a1_3) else (none)) else ((spec_l2New.f k2 l0_0 x10_2 (wrap64 (a1_2 + (l2.length : Int)))).bind fun bt938 => (some (bt938.1, bt938.2.1, bt938.2.2.1, bt938.2.2.2.1, bt938.2.2.2.2, true)))) = some (r1, r2, r3, r4, r5, r6) := H
                have A68 := Aside0.mk A680
                clear A680
                by_cases c69 : (x10_2.length : Int) < t934
                · rw [if_pos c69] at H
                  have c69b0 : decide ((x10_2.length : Int) < t934) = true := decide_eq_true c69
                  clear c69
                  by_cases c70 : x10_2.length < 140737488355328
                  · rw [if_pos c70] at H
                    have LMc70 := Aside0.mk c70
                    clear c70
                    obtain ⟨y935, hy935⟩ : ∃ y_ : List Int, y_ = (x10_2 ++ [0]) := ⟨_, rfl⟩
                    replace H : (spec_l2Append.l0 k2 (wrap64 (a1_2 + (l2.length : Int))) y935 l0_0 a1_0 a1_1 a1_2 a1_3) = some (r1, r2, r3, r4, r5, r6) := by first | (rw [hy935]; with_reducible exact H) | (have H2_ := (Option.bind_some _ _).symm.trans H; rw [hy935]; with_reducible exact H2_) | (have H2_ := (Option.bind_some _ _).symm.trans H; with_reducible exact H2_) | with_reducible exact H | (rw [hy935]; exact H) | exact H
                    have Ny935 := Aside0.mk hy935
                    clear hy935
                    have H' := Aside0.mk H
                    clear H
                    obtain ⟨Ao71, co71, eo71⟩ := Kd.R_slice HO_10.out
                    subst eo71
                    have hnb72 := NB916_915.out
                    have hnc72 := NB915_916.out
                    have hnb73 := NB916_917.out
                    have hnc73 := NB917_916.out
                    have hnb74 := NB916_918.out
                    have hnc74 := NB918_916.out
                    have hcz75_0 : wr.cell? ⟨gb916, 0, none⟩ = some (.int .i64 a1_0) := (blk_cell BK916.out 0).trans rfl
                    have hcz75_1 : wr.cell? ⟨gb916, 1, none⟩ = some (.int .i64 a1_1) := (blk_cell BK916.out 1).trans rfl
                    have hcz75_2 : wr.cell? ⟨gb916, 2, none⟩ = some (.int .i64 a1_2) := (blk_cell BK916.out 2).trans rfl
                    have hcz75_3 : wr.cell? ⟨gb916, 3, none⟩ = some (.int .i64 a1_3) := (blk_cell BK916.out 3).trans rfl
                    have hfz75_0 := blk_frozen BK916.out 0
                    have hfz75_1 := blk_frozen BK916.out 1
                    have hfz75_2 := blk_frozen BK916.out 2
                    have hfz75_3 := blk_frozen BK916.out 3
                    go_wp2_with (first | ((with_reducible refine gate_callee (f := 83) rfl ?_); refine goesL_ (some 63) rfl rfl Try.func83 (by kernel_rfl) rfl #[.int .i64 (wrap64 (2 * a1_3)), .int .i64 (wrap64 (a1_2 + (l2.length : Int)))] rfl (by (try simp only [List.map_toArray, List.map_cons, List.map_nil]); first | done | rfl | (simp only [List.length_drop, List.length_take]; rfl)) ?_; (with_reducible refine (spec_l1Most.calls (wrap64 (2 * a1_3)) (wrap64 (a1_2 + (l2.length : Int))) t933 _ A67.out).mono ?_); rintro e w' ⟨rfl, ⟨nd, rfl⟩⟩; refine ⟨_, rfl, ?_⟩) | ((with_reducible refine gate_callee (f := 118) rfl ?_); refine goesL_ (some 64) rfl rfl Try.func118 (by kernel_rfl) rfl #[.int .i64 t933, .int .i64 64] rfl (by (try simp only [List.map_toArray, List.map_cons, List.map_nil]); first | done | rfl | (simp only [List.length_drop, List.length_take]; rfl)) ?_; (with_reducible refine (spec_l1Least.calls t933 64 t934 _ A68.out).mono ?_); rintro e w' ⟨rfl, ⟨nd, rfl⟩⟩; refine ⟨_, rfl, ?_⟩) | ((with_reducible refine gate_builtin (b := .append) (xs := #[.tmp 66, .tmp 67]) rfl ?_); (try (refine gate_guard (by rfl) ?_; dsimp only)); at_builtin; refine Kd.R_append (Kd.int .u8) (w0 := w) w.heap.size rfl (.tmp 66) (.tmp 67) 29 5 (.int .u8 0) 1 rfl Try.underlying29 info5 rfl (by decide) (by omega) (.slice Ao71 x10_2.length co71) x10_2 0 [.int .u8 0] (fun _ => True) (fun _ => False) rfl rfl ?aP (fun _ hk => hk.elim) ?aF ?aO ?aB ?aS ?aL ?_; (case aP => exact rfl); (case aB => exact (by repeat (first | (with_reducible first | exact HB.out | apply below_alloc | apply pw_below_drewN | apply below_drew1 | refine below_set ?_ GE915.out | refine below_set ?_ GE916.out | refine below_set ?_ GE917.out | refine below_set ?_ GE918.out) | exact HB.out))); (case aF => exact (fun _ _ => trivial)); (case aO => exact (by (with_reducible repeat (first | apply Kd.R_alloc | apply Kd.R_drewN | apply Kd.R_drew)); exact HO_10.out)); (case aS => exact (below_size (by repeat (first | (with_reducible first | exact HB.out | apply below_alloc | apply pw_below_drewN | apply below_drew1 | refine below_set ?_ GE915.out | refine below_set ?_ GE916.out | refine below_set ?_ GE917.out | refine below_set ?_ GE918.out) | exact HB.out)))); (case aL => have := LMc70.out; omega); intro v936 w76 ho hb hg hat; rw [← Ny935.out] at ho; have n0_ := Aside0.mk (blk_grown (g := gb915) (o := .cells #[.slice A0_0 l0_0.length c0_0] 31 (0, 0)) (by (with_reducible repeat (first | refine blk_drewN ?_ _ | refine blk_drew ?_ | refine blk_alloc ?_ _)); exact BK915.out) hg (Kd.R_ne HO_10.out BK915.out (by decide))); have n1_ := Aside0.mk (blk_grown (g := gb916) (o := .cells #[.int .i64 a1_0, .int .i64 a1_1, .int .i64 a1_2, .int .i64 a1_3] 32 (0, 0)) (by (with_reducible repeat (first | refine blk_drewN ?_ _ | refine blk_drew ?_ | refine blk_alloc ?_ _)); exact BK916.out) hg (Kd.R_ne HO_10.out BK916.out (by decide))); have n2_ := Aside0.mk (blk_grown (g := gb917) (o := .cells #[.slice none 0 0] 31 (0, 0)) (by (with_reducible repeat (first | refine blk_drewN ?_ _ | refine blk_drew ?_ | refine blk_alloc ?_ _)); exact BK917.out) hg (Kd.R_ne HO_10.out BK917.out (by decide))); have n3_ := Aside0.mk (blk_grown (g := gb918) (o := .cells #[.int .i64 0, .int .i64 0, .int .i64 0, .int .i64 0] 32 (0, 0)) (by (with_reducible repeat (first | refine blk_drewN ?_ _ | refine blk_drew ?_ | refine blk_alloc ?_ _)); exact BK918.out) hg (Kd.R_ne HO_10.out BK918.out (by decide))); have n4_ := Aside0.mk (hb); have n5_ := Aside0.mk (ho); clear BK915; clear BK916; clear BK917; clear BK918; clear HB; clear HO_10; have BK915 := n0_; have BK916 := n1_; have BK917 := n2_; have BK918 := n3_; have HB := n4_; have HO937 := n5_; clear n0_ n1_ n2_ n3_ n4_ n5_; clear ho hb hg hat))
                    go_roundg k2
                    case measure => have := HJ25.out; have := HK2.out; omega
                    case rel => exact ⟨(y935), H', ⟨by have := HJ25.out; have := HK2.out; omega⟩, ⟨by (with_reducible repeat (first | apply Kd.R_alloc | apply Kd.R_drewN | apply Kd.R_drew)); exact HO937.out⟩, ⟨by (with_reducible repeat (first | refine blk_drewN ?_ _ | refine blk_drew ?_ | refine blk_alloc ?_ _)); exact BK915.out⟩, ⟨by (with_reducible repeat (first | refine blk_drewN ?_ _ | refine blk_drew ?_ | refine blk_alloc ?_ _)); exact BK916.out⟩, ⟨by (with_reducible repeat (first | refine blk_drewN ?_ _ | refine blk_drew ?_ | refine blk_alloc ?_ _)); exact BK917.out⟩, ⟨by (with_reducible repeat (first | refine blk_drewN ?_ _ | refine blk_drew ?_ | refine blk_alloc ?_ _)); exact BK918.out⟩, ⟨by repeat (first | (with_reducible first | exact HB.out | apply below_alloc | apply pw_below_drewN | apply below_drew1 | refine below_set ?_ GE915.out | refine below_set ?_ GE916.out | refine below_set ?_ GE917.out | refine below_set ?_ GE918.out) | exact HB.out)⟩⟩
                  · rw [if_neg c70] at H
                    exact absurd H (by simp)
                · rw [if_neg c69] at H
                  have c69b0 : decide ((x10_2.length : Int) < t934) = false := decide_eq_false c69
                  clear c69
                  replace H := Option.bind_eq_some_iff.mp H
                  obtain ⟨⟨t938, t941, t942, t943, t944⟩, A770, H⟩ := H
                  replace H : (some (t938, t941, t942, t943, t944, true)) = some (r1, r2, r3, r4, r5, r6) := H
                  have A77 := Aside0.mk A770
                  clear A770
                  simp only [Option.some.injEq, Prod.mk.injEq] at H
                  obtain ⟨rfl, rfl, rfl, rfl, rfl, rfl⟩ := H
                  obtain ⟨Ao78, co78, eo78⟩ := Kd.R_slice HO_10.out
                  subst eo78
                  have hnb79 := NB916_915.out
                  have hnc79 := NB915_916.out
                  have hnb80 := NB916_917.out
                  have hnc80 := NB917_916.out
                  have hnb81 := NB916_918.out
                  have hnc81 := NB918_916.out
                  have hcz82_0 : wr.cell? ⟨gb916, 0, none⟩ = some (.int .i64 a1_0) := (blk_cell BK916.out 0).trans rfl
                  have hcz82_1 : wr.cell? ⟨gb916, 1, none⟩ = some (.int .i64 a1_1) := (blk_cell BK916.out 1).trans rfl
                  have hcz82_2 : wr.cell? ⟨gb916, 2, none⟩ = some (.int .i64 a1_2) := (blk_cell BK916.out 2).trans rfl
                  have hcz82_3 : wr.cell? ⟨gb916, 3, none⟩ = some (.int .i64 a1_3) := (blk_cell BK916.out 3).trans rfl
                  have hfz82_0 := blk_frozen BK916.out 0
                  have hfz82_1 := blk_frozen BK916.out 1
                  have hfz82_2 := blk_frozen BK916.out 2
                  have hfz82_3 := blk_frozen BK916.out 3
                  try go_wp2_with (first | ((with_reducible refine gate_callee (f := 83) rfl ?_); refine goesL_ (some 63) rfl rfl Try.func83 (by kernel_rfl) rfl #[.int .i64 (wrap64 (2 * a1_3)), .int .i64 (wrap64 (a1_2 + (l2.length : Int)))] rfl (by (try simp only [List.map_toArray, List.map_cons, List.map_nil]); first | done | rfl | (simp only [List.length_drop, List.length_take]; rfl)) ?_; (with_reducible refine (spec_l1Most.calls (wrap64 (2 * a1_3)) (wrap64 (a1_2 + (l2.length : Int))) t933 _ A67.out).mono ?_); rintro e w' ⟨rfl, ⟨nd, rfl⟩⟩; refine ⟨_, rfl, ?_⟩; (try (rw [drewN_self wr]; generalize hq_ : World.drewN wr _ = wr; have n0_ : Aside0 (Kd.R (Kd.int .u8) 5 wr w.heap.size (fun _ => True) (.slice Ao78 x10_2.length co78) x10_2) := ⟨by rw [← hq_]; exact (by (with_reducible repeat (first | apply Kd.R_alloc | apply Kd.R_drewN | apply Kd.R_drew)); exact HO_10.out)⟩; have n1_ : Aside0 (wr.heap[gb915]? = some (.cells #[.slice A0_0 l0_0.length c0_0] 31 (0, 0))) := ⟨by rw [← hq_]; exact (by (with_reducible repeat (first | refine blk_drewN ?_ _ | refine blk_drew ?_ | refine blk_alloc ?_ _)); exact BK915.out)⟩; have n2_ : Aside0 (wr.heap[gb916]? = some (.cells #[.int .i64 a1_0, .int .i64 a1_1, .int .i64 a1_2, .int .i64 a1_3] 32 (0, 0))) := ⟨by rw [← hq_]; exact (by (with_reducible repeat (first | refine blk_drewN ?_ _ | refine blk_drew ?_ | refine blk_alloc ?_ _)); exact BK916.out)⟩; have n3_ : Aside0 (wr.heap[gb917]? = some (.cells #[.slice none 0 0] 31 (0, 0))) := ⟨by rw [← hq_]; exact (by (with_reducible repeat (first | refine blk_drewN ?_ _ | refine blk_drew ?_ | refine blk_alloc ?_ _)); exact BK917.out)⟩; have n4_ : Aside0 (wr.heap[gb918]? = some (.cells #[.int .i64 0, .int .i64 0, .int .i64 0, .int .i64 0] 32 (0, 0))) := ⟨by rw [← hq_]; exact (by (with_reducible repeat (first | refine blk_drewN ?_ _ | refine blk_drew ?_ | refine blk_alloc ?_ _)); exact BK918.out)⟩; have n5_ : Aside0 (Below w.heap.size w wr) := ⟨by rw [← hq_]; exact (by repeat (first | (with_reducible first | exact HB.out | apply below_alloc | apply pw_below_drewN | apply below_drew1 | refine below_set ?_ GE915.out | refine below_set ?_ GE916.out | refine below_set ?_ GE917.out | refine below_set ?_ GE918.out) | exact HB.out))⟩; clear HO_10 BK915 BK916 BK917 BK918 HB hq_; have HO_10 := n0_; have BK915 := n1_; have BK916 := n2_; have BK917 := n3_; have BK918 := n4_; have HB := n5_; clear n0_ n1_ n2_ n3_ n4_ n5_))) | ((with_reducible refine gate_callee (f := 118) rfl ?_); refine goesL_ (some 64) rfl rfl Try.func118 (by kernel_rfl) rfl #[.int .i64 t933, .int .i64 64] rfl (by (try simp only [List.map_toArray, List.map_cons, List.map_nil]); first | done | rfl | (simp only [List.length_drop, List.length_take]; rfl)) ?_; (with_reducible refine (spec_l1Least.calls t933 64 t934 _ A68.out).mono ?_); rintro e w' ⟨rfl, ⟨nd, rfl⟩⟩; refine ⟨_, rfl, ?_⟩; (try (rw [drewN_self wr]; generalize hq_ : World.drewN wr _ = wr; have n0_ : Aside0 (Kd.R (Kd.int .u8) 5 wr w.heap.size (fun _ => True) (.slice Ao78 x10_2.length co78) x10_2) := ⟨by rw [← hq_]; exact (by (with_reducible repeat (first | apply Kd.R_alloc | apply Kd.R_drewN | apply Kd.R_drew)); exact HO_10.out)⟩; have n1_ : Aside0 (wr.heap[gb915]? = some (.cells #[.slice A0_0 l0_0.length c0_0] 31 (0, 0))) := ⟨by rw [← hq_]; exact (by (with_reducible repeat (first | refine blk_drewN ?_ _ | refine blk_drew ?_ | refine blk_alloc ?_ _)); exact BK915.out)⟩; have n2_ : Aside0 (wr.heap[gb916]? = some (.cells #[.int .i64 a1_0, .int .i64 a1_1, .int .i64 a1_2, .int .i64 a1_3] 32 (0, 0))) := ⟨by rw [← hq_]; exact (by (with_reducible repeat (first | refine blk_drewN ?_ _ | refine blk_drew ?_ | refine blk_alloc ?_ _)); exact BK916.out)⟩; have n3_ : Aside0 (wr.heap[gb917]? = some (.cells #[.slice none 0 0] 31 (0, 0))) := ⟨by rw [← hq_]; exact (by (with_reducible repeat (first | refine blk_drewN ?_ _ | refine blk_drew ?_ | refine blk_alloc ?_ _)); exact BK917.out)⟩; have n4_ : Aside0 (wr.heap[gb918]? = some (.cells #[.int .i64 0, .int .i64 0, .int .i64 0, .int .i64 0] 32 (0, 0))) := ⟨by rw [← hq_]; exact (by (with_reducible repeat (first | refine blk_drewN ?_ _ | refine blk_drew ?_ | refine blk_alloc ?_ _)); exact BK918.out)⟩; have n5_ : Aside0 (Below w.heap.size w wr) := ⟨by rw [← hq_]; exact (by repeat (first | (with_reducible first | exact HB.out | apply below_alloc | apply pw_below_drewN | apply below_drew1 | refine below_set ?_ GE915.out | refine below_set ?_ GE916.out | refine below_set ?_ GE917.out | refine below_set ?_ GE918.out) | exact HB.out))⟩; clear HO_10 BK915 BK916 BK917 BK918 HB hq_; have HO_10 := n0_; have BK915 := n1_; have BK916 := n2_; have BK917 := n3_; have BK918 := n4_; have HB := n5_; clear n0_ n1_ n2_ n3_ n4_ n5_)); have hnb83 := NB915_917.out; have hnc83 := NB917_915.out; have hnb84 := NB915_918.out; have hnc84 := NB918_915.out; have hcz85_0 : wr.cell? ⟨gb915, 0, none⟩ = some (.slice A0_0 l0_0.length c0_0) := (blk_cell BK915.out 0).trans rfl; have hfz85_0 := blk_frozen BK915.out 0) | ((with_reducible refine gate_callee (f := 85) rfl ?_); refine goesL_ (some 73) rfl rfl Try.func85 (by kernel_rfl) rfl #[.agg #[.slice A0_0 l0_0.length c0_0], .slice Ao78 x10_2.length co78, .int .i64 (wrap64 (a1_2 + (l2.length : Int)))] rfl (by (try simp only [List.map_toArray, List.map_cons, List.map_nil]); first | done | rfl | (simp only [List.length_drop, List.length_take]; rfl)) ?_; (with_reducible refine (spec_l2New.calls k2 _ _ l0_0 _ _ x10_2 (wrap64 (a1_2 + (l2.length : Int))) t938 t941 t942 t943 t944 _ ?side1 ?side2 ?side3 ?side4 A77.out).mono ?_); (case side1 => repeat (first | exact (Kd.C_below HR0_0.out HB.out) | (with_reducible refine Kd.C_alloc ?_ _) | (with_reducible refine Kd.C_drewN ?_ _) | (with_reducible refine Kd.C_drew ?_))); (case side2 => exact HC0_0.out); (case side3 => repeat (first | exact (Kd.R_reads' HO_10.out).2.2 | (with_reducible refine Kd.C_alloc ?_ _) | (with_reducible refine Kd.C_drewN ?_ _) | (with_reducible refine Kd.C_drew ?_))); (case side4 => exact (Kd.R_reads' HO_10.out).2.1); rintro e w86 ⟨v939, rfl, ho0, hb⟩; refine ⟨_, rfl, ?_⟩; have n0_ := Aside0.mk (Kd.R_below (by (with_reducible repeat (first | apply Kd.R_alloc | apply Kd.R_drewN | apply Kd.R_drew)); exact HO_10.out) hb); have n1_ := Aside0.mk (Kd.S_lower (Kd.S_new' ho0 (Kd.R_lt (by (with_reducible repeat (first | apply Kd.R_alloc | apply Kd.R_drewN | apply Kd.R_drew)); exact HO_10.out))) (below_size (by repeat (first | (with_reducible first | exact HB.out | apply below_alloc | apply pw_below_drewN | apply below_drew1 | refine below_set ?_ GE915.out | refine below_set ?_ GE916.out | refine below_set ?_ GE917.out | refine below_set ?_ GE918.out) | exact HB.out)))); have n2_ := Aside0.mk (blk_below (g := gb915) (o := .cells #[.slice A0_0 l0_0.length c0_0] 31 (0, 0)) (by (with_reducible repeat (first | refine blk_drewN ?_ _ | refine blk_drew ?_ | refine blk_alloc ?_ _)); exact BK915.out) hb); have n3_ := Aside0.mk (blk_below (g := gb916) (o := .cells #[.int .i64 a1_0, .int .i64 a1_1, .int .i64 a1_2, .int .i64 a1_3] 32 (0, 0)) (by (with_reducible repeat (first | refine blk_drewN ?_ _ | refine blk_drew ?_ | refine blk_alloc ?_ _)); exact BK916.out) hb); have n4_ := Aside0.mk (blk_below (g := gb917) (o := .cells #[.slice none 0 0] 31 (0, 0)) (by (with_reducible repeat (first | refine blk_drewN ?_ _ | refine blk_drew ?_ | refine blk_alloc ?_ _)); exact BK917.out) hb); have n5_ := Aside0.mk (blk_below (g := gb918) (o := .cells #[.int .i64 0, .int .i64 0, .int .i64 0, .int .i64 0] 32 (0, 0)) (by (with_reducible repeat (first | refine blk_drewN ?_ _ | refine blk_drew ?_ | refine blk_alloc ?_ _)); exact BK918.out) hb); have n6_ := Aside0.mk (below_step (by repeat (first | (with_reducible first | exact HB.out | apply below_alloc | apply pw_below_drewN | apply below_drew1 | refine below_set ?_ GE915.out | refine below_set ?_ GE916.out | refine below_set ?_ GE917.out | refine below_set ?_ GE918.out) | exact HB.out)) hb); clear HO_10; clear BK915; clear BK916; clear BK917; clear BK918; clear HB; have HO_10 := n0_; have HO940 := n1_; have BK915 := n2_; have BK916 := n3_; have BK917 := n4_; have BK918 := n5_; have HB := n6_; clear n0_ n1_ n2_ n3_ n4_ n5_ n6_; (try clear hb); (try clear hb2); (try clear hk); (try clear hi); (try clear ho0)) | ((with_reducible refine gate_dst (N := 11) rfl ?_); (try (refine gate_guard (by rfl) ?_; dsimp only)); refine box_event ?hg (N := 11) ?hd (cs := #[.slice none 0 0]) (t := 31) ?hr ?_; (case hd => rfl); (case hg => rfl); (case hr => first | (go_simp; done) | (go_simp; rfl)); intro gb945 hg w87 hbox hb; have n0_ := Aside0.mk (Kd.R_below (by (with_reducible repeat (first | apply Kd.R_alloc | apply Kd.R_drewN | apply Kd.R_drew)); exact HO_10.out) hb); have n1_ := Aside0.mk (Kd.S_below (by (with_reducible repeat (first | apply Kd.S_alloc | apply Kd.S_drewN | apply Kd.S_drew)); exact HO940.out) hb); have n2_ := Aside0.mk (blk_below (g := gb915) (o := .cells #[.slice A0_0 l0_0.length c0_0] 31 (0, 0)) (by (with_reducible repeat (first | refine blk_drewN ?_ _ | refine blk_drew ?_ | refine blk_alloc ?_ _)); exact BK915.out) hb); have n3_ := Aside0.mk (blk_below (g := gb916) (o := .cells #[.int .i64 a1_0, .int .i64 a1_1, .int .i64 a1_2, .int .i64 a1_3] 32 (0, 0)) (by (with_reducible repeat (first | refine blk_drewN ?_ _ | refine blk_drew ?_ | refine blk_alloc ?_ _)); exact BK916.out) hb); have n4_ := Aside0.mk (blk_below (g := gb917) (o := .cells #[.slice none 0 0] 31 (0, 0)) (by (with_reducible repeat (first | refine blk_drewN ?_ _ | refine blk_drew ?_ | refine blk_alloc ?_ _)); exact BK917.out) hb); have n5_ := Aside0.mk (blk_below (g := gb918) (o := .cells #[.int .i64 0, .int .i64 0, .int .i64 0, .int .i64 0] 32 (0, 0)) (by (with_reducible repeat (first | refine blk_drewN ?_ _ | refine blk_drew ?_ | refine blk_alloc ?_ _)); exact BK918.out) hb); have n6_ := Aside0.mk (below_step (by repeat (first | (with_reducible first | exact HB.out | apply below_alloc | apply pw_below_drewN | apply below_drew1 | refine below_set ?_ GE915.out | refine below_set ?_ GE916.out | refine below_set ?_ GE917.out | refine below_set ?_ GE918.out) | exact HB.out)) hb); have n7_ := Aside0.mk (hbox); have n8_ := Aside0.mk ((by rw [hg]; exact (below_size (by repeat (first | (with_reducible first | exact HB.out | apply below_alloc | apply pw_below_drewN | apply below_drew1 | refine below_set ?_ GE915.out | refine below_set ?_ GE916.out | refine below_set ?_ GE917.out | refine below_set ?_ GE918.out) | exact HB.out))) : w.heap.size ≤ gb945)); have n9_ := Aside0.mk ((by rw [hg]; exact (below_size (by repeat (first | (with_reducible first | exact HB.out | apply below_alloc | apply pw_below_drewN | apply below_drew1 | refine below_set ?_ GE915.out | refine below_set ?_ GE916.out | refine below_set ?_ GE917.out | refine below_set ?_ GE918.out) | exact HB.out))) : w.heap.size ≤ gb945)); have n10_ := Aside0.mk ((by rw [hg]; exact Nat.ne_of_lt (blk_lt (g := gb915) (o := .cells #[.slice A0_0 l0_0.length c0_0] 31 (0, 0)) (by (with_reducible repeat (first | refine blk_drewN ?_ _ | refine blk_drew ?_ | refine blk_alloc ?_ _)); exact BK915.out)) : gb915 ≠ gb945)); have n11_ := Aside0.mk ((by rw [hg]; exact Nat.ne_of_gt (blk_lt (g := gb915) (o := .cells #[.slice A0_0 l0_0.length c0_0] 31 (0, 0)) (by (with_reducible repeat (first | refine blk_drewN ?_ _ | refine blk_drew ?_ | refine blk_alloc ?_ _)); exact BK915.out)) : gb945 ≠ gb915)); have n12_ := Aside0.mk ((by rw [hg]; exact Nat.ne_of_lt (blk_lt (g := gb916) (o := .cells #[.int .i64 a1_0, .int .i64 a1_1, .int .i64 a1_2, .int .i64 a1_3] 32 (0, 0)) (by (with_reducible repeat (first | refine blk_drewN ?_ _ | refine blk_drew ?_ | refine blk_alloc ?_ _)); exact BK916.out)) : gb916 ≠ gb945)); have n13_ := Aside0.mk ((by rw [hg]; exact Nat.ne_of_gt (blk_lt (g := gb916) (o := .cells #[.int .i64 a1_0, .int .i64 a1_1, .int .i64 a1_2, .int .i64 a1_3] 32 (0, 0)) (by (with_reducible repeat (first | refine blk_drewN ?_ _ | refine blk_drew ?_ | refine blk_alloc ?_ _)); exact BK916.out)) : gb945 ≠ gb916)); have n14_ := Aside0.mk ((by rw [hg]; exact Nat.ne_of_lt (blk_lt (g := gb917) (o := .cells #[.slice none 0 0] 31 (0, 0)) (by (with_reducible repeat (first | refine blk_drewN ?_ _ | refine blk_drew ?_ | refine blk_alloc ?_ _)); exact BK917.out)) : gb917 ≠ gb945)); have n15_ := Aside0.mk ((by rw [hg]; exact Nat.ne_of_gt (blk_lt (g := gb917) (o := .cells #[.slice none 0 0] 31 (0, 0)) (by (with_reducible repeat (first | refine blk_drewN ?_ _ | refine blk_drew ?_ | refine blk_alloc ?_ _)); exact BK917.out)) : gb945 ≠ gb917)); have n16_ := Aside0.mk ((by rw [hg]; exact Nat.ne_of_lt (blk_lt (g := gb918) (o := .cells #[.int .i64 0, .int .i64 0, .int .i64 0, .int .i64 0] 32 (0, 0)) (by (with_reducible repeat (first | refine blk_drewN ?_ _ | refine blk_drew ?_ | refine blk_alloc ?_ _)); exact BK918.out)) : gb918 ≠ gb945)); have n17_ := Aside0.mk ((by rw [hg]; exact Nat.ne_of_gt (blk_lt (g := gb918) (o := .cells #[.int .i64 0, .int .i64 0, .int .i64 0, .int .i64 0] 32 (0, 0)) (by (with_reducible repeat (first | refine blk_drewN ?_ _ | refine blk_drew ?_ | refine blk_alloc ?_ _)); exact BK918.out)) : gb945 ≠ gb918)); clear HO_10; clear HO940; clear BK915; clear BK916; clear BK917; clear BK918; clear HB; have HO_10 := n0_; have HO940 := n1_; have BK915 := n2_; have BK916 := n3_; have BK917 := n4_; have BK918 := n5_; have HB := n6_; have BK945 := n7_; have GW945 := n8_; have GE945 := n9_; have NB915_945 := n10_; have NB945_915 := n11_; have NB916_945 := n12_; have NB945_916 := n13_; have NB917_945 := n14_; have NB945_917 := n15_; have NB918_945 := n16_; have NB945_918 := n17_; clear n0_ n1_ n2_ n3_ n4_ n5_ n6_ n7_ n8_ n9_ n10_ n11_ n12_ n13_ n14_ n15_ n16_ n17_; clear hb hbox hg) | ((with_reducible refine gate_dst (N := 12) rfl ?_); (try (refine gate_guard (by rfl) ?_; dsimp only)); refine box_event ?hg (N := 12) ?hd (cs := #[.int .i64 0, .int .i64 0, .int .i64 0, .int .i64 0]) (t := 32) ?hr ?_; (case hd => rfl); (case hg => rfl); (case hr => first | (go_simp; done) | (go_simp; rfl)); intro gb946 hg w88 hbox hb; have n0_ := Aside0.mk (Kd.R_below (by (with_reducible repeat (first | apply Kd.R_alloc | apply Kd.R_drewN | apply Kd.R_drew)); exact HO_10.out) hb); have n1_ := Aside0.mk (Kd.S_below (by (with_reducible repeat (first | apply Kd.S_alloc | apply Kd.S_drewN | apply Kd.S_drew)); exact HO940.out) hb); have n2_ := Aside0.mk (blk_below (g := gb915) (o := .cells #[.slice A0_0 l0_0.length c0_0] 31 (0, 0)) (by (with_reducible repeat (first | refine blk_drewN ?_ _ | refine blk_drew ?_ | refine blk_alloc ?_ _)); exact BK915.out) hb); have n3_ := Aside0.mk (blk_below (g := gb916) (o := .cells #[.int .i64 a1_0, .int .i64 a1_1, .int .i64 a1_2, .int .i64 a1_3] 32 (0, 0)) (by (with_reducible repeat (first | refine blk_drewN ?_ _ | refine blk_drew ?_ | refine blk_alloc ?_ _)); exact BK916.out) hb); have n4_ := Aside0.mk (blk_below (g := gb917) (o := .cells #[.slice none 0 0] 31 (0, 0)) (by (with_reducible repeat (first | refine blk_drewN ?_ _ | refine blk_drew ?_ | refine blk_alloc ?_ _)); exact BK917.out) hb); have n5_ := Aside0.mk (blk_below (g := gb918) (o := .cells #[.int .i64 0, .int .i64 0, .int .i64 0, .int .i64 0] 32 (0, 0)) (by (with_reducible repeat (first | refine blk_drewN ?_ _ | refine blk_drew ?_ | refine blk_alloc ?_ _)); exact BK918.out) hb); have n6_ := Aside0.mk (blk_below (g := gb945) (o := .cells #[.slice none 0 0] 31 (0, 0)) (by (with_reducible repeat (first | refine blk_drewN ?_ _ | refine blk_drew ?_ | refine blk_alloc ?_ _)); exact BK945.out) hb); have n7_ := Aside0.mk (below_step (by repeat (first | (with_reducible first | exact HB.out | apply below_alloc | apply pw_below_drewN | apply below_drew1 | refine below_set ?_ GE915.out | refine below_set ?_ GE916.out | refine below_set ?_ GE917.out | refine below_set ?_ GE918.out | refine below_set ?_ GE945.out) | exact HB.out)) hb); have n8_ := Aside0.mk (hbox); have n9_ := Aside0.mk ((by rw [hg]; exact (below_size (by repeat (first | (with_reducible first | exact HB.out | apply below_alloc | apply pw_below_drewN | apply below_drew1 | refine below_set ?_ GE915.out | refine below_set ?_ GE916.out | refine below_set ?_ GE917.out | refine below_set ?_ GE918.out | refine below_set ?_ GE945.out) | exact HB.out))) : w.heap.size ≤ gb946)); have n10_ := Aside0.mk ((by rw [hg]; exact (below_size (by repeat (first | (with_reducible first | exact HB.out | apply below_alloc | apply pw_below_drewN | apply below_drew1 | refine below_set ?_ GE915.out | refine below_set ?_ GE916.out | refine below_set ?_ GE917.out | refine below_set ?_ GE918.out | refine below_set ?_ GE945.out) | exact HB.out))) : w.heap.size ≤ gb946)); have n11_ := Aside0.mk ((by rw [hg]; exact Nat.ne_of_lt (blk_lt (g := gb915) (o := .cells #[.slice A0_0 l0_0.length c0_0] 31 (0, 0)) (by (with_reducible repeat (first | refine blk_drewN ?_ _ | refine blk_drew ?_ | refine blk_alloc ?_ _)); exact BK915.out)) : gb915 ≠ gb946)); have n12_ := Aside0.mk ((by rw [hg]; exact Nat.ne_of_gt (blk_lt (g := gb915) (o := .cells #[.slice A0_0 l0_0.length c0_0] 31 (0, 0)) (by (with_reducible repeat (first | refine blk_drewN ?_ _ | refine blk_drew ?_ | refine blk_alloc ?_ _)); exact BK915.out)) : gb946 ≠ gb915)); have n13_ := Aside0.mk ((by rw [hg]; exact Nat.ne_of_lt (blk_lt (g := gb916) (o := .cells #[.int .i64 a1_0, .int .i64 a1_1, .int .i64 a1_2, .int .i64 a1_3] 32 (0, 0)) (by (with_reducible repeat (first | refine blk_drewN ?_ _ | refine blk_drew ?_ | refine blk_alloc ?_ _)); exact BK916.out)) : gb916 ≠ gb946)); have n14_ := Aside0.mk ((by rw [hg]; exact Nat.ne_of_gt (blk_lt (g := gb916) (o := .cells #[.int .i64 a1_0, .int .i64 a1_1, .int .i64 a1_2, .int .i64 a1_3] 32 (0, 0)) (by (with_reducible repeat (first | refine blk_drewN ?_ _ | refine blk_drew ?_ | refine blk_alloc ?_ _)); exact BK916.out)) : gb946 ≠ gb916)); have n15_ := Aside0.mk ((by rw [hg]; exact Nat.ne_of_lt (blk_lt (g := gb917) (o := .cells #[.slice none 0 0] 31 (0, 0)) (by (with_reducible repeat (first | refine blk_drewN ?_ _ | refine blk_drew ?_ | refine blk_alloc ?_ _)); exact BK917.out)) : gb917 ≠ gb946)); have n16_ := Aside0.mk ((by rw [hg]; exact Nat.ne_of_gt (blk_lt (g := gb917) (o := .cells #[.slice none 0 0] 31 (0, 0)) (by (with_reducible repeat (first | refine blk_drewN ?_ _ | refine blk_drew ?_ | refine blk_alloc ?_ _)); exact BK917.out)) : gb946 ≠ gb917)); have n17_ := Aside0.mk ((by rw [hg]; exact Nat.ne_of_lt (blk_lt (g := gb918) (o := .cells #[.int .i64 0, .int .i64 0, .int .i64 0, .int .i64 0] 32 (0, 0)) (by (with_reducible repeat (first | refine blk_drewN ?_ _ | refine blk_drew ?_ | refine blk_alloc ?_ _)); exact BK918.out)) : gb918 ≠ gb946)); have n18_ := Aside0.mk ((by rw [hg]; exact Nat.ne_of_gt (blk_lt (g := gb918) (o := .cells #[.int .i64 0, .int .i64 0, .int .i64 0, .int .i64 0] 32 (0, 0)) (by (with_reducible repeat (first | refine blk_drewN ?_ _ | refine blk_drew ?_ | refine blk_alloc ?_ _)); exact BK918.out)) : gb946 ≠ gb918)); have n19_ := Aside0.mk ((by rw [hg]; exact Nat.ne_of_lt (blk_lt (g := gb945) (o := .cells #[.slice none 0 0] 31 (0, 0)) (by (with_reducible repeat (first | refine blk_drewN ?_ _ | refine blk_drew ?_ | refine blk_alloc ?_ _)); exact BK945.out)) : gb945 ≠ gb946)); have n20_ := Aside0.mk ((by rw [hg]; exact Nat.ne_of_gt (blk_lt (g := gb945) (o := .cells #[.slice none 0 0] 31 (0, 0)) (by (with_reducible repeat (first | refine blk_drewN ?_ _ | refine blk_drew ?_ | refine blk_alloc ?_ _)); exact BK945.out)) : gb946 ≠ gb945)); clear HO_10; clear HO940; clear BK915; clear BK916; clear BK917; clear BK918; clear BK945; clear HB; have HO_10 := n0_; have HO940 := n1_; have BK915 := n2_; have BK916 := n3_; have BK917 := n4_; have BK918 := n5_; have BK945 := n6_; have HB := n7_; have BK946 := n8_; have GW946 := n9_; have GE946 := n10_; have NB915_946 := n11_; have NB946_915 := n12_; have NB916_946 := n13_; have NB946_916 := n14_; have NB917_946 := n15_; have NB946_917 := n16_; have NB918_946 := n17_; have NB946_918 := n18_; have NB945_946 := n19_; have NB946_945 := n20_; clear n0_ n1_ n2_ n3_ n4_ n5_ n6_ n7_ n8_ n9_ n10_ n11_ n12_ n13_ n14_ n15_ n16_ n17_ n18_ n19_ n20_; clear hb hbox hg; obtain ⟨Ao89, co89, eo89⟩ := Kd.S_slice HO940.out; subst eo89; have hnb90 := NB945_915.out; have hnc90 := NB915_945.out; have hnb91 := NB945_916.out; have hnc91 := NB916_945.out; have hnb92 := NB945_917.out; have hnc92 := NB917_945.out; have hnb93 := NB945_918.out; have hnc93 := NB918_945.out; have hnb94 := NB945_946.out; have hnc94 := NB946_945.out; have hcz95_0 : w88.cell? ⟨gb945, 0, none⟩ = some (.slice none 0 0) := (blk_cell BK945.out 0).trans rfl; have hfz95_0 := blk_frozen BK945.out 0; have hnb96 := NB946_915.out; have hnc96 := NB915_946.out; have hnb97 := NB946_916.out; have hnc97 := NB916_946.out; have hnb98 := NB946_917.out; have hnc98 := NB917_946.out; have hnb99 := NB946_918.out; have hnc99 := NB918_946.out; have hcz100_0 : w88.cell? ⟨gb946, 0, none⟩ = some (.int .i64 0) := (blk_cell BK946.out 0).trans rfl; have hcz100_1 : w88.cell? ⟨gb946, 1, none⟩ = some (.int .i64 0) := (blk_cell BK946.out 1).trans rfl; have hcz100_2 : w88.cell? ⟨gb946, 2, none⟩ = some (.int .i64 0) := (blk_cell BK946.out 2).trans rfl; have hcz100_3 : w88.cell? ⟨gb946, 3, none⟩ = some (.int .i64 0) := (blk_cell BK946.out 3).trans rfl; have hfz100_0 := blk_frozen BK946.out 0; have hfz100_1 := blk_frozen BK946.out 1; have hfz100_2 := blk_frozen BK946.out 2; have hfz100_3 := blk_frozen BK946.out 3))
                  have n0_ : Aside0 (Kd.R (Kd.int .u8) 5 (((((w88.setCell ⟨gb945, 0, none⟩ (.slice Ao89 t938.length co89)).setCell ⟨gb946, 0, none⟩ (.int .i64 t941)).setCell ⟨gb946, 1, none⟩ (.int .i64 t942)).setCell ⟨gb946, 2, none⟩ (.int .i64 t943)).setCell ⟨gb946, 3, none⟩ (.int .i64 t944)) w.heap.size (fun _ => True) (.slice Ao78 x10_2.length co78) x10_2) := ⟨by (with_reducible repeat (first | apply Kd.R_alloc | apply Kd.R_drewN | apply Kd.R_drew)); exact Kd.R_mono (Kd.R_far (p := ⟨gb946, 3, none⟩) (Kd.R_far (p := ⟨gb946, 2, none⟩) (Kd.R_far (p := ⟨gb946, 1, none⟩) (Kd.R_far (p := ⟨gb946, 0, none⟩) (Kd.R_far (p := ⟨gb945, 0, none⟩) (Kd.R_types (Kd.R_types HO_10.out BK945.out (by decide)) BK946.out (by decide)) (fun _ hk => hk.1.2) (.slice Ao89 t938.length co89)) (fun _ hk => hk.2) (.int .i64 t941)) (fun _ hk => hk.2) (.int .i64 t942)) (fun _ hk => hk.2) (.int .i64 t943)) (fun _ hk => hk.2) (.int .i64 t944)) (fun _ hk => trivial)⟩
                  have n1_ : Aside0 (Kd.S (Kd.slice 5 (Kd.int .u8)) 29 (((((w88.setCell ⟨gb945, 0, none⟩ (.slice Ao89 t938.length co89)).setCell ⟨gb946, 0, none⟩ (.int .i64 t941)).setCell ⟨gb946, 1, none⟩ (.int .i64 t942)).setCell ⟨gb946, 2, none⟩ (.int .i64 t943)).setCell ⟨gb946, 3, none⟩ (.int .i64 t944)) w.heap.size (fun k_ => some k_ ≠ (.slice Ao78 x10_2.length co78 : Value).ownBlock) (.slice Ao89 t938.length co89) t938) := ⟨by (with_reducible repeat (first | apply Kd.S_alloc | apply Kd.S_drewN | apply Kd.S_drew)); exact Kd.S_mono (Kd.S_far (p := ⟨gb946, 3, none⟩) (Kd.S_far (p := ⟨gb946, 2, none⟩) (Kd.S_far (p := ⟨gb946, 1, none⟩) (Kd.S_far (p := ⟨gb946, 0, none⟩) (Kd.S_far (p := ⟨gb945, 0, none⟩) (Kd.S_types (Kd.S_types HO940.out BK945.out (by decide)) BK946.out (by decide)) (fun _ hk => hk.1.2) (.slice Ao89 t938.length co89)) (fun _ hk => hk.2) (.int .i64 t941)) (fun _ hk => hk.2) (.int .i64 t942)) (fun _ hk => hk.2) (.int .i64 t943)) (fun _ hk => hk.2) (.int .i64 t944)) (fun _ hk => hk.1.1.2)⟩
                  have n2_ : Aside0 ((((((w88.setCell ⟨gb945, 0, none⟩ (.slice Ao89 t938.length co89)).setCell ⟨gb946, 0, none⟩ (.int .i64 t941)).setCell ⟨gb946, 1, none⟩ (.int .i64 t942)).setCell ⟨gb946, 2, none⟩ (.int .i64 t943)).setCell ⟨gb946, 3, none⟩ (.int .i64 t944)).heap[gb915]? = some (.cells #[.slice A0_0 l0_0.length c0_0] 31 (0, 0))) := ⟨by (with_reducible repeat (first | refine blk_drewN ?_ _ | refine blk_drew ?_ | refine blk_alloc ?_ _)); refine blk_far ?_ NB915_946.out _; (with_reducible repeat (first | refine blk_drewN ?_ _ | refine blk_drew ?_ | refine blk_alloc ?_ _)); refine blk_far ?_ NB915_946.out _; (with_reducible repeat (first | refine blk_drewN ?_ _ | refine blk_drew ?_ | refine blk_alloc ?_ _)); refine blk_far ?_ NB915_946.out _; (with_reducible repeat (first | refine blk_drewN ?_ _ | refine blk_drew ?_ | refine blk_alloc ?_ _)); refine blk_far ?_ NB915_946.out _; (with_reducible repeat (first | refine blk_drewN ?_ _ | refine blk_drew ?_ | refine blk_alloc ?_ _)); refine blk_far ?_ NB915_945.out _; (with_reducible repeat (first | refine blk_drewN ?_ _ | refine blk_drew ?_ | refine blk_alloc ?_ _)); exact BK915.out⟩
                  have n3_ : Aside0 ((((((w88.setCell ⟨gb945, 0, none⟩ (.slice Ao89 t938.length co89)).setCell ⟨gb946, 0, none⟩ (.int .i64 t941)).setCell ⟨gb946, 1, none⟩ (.int .i64 t942)).setCell ⟨gb946, 2, none⟩ (.int .i64 t943)).setCell ⟨gb946, 3, none⟩ (.int .i64 t944)).heap[gb916]? = some (.cells #[.int .i64 a1_0, .int .i64 a1_1, .int .i64 a1_2, .int .i64 a1_3] 32 (0, 0))) := ⟨by (with_reducible repeat (first | refine blk_drewN ?_ _ | refine blk_drew ?_ | refine blk_alloc ?_ _)); refine blk_far ?_ NB916_946.out _; (with_reducible repeat (first | refine blk_drewN ?_ _ | refine blk_drew ?_ | refine blk_alloc ?_ _)); refine blk_far ?_ NB916_946.out _; (with_reducible repeat (first | refine blk_drewN ?_ _ | refine blk_drew ?_ | refine blk_alloc ?_ _)); refine blk_far ?_ NB916_946.out _; (with_reducible repeat (first | refine blk_drewN ?_ _ | refine blk_drew ?_ | refine blk_alloc ?_ _)); refine blk_far ?_ NB916_946.out _; (with_reducible repeat (first | refine blk_drewN ?_ _ | refine blk_drew ?_ | refine blk_alloc ?_ _)); refine blk_far ?_ NB916_945.out _; (with_reducible repeat (first | refine blk_drewN ?_ _ | refine blk_drew ?_ | refine blk_alloc ?_ _)); exact BK916.out⟩
                  have n4_ : Aside0 ((((((w88.setCell ⟨gb945, 0, none⟩ (.slice Ao89 t938.length co89)).setCell ⟨gb946, 0, none⟩ (.int .i64 t941)).setCell ⟨gb946, 1, none⟩ (.int .i64 t942)).setCell ⟨gb946, 2, none⟩ (.int .i64 t943)).setCell ⟨gb946, 3, none⟩ (.int .i64 t944)).heap[gb917]? = some (.cells #[.slice none 0 0] 31 (0, 0))) := ⟨by (with_reducible repeat (first | refine blk_drewN ?_ _ | refine blk_drew ?_ | refine blk_alloc ?_ _)); refine blk_far ?_ NB917_946.out _; (with_reducible repeat (first | refine blk_drewN ?_ _ | refine blk_drew ?_ | refine blk_alloc ?_ _)); refine blk_far ?_ NB917_946.out _; (with_reducible repeat (first | refine blk_drewN ?_ _ | refine blk_drew ?_ | refine blk_alloc ?_ _)); refine blk_far ?_ NB917_946.out _; (with_reducible repeat (first | refine blk_drewN ?_ _ | refine blk_drew ?_ | refine blk_alloc ?_ _)); refine blk_far ?_ NB917_946.out _; (with_reducible repeat (first | refine blk_drewN ?_ _ | refine blk_drew ?_ | refine blk_alloc ?_ _)); refine blk_far ?_ NB917_945.out _; (with_reducible repeat (first | refine blk_drewN ?_ _ | refine blk_drew ?_ | refine blk_alloc ?_ _)); exact BK917.out⟩
                  have n5_ : Aside0 ((((((w88.setCell ⟨gb945, 0, none⟩ (.slice Ao89 t938.length co89)).setCell ⟨gb946, 0, none⟩ (.int .i64 t941)).setCell ⟨gb946, 1, none⟩ (.int .i64 t942)).setCell ⟨gb946, 2, none⟩ (.int .i64 t943)).setCell ⟨gb946, 3, none⟩ (.int .i64 t944)).heap[gb918]? = some (.cells #[.int .i64 0, .int .i64 0, .int .i64 0, .int .i64 0] 32 (0, 0))) := ⟨by (with_reducible repeat (first | refine blk_drewN ?_ _ | refine blk_drew ?_ | refine blk_alloc ?_ _)); refine blk_far ?_ NB918_946.out _; (with_reducible repeat (first | refine blk_drewN ?_ _ | refine blk_drew ?_ | refine blk_alloc ?_ _)); refine blk_far ?_ NB918_946.out _; (with_reducible repeat (first | refine blk_drewN ?_ _ | refine blk_drew ?_ | refine blk_alloc ?_ _)); refine blk_far ?_ NB918_946.out _; (with_reducible repeat (first | refine blk_drewN ?_ _ | refine blk_drew ?_ | refine blk_alloc ?_ _)); refine blk_far ?_ NB918_946.out _; (with_reducible repeat (first | refine blk_drewN ?_ _ | refine blk_drew ?_ | refine blk_alloc ?_ _)); refine blk_far ?_ NB918_945.out _; (with_reducible repeat (first | refine blk_drewN ?_ _ | refine blk_drew ?_ | refine blk_alloc ?_ _)); exact BK918.out⟩
                  have n6_ : Aside0 ((((((w88.setCell ⟨gb945, 0, none⟩ (.slice Ao89 t938.length co89)).setCell ⟨gb946, 0, none⟩ (.int .i64 t941)).setCell ⟨gb946, 1, none⟩ (.int .i64 t942)).setCell ⟨gb946, 2, none⟩ (.int .i64 t943)).setCell ⟨gb946, 3, none⟩ (.int .i64 t944)).heap[gb945]? = some (.cells #[.slice Ao89 t938.length co89] 31 (0, 0))) := ⟨by (with_reducible repeat (first | refine blk_drewN ?_ _ | refine blk_drew ?_ | refine blk_alloc ?_ _)); refine blk_far ?_ NB945_946.out _; (with_reducible repeat (first | refine blk_drewN ?_ _ | refine blk_drew ?_ | refine blk_alloc ?_ _)); refine blk_far ?_ NB945_946.out _; (with_reducible repeat (first | refine blk_drewN ?_ _ | refine blk_drew ?_ | refine blk_alloc ?_ _)); refine blk_far ?_ NB945_946.out _; (with_reducible repeat (first | refine blk_drewN ?_ _ | refine blk_drew ?_ | refine blk_alloc ?_ _)); refine blk_far ?_ NB945_946.out _; (with_reducible repeat (first | refine blk_drewN ?_ _ | refine blk_drew ?_ | refine blk_alloc ?_ _)); refine blk_put (cs := #[.slice none 0 0]) ?_ 0 _ rfl; (with_reducible repeat (first | refine blk_drewN ?_ _ | refine blk_drew ?_ | refine blk_alloc ?_ _)); exact BK945.out⟩
                  have n7_ : Aside0 ((((((w88.setCell ⟨gb945, 0, none⟩ (.slice Ao89 t938.length co89)).setCell ⟨gb946, 0, none⟩ (.int .i64 t941)).setCell ⟨gb946, 1, none⟩ (.int .i64 t942)).setCell ⟨gb946, 2, none⟩ (.int .i64 t943)).setCell ⟨gb946, 3, none⟩ (.int .i64 t944)).heap[gb946]? = some (.cells #[.int .i64 t941, .int .i64 t942, .int .i64 t943, .int .i64 t944] 32 (0, 0))) := ⟨by (with_reducible repeat (first | refine blk_drewN ?_ _ | refine blk_drew ?_ | refine blk_alloc ?_ _)); refine blk_put (cs := #[.int .i64 t941, .int .i64 t942, .int .i64 t943, .int .i64 0]) ?_ 3 _ rfl; (with_reducible repeat (first | refine blk_drewN ?_ _ | refine blk_drew ?_ | refine blk_alloc ?_ _)); refine blk_put (cs := #[.int .i64 t941, .int .i64 t942, .int .i64 0, .int .i64 0]) ?_ 2 _ rfl; (with_reducible repeat (first | refine blk_drewN ?_ _ | refine blk_drew ?_ | refine blk_alloc ?_ _)); refine blk_put (cs := #[.int .i64 t941, .int .i64 0, .int .i64 0, .int .i64 0]) ?_ 1 _ rfl; (with_reducible repeat (first | refine blk_drewN ?_ _ | refine blk_drew ?_ | refine blk_alloc ?_ _)); refine blk_put (cs := #[.int .i64 0, .int .i64 0, .int .i64 0, .int .i64 0]) ?_ 0 _ rfl; (with_reducible repeat (first | refine blk_drewN ?_ _ | refine blk_drew ?_ | refine blk_alloc ?_ _)); refine blk_far ?_ NB946_945.out _; (with_reducible repeat (first | refine blk_drewN ?_ _ | refine blk_drew ?_ | refine blk_alloc ?_ _)); exact BK946.out⟩
                  have n8_ : Aside0 (Below w.heap.size w (((((w88.setCell ⟨gb945, 0, none⟩ (.slice Ao89 t938.length co89)).setCell ⟨gb946, 0, none⟩ (.int .i64 t941)).setCell ⟨gb946, 1, none⟩ (.int .i64 t942)).setCell ⟨gb946, 2, none⟩ (.int .i64 t943)).setCell ⟨gb946, 3, none⟩ (.int .i64 t944))) := ⟨by repeat (first | (with_reducible first | exact HB.out | apply below_alloc | apply pw_below_drewN | apply below_drew1 | refine below_set ?_ GE915.out | refine below_set ?_ GE916.out | refine below_set ?_ GE917.out | refine below_set ?_ GE918.out | refine below_set ?_ GE945.out | refine below_set ?_ GE946.out) | exact HB.out)⟩
                  (try clear HO_10)
                  (try clear HO940)
                  (try clear BK915)
                  (try clear BK916)
                  (try clear BK917)
                  (try clear BK918)
                  (try clear BK945)
                  (try clear BK946)
                  (try clear HB)
                  generalize (((((w88.setCell ⟨gb945, 0, none⟩ (.slice Ao89 t938.length co89)).setCell ⟨gb946, 0, none⟩ (.int .i64 t941)).setCell ⟨gb946, 1, none⟩ (.int .i64 t942)).setCell ⟨gb946, 2, none⟩ (.int .i64 t943)).setCell ⟨gb946, 3, none⟩ (.int .i64 t944)) = w101 at n0_ n1_ n2_ n3_ n4_ n5_ n6_ n7_ n8_ ⊢
                  have HO_10 := n0_
                  have HO940 := n1_
                  have BK915 := n2_
                  have BK916 := n3_
                  have BK917 := n4_
                  have BK918 := n5_
                  have BK945 := n6_
                  have BK946 := n7_
                  have HB := n8_
                  clear n0_ n1_ n2_ n3_ n4_ n5_ n6_ n7_ n8_
                  have n0_ := Aside0.mk (Kd.R_drew HO_10.out)
                  have n1_ := Aside0.mk (Kd.S_drew HO940.out)
                  have n2_ := Aside0.mk (blk_drew BK915.out)
                  have n3_ := Aside0.mk (blk_drew BK916.out)
                  have n4_ := Aside0.mk (blk_drew BK917.out)
                  have n5_ := Aside0.mk (blk_drew BK918.out)
                  have n6_ := Aside0.mk (blk_drew BK945.out)
                  have n7_ := Aside0.mk (blk_drew BK946.out)
                  have n8_ := Aside0.mk (below_drew1 HB.out)
                  clear HO_10
                  clear HO940
                  clear BK915
                  clear BK916
                  clear BK917
                  clear BK918
                  clear BK945
                  clear BK946
                  clear HB
                  have HO_10 := n0_
                  have HO940 := n1_
                  have BK915 := n2_
                  have BK916 := n3_
                  have BK917 := n4_
                  have BK918 := n5_
                  have BK945 := n6_
                  have BK946 := n7_
                  have HB := n8_
                  clear n0_ n1_ n2_ n3_ n4_ n5_ n6_ n7_ n8_
                  refine start_ (n := 5) (S := fun w' => w'.cell? ⟨gb945, 0, none⟩ = some (.slice Ao89 t938.length co89) ∧ w'.cell? ⟨gb946, 0, none⟩ = some (.int .i64 t941) ∧ w'.cell? ⟨gb946, 1, none⟩ = some (.int .i64 t942) ∧ w'.cell? ⟨gb946, 2, none⟩ = some (.int .i64 t943) ∧ w'.cell? ⟨gb946, 3, none⟩ = some (.int .i64 t944)) (ds := []) #[false, false, false, false, false] (by kernel_rfl) rfl rfl ⟨(blk_cell BK945.out 0).trans rfl, (blk_cell BK946.out 0).trans rfl, (blk_cell BK946.out 1).trans rfl, (blk_cell BK946.out 2).trans rfl, (blk_cell BK946.out 3).trans rfl⟩ (fun hHeld => ?_)
                  generalize w101.drew = w102 at HO_10 HO940 BK915 BK916 BK917 BK918 BK945 BK946 HB hHeld ⊢
                  refine take_ (i := 0) (N := some 76) (v := ?_) (a' := ?_) #[true, false, false, false, false] rfl rfl (by kernel_rfl) (fun _ _ _ h => h) (Or.inl ⟨by rfl, ?_⟩) hHeld ?_ ?_
                  rotate_left
                  · rintro w' ⟨s0, s1, s2, s3, s4⟩
                    go_simp
                    with_reducible rfl
                  rotate_left
                  · simp only [Act.put, List.setIfInBounds_toArray, List.set_cons_zero, List.set_cons_succ, i64_w, i32_w]
                    rfl
                  refine take_ (i := 1) (N := some 77) (v := ?_) (a' := ?_) #[true, true, false, false, false] rfl rfl (by kernel_rfl) (fun _ _ _ h => h) (Or.inl ⟨by rfl, ?_⟩) hHeld ?_ ?_
                  rotate_left
                  · rintro w' ⟨s0, s1, s2, s3, s4⟩
                    go_simp
                    with_reducible rfl
                  rotate_left
                  · simp only [Act.put, List.setIfInBounds_toArray, List.set_cons_zero, List.set_cons_succ, i64_w, i32_w]
                    rfl
                  refine one_ (i := 2) (N := none) #[true, true, true, false, false] rfl rfl (by kernel_rfl) (by decide) (fun K hK => ?_)
                  have hs103 : w102.cell? ⟨gb917, 0, none⟩ = some (.slice none 0 0) := (blk_cell BK917.out 0).trans rfl
                  have hfs103 := blk_frozen BK917.out 0
                  have hns103_0 := NB915_917.out
                  have hns103_1 := NB916_917.out
                  have hns103_3 := NB918_917.out
                  have hns103_4 := NB945_917.out
                  have hns103_5 := NB946_917.out
                  have hms103_0 := NB917_915.out
                  have hms103_1 := NB917_916.out
                  have hms103_3 := NB917_918.out
                  have hms103_4 := NB917_945.out
                  have hms103_5 := NB917_946.out
                  refine skip_ (w1 := ?_) (by rfl) rfl ?_ ?_
                  rotate_left
                  · go_simp
                    rfl
                  refine hK.out _ _ ⟨((cell_far (p := ⟨gb917, _, none⟩) NB945_917.out _).trans (hHeld.1)), ((cell_far (p := ⟨gb917, _, none⟩) NB946_917.out _).trans (hHeld.2.1)), ((cell_far (p := ⟨gb917, _, none⟩) NB946_917.out _).trans (hHeld.2.2.1)), ((cell_far (p := ⟨gb917, _, none⟩) NB946_917.out _).trans (hHeld.2.2.2.1)), ((cell_far (p := ⟨gb917, _, none⟩) NB946_917.out _).trans (hHeld.2.2.2.2))⟩ (fun hHeld => ?_)
                  clear hK K
                  refine one_ (i := 3) (N := none) #[true, true, true, true, false] rfl rfl (by kernel_rfl) (by decide) (fun K hK => ?_)
                  have hs104 : w102.cell? ⟨gb918, 0, none⟩ = some (.int .i64 0) := (blk_cell BK918.out 0).trans rfl
                  have hfs104 := blk_frozen BK918.out 0
                  have hns104_0 := NB915_918.out
                  have hns104_1 := NB916_918.out
                  have hns104_2 := NB917_918.out
                  have hns104_4 := NB945_918.out
                  have hns104_5 := NB946_918.out
                  have hms104_0 := NB918_915.out
                  have hms104_1 := NB918_916.out
                  have hms104_2 := NB918_917.out
                  have hms104_4 := NB918_945.out
                  have hms104_5 := NB918_946.out
                  have hs105 : w102.cell? ⟨gb918, 1, none⟩ = some (.int .i64 0) := (blk_cell BK918.out 1).trans rfl
                  have hfs105 := blk_frozen BK918.out 1
                  have hns105_0 := NB915_918.out
                  have hns105_1 := NB916_918.out
                  have hns105_2 := NB917_918.out
                  have hns105_4 := NB945_918.out
                  have hns105_5 := NB946_918.out
                  have hms105_0 := NB918_915.out
                  have hms105_1 := NB918_916.out
                  have hms105_2 := NB918_917.out
                  have hms105_4 := NB918_945.out
                  have hms105_5 := NB918_946.out
                  have hs106 : w102.cell? ⟨gb918, 2, none⟩ = some (.int .i64 0) := (blk_cell BK918.out 2).trans rfl
                  have hfs106 := blk_frozen BK918.out 2
                  have hns106_0 := NB915_918.out
                  have hns106_1 := NB916_918.out
                  have hns106_2 := NB917_918.out
                  have hns106_4 := NB945_918.out
                  have hns106_5 := NB946_918.out
                  have hms106_0 := NB918_915.out
                  have hms106_1 := NB918_916.out
                  have hms106_2 := NB918_917.out
                  have hms106_4 := NB918_945.out
                  have hms106_5 := NB918_946.out
                  have hs107 : w102.cell? ⟨gb918, 3, none⟩ = some (.int .i64 0) := (blk_cell BK918.out 3).trans rfl
                  have hfs107 := blk_frozen BK918.out 3
                  have hns107_0 := NB915_918.out
                  have hns107_1 := NB916_918.out
                  have hns107_2 := NB917_918.out
                  have hns107_4 := NB945_918.out
                  have hns107_5 := NB946_918.out
                  have hms107_0 := NB918_915.out
                  have hms107_1 := NB918_916.out
                  have hms107_2 := NB918_917.out
                  have hms107_4 := NB918_945.out
                  have hms107_5 := NB918_946.out
                  refine skip_ (w1 := ?_) (by rfl) rfl ?_ ?_
                  rotate_left
                  · go_simp
                    rfl
                  refine hK.out _ _ ⟨((cell_far (p := ⟨gb918, _, none⟩) NB945_918.out _).trans (((cell_far (p := ⟨gb918, _, none⟩) NB945_918.out _).trans (((cell_far (p := ⟨gb918, _, none⟩) NB945_918.out _).trans (((cell_far (p := ⟨gb918, _, none⟩) NB945_918.out _).trans (hHeld.1)))))))), ((cell_far (p := ⟨gb918, _, none⟩) NB946_918.out _).trans (((cell_far (p := ⟨gb918, _, none⟩) NB946_918.out _).trans (((cell_far (p := ⟨gb918, _, none⟩) NB946_918.out _).trans (((cell_far (p := ⟨gb918, _, none⟩) NB946_918.out _).trans (hHeld.2.1)))))))), ((cell_far (p := ⟨gb918, _, none⟩) NB946_918.out _).trans (((cell_far (p := ⟨gb918, _, none⟩) NB946_918.out _).trans (((cell_far (p := ⟨gb918, _, none⟩) NB946_918.out _).trans (((cell_far (p := ⟨gb918, _, none⟩) NB946_918.out _).trans (hHeld.2.2.1)))))))), ((cell_far (p := ⟨gb918, _, none⟩) NB946_918.out _).trans (((cell_far (p := ⟨gb918, _, none⟩) NB946_918.out _).trans (((cell_far (p := ⟨gb918, _, none⟩) NB946_918.out _).trans (((cell_far (p := ⟨gb918, _, none⟩) NB946_918.out _).trans (hHeld.2.2.2.1)))))))), ((cell_far (p := ⟨gb918, _, none⟩) NB946_918.out _).trans (((cell_far (p := ⟨gb918, _, none⟩) NB946_918.out _).trans (((cell_far (p := ⟨gb918, _, none⟩) NB946_918.out _).trans (((cell_far (p := ⟨gb918, _, none⟩) NB946_918.out _).trans (hHeld.2.2.2.2))))))))⟩ (fun hHeld => ?_)
                  clear hK K
                  refine pure_ (i := 4) (N := some 8) (v := ?_) (a' := ?_) #[true, true, true, true, true] rfl rfl (by kernel_rfl) (fun _ _ _ h => h) (Or.inl ⟨by rfl, ?_⟩) ?_ ?_
                  rotate_left
                  · intro w'
                    go_simp
                    with_reducible rfl
                  rotate_left
                  · simp only [Act.put, List.setIfInBounds_toArray, List.set_cons_zero, List.set_cons_succ, i64_w, i32_w]
                    rfl
                  refine done_ (by kernel_rfl) ?_
                  try go_wp2
                  refine bodyPost_ret (results_list (rs := [.cell 6 31, .cell 7 32, .tmp 8]) rfl (by simp) (.cell gb917 31 #[.slice Ao89 t938.length co89] (0, 0) _ rfl (by (with_reducible repeat (first | refine blk_drewN ?_ _ | refine blk_drew ?_ | refine blk_alloc ?_ _)); refine blk_far ?_ NB917_918.out _; (with_reducible repeat (first | refine blk_drewN ?_ _ | refine blk_drew ?_ | refine blk_alloc ?_ _)); refine blk_far ?_ NB917_918.out _; (with_reducible repeat (first | refine blk_drewN ?_ _ | refine blk_drew ?_ | refine blk_alloc ?_ _)); refine blk_far ?_ NB917_918.out _; (with_reducible repeat (first | refine blk_drewN ?_ _ | refine blk_drew ?_ | refine blk_alloc ?_ _)); refine blk_far ?_ NB917_918.out _; (with_reducible repeat (first | refine blk_drewN ?_ _ | refine blk_drew ?_ | refine blk_alloc ?_ _)); refine blk_put (cs := #[.slice none 0 0]) ?_ 0 _ rfl; (with_reducible repeat (first | refine blk_drewN ?_ _ | refine blk_drew ?_ | refine blk_alloc ?_ _)); exact BK917.out) Try.underlying31 rfl (by kernel_rfl) (.cell gb918 32 #[.int .i64 t941, .int .i64 t942, .int .i64 t943, .int .i64 t944] (0, 0) _ rfl (by (with_reducible repeat (first | refine blk_drewN ?_ _ | refine blk_drew ?_ | refine blk_alloc ?_ _)); refine blk_put (cs := #[.int .i64 t941, .int .i64 t942, .int .i64 t943, .int .i64 0]) ?_ 3 _ rfl; (with_reducible repeat (first | refine blk_drewN ?_ _ | refine blk_drew ?_ | refine blk_alloc ?_ _)); refine blk_put (cs := #[.int .i64 t941, .int .i64 t942, .int .i64 0, .int .i64 0]) ?_ 2 _ rfl; (with_reducible repeat (first | refine blk_drewN ?_ _ | refine blk_drew ?_ | refine blk_alloc ?_ _)); refine blk_put (cs := #[.int .i64 t941, .int .i64 0, .int .i64 0, .int .i64 0]) ?_ 1 _ rfl; (with_reducible repeat (first | refine blk_drewN ?_ _ | refine blk_drew ?_ | refine blk_alloc ?_ _)); refine blk_put (cs := #[.int .i64 0, .int .i64 0, .int .i64 0, .int .i64 0]) ?_ 0 _ rfl; (with_reducible repeat (first | refine blk_drewN ?_ _ | refine blk_drew ?_ | refine blk_alloc ?_ _)); refine blk_far ?_ NB918_917.out _; (with_reducible repeat (first | refine blk_drewN ?_ _ | refine blk_drew ?_ | refine blk_alloc ?_ _)); exact BK918.out) Try.underlying32 rfl (by kernel_rfl) (.tmp .nil)))) rfl ?_
                  exact ⟨_, by first | rfl | (simp [errW_none, errW_some] <;> rfl) | (simp [*, errW_none, errW_some] <;> rfl), by (with_reducible repeat (first | apply Kd.S_alloc | apply Kd.S_drewN | apply Kd.S_drew)); exact Kd.S_mono (Kd.S_far (p := ⟨gb918, 3, none⟩) (Kd.S_far (p := ⟨gb918, 2, none⟩) (Kd.S_far (p := ⟨gb918, 1, none⟩) (Kd.S_far (p := ⟨gb918, 0, none⟩) (Kd.S_far (p := ⟨gb917, 0, none⟩) (Kd.S_types (Kd.S_types HO940.out BK917.out (by decide)) BK918.out (by decide)) (fun _ hk => hk.1.2) (.slice Ao89 t938.length co89)) (fun _ hk => hk.2) (.int .i64 t941)) (fun _ hk => hk.2) (.int .i64 t942)) (fun _ hk => hk.2) (.int .i64 t943)) (fun _ hk => hk.2) (.int .i64 t944)) (fun _ hk => trivial), by repeat (first | (with_reducible first | exact HB.out | apply below_alloc | apply pw_below_drewN | apply below_drew1 | refine below_set ?_ GE915.out | refine below_set ?_ GE916.out | refine below_set ?_ GE917.out | refine below_set ?_ GE918.out | refine below_set ?_ GE945.out | refine below_set ?_ GE946.out) | exact HB.out)⟩
          · rw [if_neg c57] at H
            exact absurd H (by simp)

end Go.Proofs.Ytaieobidkmihkaa.P


/- AppendBytes: the program's and the reference's. -/
namespace Go.Proofs.Ytaieobidkmihkaa.P
open Go.RowKit Go.Proofs.YtaieobidkmihkaaW.PrintWords Go.Proofs.YtaieobidkmihkaaW.PrintMore Go.Proofs.YtaieobidkmihkaaW.Mine
set_option linter.unusedVariables false
set_option linter.unusedSimpArgs false
def appendF (m : List (List Int)) (a s n c : Int) (l : List Int) : List (List Int) × Int × Int × Int × Int × Bool := if (appendP m a s n c l).2.2.2.2.2 = true then appendP m a s n c l else ([], 0, 0, 0, 0, false)
def appendB (m : List (List Int)) (a s n c : Int) (l : List Int) : List (List Int) × Int × Int × Int × Int × Bool := if (memB m && winB m a s n c) = true then appendF m a s n c l else ([], 0, 0, 0, 0, false)
theorem room_eq {n c : Int} {l : List Int} (h1 : ¬ n + (l.length : Int) > 64) (hn : 0 ≤ n) : n + (l.length : Int) ≤ roomP n c l ∧ roomP n c l ≤ 64 := by
  unfold roomP mn mx
  split <;> split <;> omega
theorem growRow_eq {row : List Int} {s n : Int} {N : Nat} {l : List Int} (hs : 0 ≤ s) (hn : 0 ≤ n) (hr : s + n ≤ (row.length : Int)) (hN : n + (l.length : Int) ≤ N) :
    growRow row s n N l = (((row.drop s.toNat).take n.toNat) ++ l) ++ List.replicate (N - (n.toNat + l.length)) 0 := by
  have hl : ((row.drop s.toNat).take n.toNat).length = n.toNat := by simp; omega
  unfold growRow
  generalize (row.drop s.toNat).take n.toNat = E at hl ⊢
  rw [List.take_of_length_le (show E.length ≤ N by omega), List.take_of_length_le (show l.length ≤ N - n.toNat by omega)]
  unfold spl
  rw [List.take_zero, List.nil_append, Nat.zero_add, Nat.zero_add, hl, List.drop_replicate, List.take_left' hl, List.append_assoc]
  congr 1
  congr 1
  rw [List.drop_append, hl, List.drop_eq_nil_of_le (by omega), List.nil_append, List.drop_replicate]
  congr 1
  omega
theorem growRow_length {row : List Int} {s n : Int} {N : Nat} {l : List Int} (hs : 0 ≤ s) (hn : 0 ≤ n) (hr : s + n ≤ (row.length : Int)) (hN : n + (l.length : Int) ≤ N) : (growRow row s n N l).length = N := by
  rw [growRow_eq hs hn hr hN]
  simp
  omega
theorem appendF_ok (m : List (List Int)) (a s n c : Int) (l : List Int) (hm : memB m = true) (hw : WinOk m a s n c) : okM (appendF m a s n c l).1 := by
  have h1 := hw.s0; have h2 := hw.n0; have h3 := hw.s1; have h4 := hw.n1
  unfold appendF
  split
  · unfold appendP
    split
    · have hl := spl_length (rowB m a) (s + n).toNat l (by omega)
      exact putRow_ok hm (by rw [hl]; exact hw.r0) (by rw [hl]; exact hw.r1)
    · split
      · exact memB_ok hm
      · rename_i hb
        have hb1 : ¬ n + (l.length : Int) > 64 := fun h => hb (.inl h)
        have hN := room_eq (c := c) hb1 h2
        exact okM_append (by have := memB_len hm; omega) (fun y hy => (memB_rows hm y hy).2) (by rw [growRow_length h1 h2 (by omega) (by omega)]; omega)
  · exact okM_nil
theorem appendB_ok (m : List (List Int)) (a s n c : Int) (l : List Int) : okM (appendB m a s n c l).1 := by
  unfold appendB
  split
  · rename_i h
    simp only [Bool.and_eq_true] at h
    exact appendF_ok m a s n c l h.1 (WinOk.of h.1 h.2)
  · exact okM_nil
def impl_AppendBytes.f (m : List (List Int)) (a s n c : Int) (l : List Int) : Option (List (List Int) × Int × Int × Int × Int × Bool) := if (okMb m && decide (l.length ≤ 1048576)) = true then some (appendB m a s n c l) else none
theorem areOn_oneA (m : List (List Int)) (a s n c : Int) : impl_areOn.f m [(⟨a, s, n, c⟩ : SimplWindow)] = some (memB m && winB m a s n c) := by simp [impl_areOn.f, winW]
theorem impl_AppendBytes.calls (A0_0 : Option Addr) (c0_0 : Nat) (l0_0 : List (List Int)) (a1_0 a1_1 a1_2 a1_3 : Int) (A2 : Option Addr) (c2 : Nat) (l2 : List Int) (r1 : List (List Int)) (r2 r3 r4 r5 : Int) (r6 : Bool) (w : World) (hr0_0 : Kd.C (Kd.slice 5 (Kd.int .u8)) w A0_0 l0_0.length l0_0) (hc0_0 : l0_0.length ≤ c0_0) (hr2 : Kd.C (Kd.int .u8) w A2 l2.length l2) (hc2 : l2.length ≤ c2) (h : impl_AppendBytes.f l0_0 a1_0 a1_1 a1_2 a1_3 l2 = some (r1, r2, r3, r4, r5, r6)) :
    Calls Try.prog 42 #[.agg #[.slice A0_0 l0_0.length c0_0], .agg #[.int .i64 a1_0, .int .i64 a1_1, .int .i64 a1_2, .int .i64 a1_3], .slice A2 l2.length c2] w fun e w' => ∃ v0_ : Value, e = .returned (.tuple #[.agg #[v0_], .agg #[.int .i64 r2, .int .i64 r3, .int .i64 r4, .int .i64 r5], .bool r6]) ∧ Kd.S (Kd.slice 5 (Kd.int .u8)) 29 w' w.heap.size (fun _ => True) v0_ r1 ∧ Below w.heap.size w w' := by
  unfold impl_AppendBytes.f at h
  split at h
  next hh =>
    have hh2 : okMb l0_0 = true ∧ _ = true := (Bool.and_eq_true _ _).mp hh
    have hm := okM_of hh2.1
    have hl := of_decide_eq_true hh2.2
    have h := Option.some.inj h
    unfold appendB at h
    by_cases h1 : (memB l0_0 && winB l0_0 a1_0 a1_1 a1_2 a1_3) = true
    · rw [if_pos h1] at h
      have h1' := h1
      simp only [Bool.and_eq_true] at h1'
      have hw := WinOk.of h1'.1 h1'.2
      unfold appendF at h
      obtain ⟨M, x0, x1, x2, x3, b, hP⟩ : ∃ M x0 x1 x2 x3 b, appendP l0_0 a1_0 a1_1 a1_2 a1_3 l2 = (M, x0, x1, x2, x3, b) := ⟨_, _, _, _, _, _, rfl⟩
      cases b
      · rw [hP, if_neg (by simp)] at h
        cases h
        exact impl_AppendBytes_w1 A0_0 c0_0 l0_0 a1_0 a1_1 a1_2 a1_3 A2 c2 l2 w hr0_0 hc0_0 hr2 hc2 ((areOn_oneA _ _ _ _ _).trans (congrArg some h1)) (own_f _ hm).rounds hw M x0 x1 x2 x3 hP (memB_len h1'.1) hl
      · rw [hP, if_pos rfl] at h
        cases h
        exact impl_AppendBytes_w2 A0_0 c0_0 l0_0 a1_0 a1_1 a1_2 a1_3 A2 c2 l2 w hr0_0 hc0_0 hr2 hc2 ((areOn_oneA _ _ _ _ _).trans (congrArg some h1)) (own_f _ hm).rounds hw _ _ _ _ _ hP (memB_len h1'.1) hl
    · rw [if_neg h1] at h
      cases h
      exact impl_AppendBytes_w0 A0_0 c0_0 l0_0 a1_0 a1_1 a1_2 a1_3 A2 c2 l2 w hr0_0 hc0_0 hr2 hc2 ((areOn_oneA _ _ _ _ _).trans (congrArg some (Bool.eq_false_iff.2 h1)))
  next => cases h
theorem implAppendBytes_f (m : List (List Int)) (a s n c : Int) (l : List Int) (h : okM m) (hl : l.length ≤ 1048576) : impl_AppendBytes.f m a s n c l = some (appendB m a s n c l) := if_pos (by rw [okMb_of h, decide_eq_true hl]; rfl)
theorem mostA_f (a b : Int) : spec_l1Most.f a b = some (mx a b) := by
  unfold spec_l1Most.f mx
  by_cases h : a > b
  · rw [if_pos h, if_neg (by omega)]
  · rw [if_neg h]
    by_cases h2 : a < b
    · rw [if_pos h2]
    · rw [if_neg h2, show a = b by omega]
theorem leastA_f (a : Int) : spec_l1Least.f a 64 = some (mn 64 a) := by
  unfold spec_l1Least.f mn
  by_cases h : a < 64
  · rw [if_pos h, if_pos h]
  · rw [if_neg h, if_neg h]
theorem padA_ev (m : List (List Int)) (a s n c : Int) (l : List Int) (h : okM m) (hc : 0 ≤ c ∧ c ≤ 64) (hn : 0 ≤ n) (h64 : n + (l.length : Int) ≤ 64) (E : List Int) : ∀ (j i : Nat), E.length + i + j = (roomP n c l).toNat →
    Ev (fun q => spec_l2Append.l0 q (n + (l.length : Int)) (E ++ List.replicate i 0) m a s n c) (m ++ [E ++ List.replicate ((roomP n c l).toNat - E.length) 0], (m.length : Int), 0, n + (l.length : Int), ((E ++ List.replicate ((roomP n c l).toNat - E.length) (0 : Int)).length : Int), true) := by
  have hN := room_eq (c := c) (l := l) (n := n) (by omega) hn
  have hroom : mn 64 (mx (2 * c) (n + (l.length : Int))) = roomP n c l := rfl
  intro j
  induction j with
  | zero =>
    intro i hi
    have e1 : i = (roomP n c l).toNat - E.length := by omega
    subst e1
    have hn := l2New_f m (E ++ List.replicate ((roomP n c l).toNat - E.length) 0) (n + (l.length : Int)) h (by simp; omega)
    refine Ev.step (f := fun q => (spec_l2New.f q m (E ++ List.replicate ((roomP n c l).toNat - E.length) 0) (n + (l.length : Int))).bind fun t => some (t.1, t.2.1, t.2.2.1, t.2.2.2.1, t.2.2.2.2, true)) (fun q => ?_) (Ev.bind hn (Ev.now _))
    simp only [spec_l2Append.l0, mostA_f, leastA_f, Option.bind_some, wrap_ok (x := 2 * c) (by omega) (by omega), hroom]
    rw [if_neg (by simp; omega)]
  | succ j ih =>
    intro i hi
    refine Ev.step (f := fun q => spec_l2Append.l0 q (n + (l.length : Int)) (E ++ List.replicate (i + 1) 0) m a s n c) (fun q => ?_) (ih (i + 1) (by omega))
    simp only [spec_l2Append.l0, mostA_f, leastA_f, Option.bind_some, wrap_ok (x := 2 * c) (by omega) (by omega), hroom]
    rw [if_pos (by simp; omega), if_pos (by simp; omega), List.append_assoc, ← List.replicate_succ']
theorem l2Append_f (m : List (List Int)) (a s n c : Int) (l : List Int) (h : okM m) (hw : WinOk m a s n c) (hl : l.length ≤ 1048576) : Ev (fun k => spec_l2Append.f k m a s n c l) (appendF m a s n c l) := by
  have h1 := hw.s0; have h2 := hw.n0; have h3 := hw.s1; have h4 := hw.n1; have h5 := hw.c1; have h6 := hw.r1
  simp only [spec_l2Append.f, spec_l2Room.f, Option.bind_some, wrap_ok (x := c - n) (by omega) (by omega), wrap_ok (x := 64 - n) (by omega) (by omega)]
  by_cases hfit : n + (l.length : Int) ≤ c
  · have hP : appendF m a s n c l = (putRow m a (spl (rowB m a) (s.toNat + n.toNat) l), a, s, n + (l.length : Int), c, true) := by
      unfold appendF appendP
      rw [if_pos hfit, if_pos rfl, show (s + n).toNat = s.toNat + n.toNat by omega]
    rw [hP]
    simp only [if_pos (show (l.length : Int) ≤ c - n by omega)]
    refine Ev.bind (l2Write_f m a s n c n l h hw h2 (by omega)) ?_
    simp only [spec_l2Slice.f, Option.bind_some, Int.sub_zero, Int.add_zero, wrap_ok (x := n + (l.length : Int)) (by omega) (by omega), wrap_ok (x := c) (by omega) (by omega), wrap_ok (x := s) (by omega) (by omega)]
    exact Ev.now _
  · simp only [if_neg (show ¬ (l.length : Int) ≤ c - n by omega)]
    by_cases h64 : n + (l.length : Int) > 64
    · have hP : appendF m a s n c l = ([], 0, 0, 0, 0, false) := by
        unfold appendF appendP
        rw [if_neg hfit, if_pos (Or.inl h64), if_neg (by simp)]
      rw [hP]
      simp only [if_pos (show (l.length : Int) > 64 - n by omega)]
      refine Ev.step (fun k => ?_) (Ev.now _)
      simp only [spec_l2Append.j0, if_true]
    · simp only [if_neg (show ¬ (l.length : Int) > 64 - n by omega)]
      by_cases h16 : (m.length : Int) = 16
      · have hP : appendF m a s n c l = ([], 0, 0, 0, 0, false) := by
          unfold appendF appendP
          rw [if_neg hfit, if_pos (Or.inr h16), if_neg (by simp)]
        rw [hP, beq_iff_eq.2 h16]
        refine Ev.step (fun k => ?_) (Ev.now _)
        simp only [spec_l2Append.j0, if_true]
      · have hN := room_eq (c := c) h64 h2
        have hgl := growRow_length (N := (roomP n c l).toNat) h1 h2 (show s + n ≤ ((rowB m a).length : Int) by omega) (show n + (l.length : Int) ≤ ((roomP n c l).toNat : Int) by omega)
        have hge := growRow_eq (N := (roomP n c l).toNat) h1 h2 (show s + n ≤ ((rowB m a).length : Int) by omega) (show n + (l.length : Int) ≤ ((roomP n c l).toNat : Int) by omega)
        have hP : appendF m a s n c l = (m ++ [growRow (rowB m a) s n (roomP n c l).toNat l], (m.length : Int), 0, n + (l.length : Int), ((roomP n c l).toNat : Int), true) := by
          have hb : ¬ (n + (l.length : Int) > 64 ∨ (m.length : Int) = 16) := by rintro (h | h); exact h64 h; exact h16 h
          unfold appendF appendP
          rw [if_neg hfit, if_neg hb, if_pos rfl]
        rw [hP, beq_eq_false_iff_ne.2 h16]
        have hsl := seeB_length hw
        have hE : (seeB m a s n ++ l).length = n.toNat + l.length := by rw [List.length_append]; omega
        refine Ev.step (f := fun k => (spec_l2Bytes.f k m a s n c).bind fun t => if t.length + l.length < 140737488355328 then spec_l2Append.l0 k (wrap64 (n + (l.length : Int))) (t ++ l) m a s n c else none) (fun k => ?_) ?_
        · simp only [spec_l2Append.j0]
          rw [if_neg (by decide)]
        · refine Ev.bind (l2Bytes_f hw) ?_
          simp only [if_pos (show (seeB m a s n).length + l.length < 140737488355328 by omega), wrap_ok (x := n + (l.length : Int)) (by omega) (by omega)]
          have hp := padA_ev m a s n c l h ⟨hw.c0, h5⟩ h2 (by omega) (seeB m a s n ++ l) ((roomP n c l).toNat - (seeB m a s n ++ l).length) 0 (by omega)
          rw [List.replicate_zero, List.append_nil, hE] at hp
          have hsee : seeB m a s n = ((rowB m a).drop s.toNat).take n.toNat := rfl
          rw [← hsee] at hge
          rw [← hge, hgl] at hp
          exact hp
end Go.Proofs.Ytaieobidkmihkaa.P


namespace Go.Proofs.Ytaieobidkmihkaa.P
open Go.RowKit Go.Proofs.YtaieobidkmihkaaW.PrintWords Go.Proofs.YtaieobidkmihkaaW.PrintLast Go.Proofs.YtaieobidkmihkaaW.PrintMore
attribute [local go_sem] max2_int min2_int max_two min_two max_three min_three max_four min_four   -- for this text's walks alone
set_option linter.unusedVariables false
set_option linter.unusedSimpArgs false

/-! ### impl_checkOf: function 129 -/
def impl_checkOf.l0 : Nat → Int → List Int → Int → Int → Option (Int)
  | 0, _, _, _, _ => none
  | k + 1, x3, x6, x7, x8 => if x8 < x7 then (if 0 ≤ x8 then (if x8 < (x6.length : Int) then (impl_checkOf.l0 k (Go.bits .xor .u8 x3 (rd x6 x8)) x6 x7 (wrap64 (x8 + 1))) else (none)) else (none)) else (some x3)
def impl_checkOf.f (k : Nat) (l0 : List Int) : Option (Int) := impl_checkOf.l0 k 0 l0 (l0.length : Int) 0
set_option maxHeartbeats 8000000 in
set_option maxRecDepth 100000 in
theorem impl_checkOf.calls (k : Nat) (A0 : Option Addr) (c0 : Nat) (l0 : List Int) (r : Int) (w : World) (hr0 : Kd.C (Kd.int .u8) w A0 l0.length l0) (hc0 : l0.length ≤ c0) (h : impl_checkOf.f k l0 = some r) :
    Calls Try.prog 129 #[.slice A0 l0.length c0] w fun e w' => e = .returned (.int .u8 r) ∧ Drawn0 w w' := by
  have HR0 := Aside0.mk hr0
  have HC0 := Aside0.mk hc0
  clear hr0 hc0
  have H : (impl_checkOf.l0 k 0 l0 (l0.length : Int) 0) = some r := h
  clear h
  have H' := Aside0.mk H
  clear H
  go_enter Try.func129, Try.ntmps129
  go_wp2
  go_loopg [3, 8] k (fun kq v3 v8 w' => ∃ (x3_1 : Int) (x8_1 : Int), v3 = .int .u8 x3_1 ∧ v8 = .int .i64 x8_1 ∧ Aside0 (impl_checkOf.l0 kq x3_1 l0 (l0.length : Int) x8_1 = some r) ∧ Aside0 (kq ≤ k) ∧ Drawn0 w w')
  case atStart => exact ⟨(0), (0), (by first | rfl | (simp; done) | (simp [*]; done)), (by first | rfl | (simp; done) | (simp [*]; done)), H', ⟨Nat.le_refl _⟩, by repeat (first | exact Drawn0.refl _ | apply Drawn0.step)⟩
  case round =>
    clear H'
    try clear c1
    obtain ⟨x3_1, x8_1, rfl, rfl, HA, HK1, ⟨m1, rfl⟩⟩ := hrel
    cases gk with
    | zero => exact absurd HA.out (by simp [impl_checkOf.l0])
    | succ k1 =>
      have H := HA.out
      clear HA
      simp only [impl_checkOf.l0] at H
      by_cases c2 : x8_1 < (l0.length : Int)
      · rw [if_pos c2] at H
        have c2b0 : decide (x8_1 < (l0.length : Int)) = true := decide_eq_true c2
        clear c2
        by_cases c3 : 0 ≤ x8_1
        · rw [if_pos c3] at H
          have c3b0 : decide (0 ≤ x8_1) = true := decide_eq_true c3
          clear c3
          by_cases c4 : x8_1 < (l0.length : Int)
          · rw [if_pos c4] at H
            have c4b0 : decide (x8_1 < (l0.length : Int)) = true := decide_eq_true c4
            clear c4
            have H' := Aside0.mk H
            clear H
            have p1362 : 0 ≤ (x8_1 : Int) := of_decide_eq_true (by first | (with_reducible assumption) | assumption)
            have q1362 : x8_1 < (l0.length : Int) := of_decide_eq_true (by first | (with_reducible assumption) | assumption)
            obtain ⟨ad1362, e1362, hx1362_0⟩ := Kd.at_int HR0.out x8_1 p1362 q1362
            cases e1362
            replace p1362 := eq_true p1362
            replace q1362 := eq_true q1362
            go_wp2
            go_roundg k1
            case measure => have := HK1.out; omega
            case rel => exact ⟨(Go.bits .xor .u8 x3_1 (rd l0 x8_1)), (wrap64 (x8_1 + 1)), (by first | rfl | (simp; done) | (simp [*]; done)), (by first | rfl | (simp; done) | (simp [*]; done)), H', ⟨by have := HK1.out; omega⟩, by repeat (first | exact Drawn0.refl _ | apply Drawn0.step)⟩
          · rw [if_neg c4] at H
            exact absurd H (by simp)
        · rw [if_neg c3] at H
          exact absurd H (by simp)
      · rw [if_neg c2] at H
        have c2b0 : decide (x8_1 < (l0.length : Int)) = false := decide_eq_false c2
        clear c2
        obtain rfl := Option.some.inj H
        go_wp2
        go_ret
        exact ⟨by first | rfl | (simp; done) | (simp [*]; done), by repeat (first | exact Drawn0.refl _ | apply Drawn0.step)⟩

end Go.Proofs.Ytaieobidkmihkaa.P


namespace Go.Proofs.Ytaieobidkmihkaa.P
open Go.RowKit Go.Proofs.YtaieobidkmihkaaW.PrintWords Go.Proofs.YtaieobidkmihkaaW.PrintLast Go.Proofs.YtaieobidkmihkaaW.PrintMore
attribute [local go_sem] max2_int min2_int max_two min_two max_three min_three max_four min_four   -- for this text's walks alone
set_option linter.unusedVariables false
set_option linter.unusedSimpArgs false

/-! ### impl_EncodeFrame: function 108 -/
def impl_EncodeFrame.f (k : Nat) (a0 : Int) (l1 : List Int) : Option (List Int × Bool) := if (l1.length : Int) > 30 then (some (([] : List Int), false)) else ((some (([a0, ((l1.length : Int)) % 256] : List Int) : List Int)).bind fun y1363 => (if y1363.length + l1.length < 140737488355328 then ((some (y1363 ++ l1 : List Int)).bind fun y1366 => ((impl_checkOf.f k y1366).bind fun t1369 => (if y1366.length < 140737488355328 then (some ((y1366 ++ [t1369]), true)) else (none)))) else (none)))
set_option maxHeartbeats 8000000 in
set_option maxRecDepth 100000 in
theorem impl_EncodeFrame.calls (k : Nat) (a0 : Int) (A1 : Option Addr) (c1 : Nat) (l1 : List Int) (r1 : List Int) (r2 : Bool) (w : World) (hr1 : Kd.C (Kd.int .u8) w A1 l1.length l1) (hc1 : l1.length ≤ c1) (h : impl_EncodeFrame.f k a0 l1 = some (r1, r2)) :
    Calls Try.prog 108 #[.int .u8 a0, .slice A1 l1.length c1] w fun e w' => ∃ v0_ : Value, e = .returned (.tuple #[v0_, .bool r2]) ∧ Kd.R (Kd.int .u8) 5 w' w.heap.size (fun _ => True) v0_ r1 ∧ Below w.heap.size w w' := by
  have HR1 := Aside0.mk hr1
  have HC1 := Aside0.mk hc1
  clear hr1 hc1
  have HB := Aside0.mk (Below.refl w.heap.size w)
  have H : (if (l1.length : Int) > 30 then (some (([] : List Int), false)) else ((some (([a0, ((l1.length : Int)) % 256] : List Int) : List Int)).bind fun y1363 => (if y1363.length + l1.length < 140737488355328 then ((some (y1363 ++ l1 : List Int)).bind fun y1366 => ((impl_checkOf.f k y1366).bind fun t1369 => (if y1366.length < 140737488355328 then (some ((y1366 ++ [t1369]), true)) else (none)))) else (none)))) = some (r1, r2) := h
  clear h
  by_cases c3 : (l1.length : Int) > 30
  · rw [if_pos c3] at H
    have c3b0 : decide (30 < (l1.length : Int)) = true := decide_eq_true c3
    have c3b1 : decide (30 < l1.length) = true := decide_eq_true (by omega)
    clear c3
    simp only [Option.some.injEq, Prod.mk.injEq] at H
    obtain ⟨rfl, rfl⟩ := H
    go_enter Try.func108, Try.ntmps108
    go_wp2
    go_ret2
    exact ⟨_, by first | rfl | (simp [errW_none, errW_some] <;> rfl) | (simp [*, errW_none, errW_some] <;> rfl), by first | exact Kd.R_nil _ _ _ _ _ | exact Kd.N_nil _ _ _ _ _ | exact Kd.V_nil _ _ _ _ _ | exact Kd.Q_nil _ _ _ _ _ | exact Kd.S_nil _ _ _ _ _, by repeat (first | (with_reducible first | exact HB.out | apply below_alloc | apply pw_below_drewN | apply below_drew1) | exact HB.out)⟩
  · rw [if_neg c3] at H
    have c3b0 : decide (30 < (l1.length : Int)) = false := decide_eq_false c3
    have c3b1 : decide (30 < l1.length) = false := decide_eq_false (by omega)
    clear c3
    obtain ⟨y1363, hy1363⟩ : ∃ y_ : List Int, y_ = (([a0, ((l1.length : Int)) % 256] : List Int)) := ⟨_, rfl⟩
    replace H : (if y1363.length + l1.length < 140737488355328 then ((some (y1363 ++ l1 : List Int)).bind fun y1366 => ((impl_checkOf.f k y1366).bind fun t1369 => (if y1366.length < 140737488355328 then (some ((y1366 ++ [t1369]), true)) else (none)))) else (none)) = some (r1, r2) := by first | (rw [hy1363]; with_reducible exact H) | (have H2_ := (Option.bind_some _ _).symm.trans H; rw [hy1363]; with_reducible exact H2_) | (have H2_ := (Option.bind_some _ _).symm.trans H; with_reducible exact H2_) | with_reducible exact H | (rw [hy1363]; exact H) | exact H
    have Ny1363 := Aside0.mk hy1363
    clear hy1363
    by_cases c4 : y1363.length + l1.length < 140737488355328
    · rw [if_pos c4] at H
      have LMc4 := Aside0.mk c4
      clear c4
      obtain ⟨y1366, hy1366⟩ : ∃ y_ : List Int, y_ = (y1363 ++ l1) := ⟨_, rfl⟩
      replace H : ((impl_checkOf.f k y1366).bind fun t1369 => (if y1366.length < 140737488355328 then (some ((y1366 ++ [t1369]), true)) else (none))) = some (r1, r2) := by first | (rw [hy1366]; with_reducible exact H) | (have H2_ := (Option.bind_some _ _).symm.trans H; rw [hy1366]; with_reducible exact H2_) | (have H2_ := (Option.bind_some _ _).symm.trans H; with_reducible exact H2_) | with_reducible exact H | (rw [hy1366]; exact H) | exact H
      have Ny1366 := Aside0.mk hy1366
      clear hy1366
      replace H := Option.bind_eq_some_iff.mp H
      obtain ⟨t1369, A50, H⟩ := H
      replace H : (if y1366.length < 140737488355328 then (some ((y1366 ++ [t1369]), true)) else (none)) = some (r1, r2) := H
      have A5 := Aside0.mk A50
      clear A50
      by_cases c6 : y1366.length < 140737488355328
      · rw [if_pos c6] at H
        have LMc6 := Aside0.mk c6
        clear c6
        obtain ⟨y1370, hy1370⟩ : ∃ y_ : List Int, y_ = (y1366 ++ [t1369]) := ⟨_, rfl⟩
        replace H : (some (y1370, true)) = some (r1, r2) := by first | (rw [hy1370]; with_reducible exact H) | (have H2_ := (Option.bind_some _ _).symm.trans H; rw [hy1370]; with_reducible exact H2_) | (have H2_ := (Option.bind_some _ _).symm.trans H; with_reducible exact H2_) | with_reducible exact H | (rw [hy1370]; exact H) | exact H
        have Ny1370 := Aside0.mk hy1370
        clear hy1370
        simp only [Option.some.injEq, Prod.mk.injEq] at H
        obtain ⟨rfl, rfl⟩ := H
        go_enter Try.func108, Try.ntmps108
        go_wp2_with (first | ((with_reducible refine gate_dst (N := 14) rfl ?_); refine Kd.R_lit (Kd.int .u8) _ 5 ?hg (N := 14) ?hd (xs := ([a0, ((l1.length : Int)) % 256] : List Int)) (inner := [.int .u8 a0, .int .u8 (((l1.length : Int)) % 256)]) (ok := fun _ => True) (okp := fun _ => True) ?hr ?hp (fun _ hk => hk) trivial (Below.refl _ _) (Nat.le_refl _) (by simp) ?_; (case hd => rfl); (case hg => rfl); (case hr => first | (go_simp; done) | (go_simp; rfl)); (case hp => exact (Reps.one (show Kd.M (Kd.int .u8) _ _ _ a0 [.int .u8 a0] from rfl) (Reps.one (show Kd.M (Kd.int .u8) _ _ _ (((l1.length : Int)) % 256) [.int .u8 (((l1.length : Int)) % 256)] from rfl) (Reps.none _ _)))); intro v1364 w7 ho8 hb hg_ hnew_; clear hg_ hnew_; (first | rw [← Ny1363.out] at ho8 | (simp only [Int.reduceToNat] at ho8; rw [← Ny1363.out] at ho8)); have n0_ := Aside0.mk (Kd.R_lower ho8 (below_size (by repeat (first | (with_reducible first | exact HB.out | apply below_alloc | apply pw_below_drewN | apply below_drew1) | exact HB.out)))); have n1_ := Aside0.mk (below_step (by repeat (first | (with_reducible first | exact HB.out | apply below_alloc | apply pw_below_drewN | apply below_drew1) | exact HB.out)) hb); clear HB; have HO1365 := n0_; have HB := n1_; clear n0_ n1_; clear hb ho8) | ((with_reducible refine gate_builtin (b := .append) (xs := #[.tmp 14, .tmp 15]) rfl ?_); at_builtin; refine Kd.R_append_rows (Kd.int .u8) (w0 := w) w.heap.size rfl (.tmp 14) (.tmp 15) 29 5 (.int .u8 0) 1 rfl Try.underlying29 info5 rfl (by decide) (by omega) v1364 y1363 l1 _ _ _ (fun _ => True) (fun _ => False) rfl rfl ?aO ?aR (fun _ _ h => h) (fun _ h => h.elim) ?aF ?aB ?aS ?aL ?_; (case aR => repeat (first | exact (Kd.C_below HR1.out HB.out) | (with_reducible refine Kd.C_alloc ?_ _) | (with_reducible refine Kd.C_drewN ?_ _) | (with_reducible refine Kd.C_drew ?_))); (case aB => exact (by repeat (first | (with_reducible first | exact HB.out | apply below_alloc | apply pw_below_drewN | apply below_drew1) | exact HB.out))); (case aF => exact (fun _ _ => trivial)); (case aO => exact (by (with_reducible repeat (first | apply Kd.R_alloc | apply Kd.R_drewN | apply Kd.R_drew)); exact HO1365.out)); (case aS => exact (below_size (by repeat (first | (with_reducible first | exact HB.out | apply below_alloc | apply pw_below_drewN | apply below_drew1) | exact HB.out)))); (case aL => have := LMc4.out; omega); intro v1367 w9 ho hb hg hat; rw [← Ny1366.out] at ho; have n0_ := Aside0.mk (hb); have n1_ := Aside0.mk (ho); clear HB; clear HO1365; have HB := n0_; have HO1368 := n1_; clear n0_ n1_; clear ho hb hg hat; obtain ⟨Ao10, co10, eo10⟩ := Kd.R_slice HO1368.out; subst eo10) | ((with_reducible refine gate_callee (f := 129) rfl ?_); refine goesL_ (some 19) rfl rfl Try.func129 (by kernel_rfl) rfl #[.slice Ao10 y1366.length co10] rfl (by (try simp only [List.map_toArray, List.map_cons, List.map_nil]); first | done | rfl | (simp only [List.length_drop, List.length_take]; rfl)) ?_; (with_reducible refine (impl_checkOf.calls k _ _ y1366 t1369 _ ?side1 ?side2 A5.out).mono ?_); (case side1 => repeat (first | exact (Kd.R_reads' HO1368.out).2.2 | (with_reducible refine Kd.C_alloc ?_ _) | (with_reducible refine Kd.C_drewN ?_ _) | (with_reducible refine Kd.C_drew ?_))); (case side2 => exact (Kd.R_reads' HO1368.out).2.1); rintro e w' ⟨rfl, ⟨nd, rfl⟩⟩; refine ⟨_, rfl, ?_⟩) | ((with_reducible refine gate_builtin (b := .append) (xs := #[.tmp 17, .tmp 20]) rfl ?_); at_builtin; refine Kd.R_append (Kd.int .u8) (w0 := w) w.heap.size rfl (.tmp 17) (.tmp 20) 29 5 (.int .u8 0) 1 rfl Try.underlying29 info5 rfl (by decide) (by omega) (.slice Ao10 y1366.length co10) y1366 t1369 [.int .u8 t1369] (fun _ => True) (fun _ => False) rfl rfl ?aP (fun _ hk => hk.elim) ?aF ?aO ?aB ?aS ?aL ?_; (case aP => exact rfl); (case aB => exact (by repeat (first | (with_reducible first | exact HB.out | apply below_alloc | apply pw_below_drewN | apply below_drew1) | exact HB.out))); (case aF => exact (fun _ _ => trivial)); (case aO => exact (by (with_reducible repeat (first | apply Kd.R_alloc | apply Kd.R_drewN | apply Kd.R_drew)); exact HO1368.out)); (case aS => exact (below_size (by repeat (first | (with_reducible first | exact HB.out | apply below_alloc | apply pw_below_drewN | apply below_drew1) | exact HB.out)))); (case aL => have := LMc6.out; omega); intro v1371 w11 ho hb hg hat; rw [← Ny1370.out] at ho; have n0_ := Aside0.mk (hb); have n1_ := Aside0.mk (ho); clear HB; clear HO1368; have HB := n0_; have HO1372 := n1_; clear n0_ n1_; clear ho hb hg hat))
        go_ret2
        exact ⟨_, by first | rfl | (simp [errW_none, errW_some] <;> rfl) | (simp [*, errW_none, errW_some] <;> rfl), by (with_reducible repeat (first | apply Kd.R_alloc | apply Kd.R_drewN | apply Kd.R_drew)); exact HO1372.out, by repeat (first | (with_reducible first | exact HB.out | apply below_alloc | apply pw_below_drewN | apply below_drew1) | exact HB.out)⟩
      · rw [if_neg c6] at H
        exact absurd H (by simp)
    · rw [if_neg c4] at H
      exact absurd H (by simp)

end Go.Proofs.Ytaieobidkmihkaa.P


namespace Go.Proofs.Ytaieobidkmihkaa.P
open Go.RowKit Go.Proofs.YtaieobidkmihkaaW.PrintWords Go.Proofs.YtaieobidkmihkaaW.PrintLast Go.Proofs.YtaieobidkmihkaaW.PrintMore
attribute [local go_sem] max2_int min2_int max_two min_two max_three min_three max_four min_four   -- for this text's walks alone
set_option linter.unusedVariables false
set_option linter.unusedSimpArgs false

/-! ### impl_AppendFrame: function 64 -/
def impl_AppendFrame.f (k : Nat) (l0_0 : List (List Int)) (a1_0 : Int) (a1_1 : Int) (a1_2 : Int) (a1_3 : Int) (a2 : Int) (l3 : List Int) : Option ((List (List Int)) × Int × Int × Int × Int × Bool) := (impl_EncodeFrame.f k a2 l3).bind fun bt1410 => (if bt1410.2 = true then ((impl_AppendBytes.f l0_0 a1_0 a1_1 a1_2 a1_3 bt1410.1).bind fun bt1414 => (some (bt1414.1, bt1414.2.1, bt1414.2.2.1, bt1414.2.2.2.1, bt1414.2.2.2.2.1, bt1414.2.2.2.2.2))) else (some (([] : List (List Int)), 0, 0, 0, 0, false)))
set_option maxHeartbeats 8000000 in
set_option maxRecDepth 100000 in
theorem impl_AppendFrame.calls (k : Nat) (A0_0 : Option Addr) (c0_0 : Nat) (l0_0 : List (List Int)) (a1_0 : Int) (a1_1 : Int) (a1_2 : Int) (a1_3 : Int) (a2 : Int) (A3 : Option Addr) (c3 : Nat) (l3 : List Int) (r1 : List (List Int)) (r2 : Int) (r3 : Int) (r4 : Int) (r5 : Int) (r6 : Bool) (w : World) (hr0_0 : Kd.C (Kd.slice 5 (Kd.int .u8)) w A0_0 l0_0.length l0_0) (hc0_0 : l0_0.length ≤ c0_0) (hr3 : Kd.C (Kd.int .u8) w A3 l3.length l3) (hc3 : l3.length ≤ c3) (h : impl_AppendFrame.f k l0_0 a1_0 a1_1 a1_2 a1_3 a2 l3 = some (r1, r2, r3, r4, r5, r6)) :
    Calls Try.prog 64 #[.agg #[.slice A0_0 l0_0.length c0_0], .agg #[.int .i64 a1_0, .int .i64 a1_1, .int .i64 a1_2, .int .i64 a1_3], .int .u8 a2, .slice A3 l3.length c3] w fun e w' => ∃ v0_ : Value, e = .returned (.tuple #[.agg #[v0_], .agg #[.int .i64 r2, .int .i64 r3, .int .i64 r4, .int .i64 r5], .bool r6]) ∧ Kd.S (Kd.slice 5 (Kd.int .u8)) 29 w' w.heap.size (fun _ => True) v0_ r1 ∧ Below w.heap.size w w' := by
  have hu31 := Try.underlying31
  have hu32 := Try.underlying32
  have HR0_0 := Aside0.mk hr0_0
  have HC0_0 := Aside0.mk hc0_0
  clear hr0_0 hc0_0
  have HR3 := Aside0.mk hr3
  have HC3 := Aside0.mk hc3
  clear hr3 hc3
  have HB := Aside0.mk (Below.refl w.heap.size w)
  have H : ((impl_EncodeFrame.f k a2 l3).bind fun bt1410 => (if bt1410.2 = true then ((impl_AppendBytes.f l0_0 a1_0 a1_1 a1_2 a1_3 bt1410.1).bind fun bt1414 => (some (bt1414.1, bt1414.2.1, bt1414.2.2.1, bt1414.2.2.2.1, bt1414.2.2.2.2.1, bt1414.2.2.2.2.2))) else (some (([] : List (List Int)), 0, 0, 0, 0, false)))) = some (r1, r2, r3, r4, r5, r6) := h
  clear h
  replace H := Option.bind_eq_some_iff.mp H
  obtain ⟨⟨t1410, t1411⟩, A50, H⟩ := H
  replace H : (if t1411 = true then ((impl_AppendBytes.f l0_0 a1_0 a1_1 a1_2 a1_3 t1410).bind fun bt1414 => (some (bt1414.1, bt1414.2.1, bt1414.2.2.1, bt1414.2.2.2.1, bt1414.2.2.2.2.1, bt1414.2.2.2.2.2))) else (some (([] : List (List Int)), 0, 0, 0, 0, false))) = some (r1, r2, r3, r4, r5, r6) := H
  have A5 := Aside0.mk A50
  clear A50
  by_cases c6 : t1411 = true
  · subst c6
    have H1 : ((impl_AppendBytes.f l0_0 a1_0 a1_1 a1_2 a1_3 t1410).bind fun bt1414 => (some (bt1414.1, bt1414.2.1, bt1414.2.2.1, bt1414.2.2.2.1, bt1414.2.2.2.2.1, bt1414.2.2.2.2.2))) = some (r1, r2, r3, r4, r5, r6) := by rw [if_pos rfl] at H; exact H
    clear H
    have H := H1
    clear H1
    replace H := Option.bind_eq_some_iff.mp H
    obtain ⟨⟨t1414, t1417, t1418, t1419, t1420, t1421⟩, A70, H⟩ := H
    replace H : (some (t1414, t1417, t1418, t1419, t1420, t1421)) = some (r1, r2, r3, r4, r5, r6) := H
    have A7 := Aside0.mk A70
    clear A70
    simp only [Option.some.injEq, Prod.mk.injEq] at H
    obtain ⟨rfl, rfl, rfl, rfl, rfl, rfl⟩ := H
    go_enter Try.func64, Try.ntmps64
    go_wp2_with (first | ((with_reducible refine gate_dst (N := 4) rfl ?_); refine box_event ?hg (N := 4) ?hd (cs := #[.slice A0_0 l0_0.length c0_0]) (t := 31) ?hr ?_; (case hd => rfl); (case hg => rfl); (case hr => first | (go_simp; done) | (go_simp; rfl)); intro gb1406 hg w8 hbox hb; have n0_ := Aside0.mk (below_step (by repeat (first | (with_reducible first | exact HB.out | apply below_alloc | apply pw_below_drewN | apply below_drew1) | exact HB.out)) hb); have n1_ := Aside0.mk (hbox); have n2_ := Aside0.mk ((by rw [hg]; exact (below_size (by repeat (first | (with_reducible first | exact HB.out | apply below_alloc | apply pw_below_drewN | apply below_drew1) | exact HB.out))) : w.heap.size ≤ gb1406)); have n3_ := Aside0.mk ((by rw [hg]; exact (below_size (by repeat (first | (with_reducible first | exact HB.out | apply below_alloc | apply pw_below_drewN | apply below_drew1) | exact HB.out))) : w.heap.size ≤ gb1406)); clear HB; have HB := n0_; have BK1406 := n1_; have GW1406 := n2_; have GE1406 := n3_; clear n0_ n1_ n2_ n3_; clear hb hbox hg) | ((with_reducible refine gate_dst (N := 5) rfl ?_); refine box_event ?hg (N := 5) ?hd (cs := #[.int .i64 a1_0, .int .i64 a1_1, .int .i64 a1_2, .int .i64 a1_3]) (t := 32) ?hr ?_; (case hd => rfl); (case hg => rfl); (case hr => first | (go_simp; done) | (go_simp; rfl)); intro gb1407 hg w9 hbox hb; have n0_ := Aside0.mk (blk_below (g := gb1406) (o := .cells #[.slice A0_0 l0_0.length c0_0] 31 (0, 0)) (by (with_reducible repeat (first | refine blk_drewN ?_ _ | refine blk_drew ?_ | refine blk_alloc ?_ _)); exact BK1406.out) hb); have n1_ := Aside0.mk (below_step (by repeat (first | (with_reducible first | exact HB.out | apply below_alloc | apply pw_below_drewN | apply below_drew1 | refine below_set ?_ GE1406.out) | exact HB.out)) hb); have n2_ := Aside0.mk (hbox); have n3_ := Aside0.mk ((by rw [hg]; exact (below_size (by repeat (first | (with_reducible first | exact HB.out | apply below_alloc | apply pw_below_drewN | apply below_drew1 | refine below_set ?_ GE1406.out) | exact HB.out))) : w.heap.size ≤ gb1407)); have n4_ := Aside0.mk ((by rw [hg]; exact (below_size (by repeat (first | (with_reducible first | exact HB.out | apply below_alloc | apply pw_below_drewN | apply below_drew1 | refine below_set ?_ GE1406.out) | exact HB.out))) : w.heap.size ≤ gb1407)); have n5_ := Aside0.mk ((by rw [hg]; exact Nat.ne_of_lt (blk_lt (g := gb1406) (o := .cells #[.slice A0_0 l0_0.length c0_0] 31 (0, 0)) (by (with_reducible repeat (first | refine blk_drewN ?_ _ | refine blk_drew ?_ | refine blk_alloc ?_ _)); exact BK1406.out)) : gb1406 ≠ gb1407)); have n6_ := Aside0.mk ((by rw [hg]; exact Nat.ne_of_gt (blk_lt (g := gb1406) (o := .cells #[.slice A0_0 l0_0.length c0_0] 31 (0, 0)) (by (with_reducible repeat (first | refine blk_drewN ?_ _ | refine blk_drew ?_ | refine blk_alloc ?_ _)); exact BK1406.out)) : gb1407 ≠ gb1406)); clear BK1406; clear HB; have BK1406 := n0_; have HB := n1_; have BK1407 := n2_; have GW1407 := n3_; have GE1407 := n4_; have NB1406_1407 := n5_; have NB1407_1406 := n6_; clear n0_ n1_ n2_ n3_ n4_ n5_ n6_; clear hb hbox hg) | ((with_reducible refine gate_dst (N := 8) rfl ?_); refine box_event ?hg (N := 8) ?hd (cs := #[.slice none 0 0]) (t := 31) ?hr ?_; (case hd => rfl); (case hg => rfl); (case hr => first | (go_simp; done) | (go_simp; rfl)); intro gb1408 hg w10 hbox hb; have n0_ := Aside0.mk (blk_below (g := gb1406) (o := .cells #[.slice A0_0 l0_0.length c0_0] 31 (0, 0)) (by (with_reducible repeat (first | refine blk_drewN ?_ _ | refine blk_drew ?_ | refine blk_alloc ?_ _)); exact BK1406.out) hb); have n1_ := Aside0.mk (blk_below (g := gb1407) (o := .cells #[.int .i64 a1_0, .int .i64 a1_1, .int .i64 a1_2, .int .i64 a1_3] 32 (0, 0)) (by (with_reducible repeat (first | refine blk_drewN ?_ _ | refine blk_drew ?_ | refine blk_alloc ?_ _)); exact BK1407.out) hb); have n2_ := Aside0.mk (below_step (by repeat (first | (with_reducible first | exact HB.out | apply below_alloc | apply pw_below_drewN | apply below_drew1 | refine below_set ?_ GE1406.out | refine below_set ?_ GE1407.out) | exact HB.out)) hb); have n3_ := Aside0.mk (hbox); have n4_ := Aside0.mk ((by rw [hg]; exact (below_size (by repeat (first | (with_reducible first | exact HB.out | apply below_alloc | apply pw_below_drewN | apply below_drew1 | refine below_set ?_ GE1406.out | refine below_set ?_ GE1407.out) | exact HB.out))) : w.heap.size ≤ gb1408)); have n5_ := Aside0.mk ((by rw [hg]; exact (below_size (by repeat (first | (with_reducible first | exact HB.out | apply below_alloc | apply pw_below_drewN | apply below_drew1 | refine below_set ?_ GE1406.out | refine below_set ?_ GE1407.out) | exact HB.out))) : w.heap.size ≤ gb1408)); have n6_ := Aside0.mk ((by rw [hg]; exact Nat.ne_of_lt (blk_lt (g := gb1406) (o := .cells #[.slice A0_0 l0_0.length c0_0] 31 (0, 0)) (by (with_reducible repeat (first | refine blk_drewN ?_ _ | refine blk_drew ?_ | refine blk_alloc ?_ _)); exact BK1406.out)) : gb1406 ≠ gb1408)); have n7_ := Aside0.mk ((by rw [hg]; exact Nat.ne_of_gt (blk_lt (g := gb1406) (o := .cells #[.slice A0_0 l0_0.length c0_0] 31 (0, 0)) (by (with_reducible repeat (first | refine blk_drewN ?_ _ | refine blk_drew ?_ | refine blk_alloc ?_ _)); exact BK1406.out)) : gb1408 ≠ gb1406)); have n8_ := Aside0.mk ((by rw [hg]; exact Nat.ne_of_lt (blk_lt (g := gb1407) (o := .cells #[.int .i64 a1_0, .int .i64 a1_1, .int .i64 a1_2, .int .i64 a1_3] 32 (0, 0)) (by (with_reducible repeat (first | refine blk_drewN ?_ _ | refine blk_drew ?_ | refine blk_alloc ?_ _)); exact BK1407.out)) : gb1407 ≠ gb1408)); have n9_ := Aside0.mk ((by rw [hg]; exact Nat.ne_of_gt (blk_lt (g := gb1407) (o := .cells #[.int .i64 a1_0, .int .i64 a1_1, .int .i64 a1_2, .int .i64 a1_3] 32 (0, 0)) (by (with_reducible repeat (first | refine blk_drewN ?_ _ | refine blk_drew ?_ | refine blk_alloc ?_ _)); exact BK1407.out)) : gb1408 ≠ gb1407)); clear BK1406; clear BK1407; clear HB; have BK1406 := n0_; have BK1407 := n1_; have HB := n2_; have BK1408 := n3_; have GW1408 := n4_; have GE1408 := n5_; have NB1406_1408 := n6_; have NB1408_1406 := n7_; have NB1407_1408 := n8_; have NB1408_1407 := n9_; clear n0_ n1_ n2_ n3_ n4_ n5_ n6_ n7_ n8_ n9_; clear hb hbox hg) | ((with_reducible refine gate_dst (N := 9) rfl ?_); refine box_event ?hg (N := 9) ?hd (cs := #[.int .i64 0, .int .i64 0, .int .i64 0, .int .i64 0]) (t := 32) ?hr ?_; (case hd => rfl); (case hg => rfl); (case hr => first | (go_simp; done) | (go_simp; rfl)); intro gb1409 hg w11 hbox hb; have n0_ := Aside0.mk (blk_below (g := gb1406) (o := .cells #[.slice A0_0 l0_0.length c0_0] 31 (0, 0)) (by (with_reducible repeat (first | refine blk_drewN ?_ _ | refine blk_drew ?_ | refine blk_alloc ?_ _)); exact BK1406.out) hb); have n1_ := Aside0.mk (blk_below (g := gb1407) (o := .cells #[.int .i64 a1_0, .int .i64 a1_1, .int .i64 a1_2, .int .i64 a1_3] 32 (0, 0)) (by (with_reducible repeat (first | refine blk_drewN ?_ _ | refine blk_drew ?_ | refine blk_alloc ?_ _)); exact BK1407.out) hb); have n2_ := Aside0.mk (blk_below (g := gb1408) (o := .cells #[.slice none 0 0] 31 (0, 0)) (by (with_reducible repeat (first | refine blk_drewN ?_ _ | refine blk_drew ?_ | refine blk_alloc ?_ _)); exact BK1408.out) hb); have n3_ := Aside0.mk (below_step (by repeat (first | (with_reducible first | exact HB.out | apply below_alloc | apply pw_below_drewN | apply below_drew1 | refine below_set ?_ GE1406.out | refine below_set ?_ GE1407.out | refine below_set ?_ GE1408.out) | exact HB.out)) hb); have n4_ := Aside0.mk (hbox); have n5_ := Aside0.mk ((by rw [hg]; exact (below_size (by repeat (first | (with_reducible first | exact HB.out | apply below_alloc | apply pw_below_drewN | apply below_drew1 | refine below_set ?_ GE1406.out | refine below_set ?_ GE1407.out | refine below_set ?_ GE1408.out) | exact HB.out))) : w.heap.size ≤ gb1409)); have n6_ := Aside0.mk ((by rw [hg]; exact (below_size (by repeat (first | (with_reducible first | exact HB.out | apply below_alloc | apply pw_below_drewN | apply below_drew1 | refine below_set ?_ GE1406.out | refine below_set ?_ GE1407.out | refine below_set ?_ GE1408.out) | exact HB.out))) : w.heap.size ≤ gb1409)); have n7_ := Aside0.mk ((by rw [hg]; exact Nat.ne_of_lt (blk_lt (g := gb1406) (o := .cells #[.slice A0_0 l0_0.length c0_0] 31 (0, 0)) (by (with_reducible repeat (first | refine blk_drewN ?_ _ | refine blk_drew ?_ | refine blk_alloc ?_ _)); exact BK1406.out)) : gb1406 ≠ gb1409)); have n8_ := Aside0.mk ((by rw [hg]; exact Nat.ne_of_gt (blk_lt (g := gb1406) (o := .cells #[.slice A0_0 l0_0.length c0_0] 31 (0, 0)) (by (with_reducible repeat (first | refine blk_drewN ?_ _ | refine blk_drew ?_ | refine blk_alloc ?_ _)); exact BK1406.out)) : gb1409 ≠ gb1406)); have n9_ := Aside0.mk ((by rw [hg]; exact Nat.ne_of_lt (blk_lt (g := gb1407) (o := .cells #[.int .i64 a1_0, .int .i64 a1_1, .int .i64 a1_2, .int .i64 a1_3] 32 (0, 0)) (by (with_reducible repeat (first | refine blk_drewN ?_ _ | refine blk_drew ?_ | refine blk_alloc ?_ _)); exact BK1407.out)) : gb1407 ≠ gb1409)); have n10_ := Aside0.mk ((by rw [hg]; exact Nat.ne_of_gt (blk_lt (g := gb1407) (o := .cells #[.int .i64 a1_0, .int .i64 a1_1, .int .i64 a1_2, .int .i64 a1_3] 32 (0, 0)) (by (with_reducible repeat (first | refine blk_drewN ?_ _ | refine blk_drew ?_ | refine blk_alloc ?_ _)); exact BK1407.out)) : gb1409 ≠ gb1407)); have n11_ := Aside0.mk ((by rw [hg]; exact Nat.ne_of_lt (blk_lt (g := gb1408) (o := .cells #[.slice none 0 0] 31 (0, 0)) (by (with_reducible repeat (first | refine blk_drewN ?_ _ | refine blk_drew ?_ | refine blk_alloc ?_ _)); exact BK1408.out)) : gb1408 ≠ gb1409)); have n12_ := Aside0.mk ((by rw [hg]; exact Nat.ne_of_gt (blk_lt (g := gb1408) (o := .cells #[.slice none 0 0] 31 (0, 0)) (by (with_reducible repeat (first | refine blk_drewN ?_ _ | refine blk_drew ?_ | refine blk_alloc ?_ _)); exact BK1408.out)) : gb1409 ≠ gb1408)); clear BK1406; clear BK1407; clear BK1408; clear HB; have BK1406 := n0_; have BK1407 := n1_; have BK1408 := n2_; have HB := n3_; have BK1409 := n4_; have GW1409 := n5_; have GE1409 := n6_; have NB1406_1409 := n7_; have NB1409_1406 := n8_; have NB1407_1409 := n9_; have NB1409_1407 := n10_; have NB1408_1409 := n11_; have NB1409_1408 := n12_; clear n0_ n1_ n2_ n3_ n4_ n5_ n6_ n7_ n8_ n9_ n10_ n11_ n12_; clear hb hbox hg) | ((with_reducible refine gate_callee (f := 108) rfl ?_); refine goesL_ (some 16) rfl rfl Try.func108 (by kernel_rfl) rfl #[.int .u8 a2, .slice A3 l3.length c3] rfl (by (try simp only [List.map_toArray, List.map_cons, List.map_nil]); first | done | rfl | (simp only [List.length_drop, List.length_take]; rfl)) ?_; (with_reducible refine (impl_EncodeFrame.calls k a2 _ _ l3 t1410 true _ ?side1 ?side2 A5.out).mono ?_); (case side1 => repeat (first | exact (Kd.C_below HR3.out HB.out) | (with_reducible refine Kd.C_alloc ?_ _) | (with_reducible refine Kd.C_drewN ?_ _) | (with_reducible refine Kd.C_drew ?_))); (case side2 => exact HC3.out); rintro e w12 ⟨v1412, rfl, ho0, hb⟩; refine ⟨_, rfl, ?_⟩; have n0_ := Aside0.mk (Kd.R_lower ho0 (below_size (by repeat (first | (with_reducible first | exact HB.out | apply below_alloc | apply pw_below_drewN | apply below_drew1 | refine below_set ?_ GE1406.out | refine below_set ?_ GE1407.out | refine below_set ?_ GE1408.out | refine below_set ?_ GE1409.out) | exact HB.out)))); have n1_ := Aside0.mk (blk_below (g := gb1406) (o := .cells #[.slice A0_0 l0_0.length c0_0] 31 (0, 0)) (by (with_reducible repeat (first | refine blk_drewN ?_ _ | refine blk_drew ?_ | refine blk_alloc ?_ _)); exact BK1406.out) hb); have n2_ := Aside0.mk (blk_below (g := gb1407) (o := .cells #[.int .i64 a1_0, .int .i64 a1_1, .int .i64 a1_2, .int .i64 a1_3] 32 (0, 0)) (by (with_reducible repeat (first | refine blk_drewN ?_ _ | refine blk_drew ?_ | refine blk_alloc ?_ _)); exact BK1407.out) hb); have n3_ := Aside0.mk (blk_below (g := gb1408) (o := .cells #[.slice none 0 0] 31 (0, 0)) (by (with_reducible repeat (first | refine blk_drewN ?_ _ | refine blk_drew ?_ | refine blk_alloc ?_ _)); exact BK1408.out) hb); have n4_ := Aside0.mk (blk_below (g := gb1409) (o := .cells #[.int .i64 0, .int .i64 0, .int .i64 0, .int .i64 0] 32 (0, 0)) (by (with_reducible repeat (first | refine blk_drewN ?_ _ | refine blk_drew ?_ | refine blk_alloc ?_ _)); exact BK1409.out) hb); have n5_ := Aside0.mk (below_step (by repeat (first | (with_reducible first | exact HB.out | apply below_alloc | apply pw_below_drewN | apply below_drew1 | refine below_set ?_ GE1406.out | refine below_set ?_ GE1407.out | refine below_set ?_ GE1408.out | refine below_set ?_ GE1409.out) | exact HB.out)) hb); clear BK1406; clear BK1407; clear BK1408; clear BK1409; clear HB; have HO1413 := n0_; have BK1406 := n1_; have BK1407 := n2_; have BK1408 := n3_; have BK1409 := n4_; have HB := n5_; clear n0_ n1_ n2_ n3_ n4_ n5_; (try clear hb); (try clear hb2); (try clear hk); (try clear hi); (try clear ho0); have hnb13 := NB1406_1407.out; have hnc13 := NB1407_1406.out; have hnb14 := NB1406_1408.out; have hnc14 := NB1408_1406.out; have hnb15 := NB1406_1409.out; have hnc15 := NB1409_1406.out; have hcz16_0 : w12.cell? ⟨gb1406, 0, none⟩ = some (.slice A0_0 l0_0.length c0_0) := (blk_cell BK1406.out 0).trans rfl; have hfz16_0 := blk_frozen BK1406.out 0; have hnb17 := NB1407_1408.out; have hnc17 := NB1408_1407.out; have hnb18 := NB1407_1409.out; have hnc18 := NB1409_1407.out; have hcz19_0 : w12.cell? ⟨gb1407, 0, none⟩ = some (.int .i64 a1_0) := (blk_cell BK1407.out 0).trans rfl; have hcz19_1 : w12.cell? ⟨gb1407, 1, none⟩ = some (.int .i64 a1_1) := (blk_cell BK1407.out 1).trans rfl; have hcz19_2 : w12.cell? ⟨gb1407, 2, none⟩ = some (.int .i64 a1_2) := (blk_cell BK1407.out 2).trans rfl; have hcz19_3 : w12.cell? ⟨gb1407, 3, none⟩ = some (.int .i64 a1_3) := (blk_cell BK1407.out 3).trans rfl; have hfz19_0 := blk_frozen BK1407.out 0; have hfz19_1 := blk_frozen BK1407.out 1; have hfz19_2 := blk_frozen BK1407.out 2; have hfz19_3 := blk_frozen BK1407.out 3; obtain ⟨Ao20, co20, eo20⟩ := Kd.R_slice HO1413.out; subst eo20) | ((with_reducible refine gate_callee (f := 42) rfl ?_); refine goesL_ (some 26) rfl rfl Try.func42 (by kernel_rfl) rfl #[.agg #[.slice A0_0 l0_0.length c0_0], .agg #[.int .i64 a1_0, .int .i64 a1_1, .int .i64 a1_2, .int .i64 a1_3], .slice Ao20 t1410.length co20] rfl (by (try simp only [List.map_toArray, List.map_cons, List.map_nil]); first | done | rfl | (simp only [List.length_drop, List.length_take]; rfl)) ?_; (with_reducible refine (impl_AppendBytes.calls _ _ l0_0 a1_0 a1_1 a1_2 a1_3 _ _ t1410 t1414 t1417 t1418 t1419 t1420 t1421 _ ?side1 ?side2 ?side3 ?side4 A7.out).mono ?_); (case side1 => repeat (first | exact (Kd.C_below HR0_0.out HB.out) | (with_reducible refine Kd.C_alloc ?_ _) | (with_reducible refine Kd.C_drewN ?_ _) | (with_reducible refine Kd.C_drew ?_))); (case side2 => exact HC0_0.out); (case side3 => repeat (first | exact (Kd.R_reads' HO1413.out).2.2 | (with_reducible refine Kd.C_alloc ?_ _) | (with_reducible refine Kd.C_drewN ?_ _) | (with_reducible refine Kd.C_drew ?_))); (case side4 => exact (Kd.R_reads' HO1413.out).2.1); rintro e w21 ⟨v1415, rfl, ho0, hb⟩; refine ⟨_, rfl, ?_⟩; have n0_ := Aside0.mk (Kd.R_below (by (with_reducible repeat (first | apply Kd.R_alloc | apply Kd.R_drewN | apply Kd.R_drew)); exact HO1413.out) hb); have n1_ := Aside0.mk (Kd.S_lower (Kd.S_new' ho0 (Kd.R_lt (by (with_reducible repeat (first | apply Kd.R_alloc | apply Kd.R_drewN | apply Kd.R_drew)); exact HO1413.out))) (below_size (by repeat (first | (with_reducible first | exact HB.out | apply below_alloc | apply pw_below_drewN | apply below_drew1 | refine below_set ?_ GE1406.out | refine below_set ?_ GE1407.out | refine below_set ?_ GE1408.out | refine below_set ?_ GE1409.out) | exact HB.out)))); have n2_ := Aside0.mk (blk_below (g := gb1406) (o := .cells #[.slice A0_0 l0_0.length c0_0] 31 (0, 0)) (by (with_reducible repeat (first | refine blk_drewN ?_ _ | refine blk_drew ?_ | refine blk_alloc ?_ _)); exact BK1406.out) hb); have n3_ := Aside0.mk (blk_below (g := gb1407) (o := .cells #[.int .i64 a1_0, .int .i64 a1_1, .int .i64 a1_2, .int .i64 a1_3] 32 (0, 0)) (by (with_reducible repeat (first | refine blk_drewN ?_ _ | refine blk_drew ?_ | refine blk_alloc ?_ _)); exact BK1407.out) hb); have n4_ := Aside0.mk (blk_below (g := gb1408) (o := .cells #[.slice none 0 0] 31 (0, 0)) (by (with_reducible repeat (first | refine blk_drewN ?_ _ | refine blk_drew ?_ | refine blk_alloc ?_ _)); exact BK1408.out) hb); have n5_ := Aside0.mk (blk_below (g := gb1409) (o := .cells #[.int .i64 0, .int .i64 0, .int .i64 0, .int .i64 0] 32 (0, 0)) (by (with_reducible repeat (first | refine blk_drewN ?_ _ | refine blk_drew ?_ | refine blk_alloc ?_ _)); exact BK1409.out) hb); have n6_ := Aside0.mk (below_step (by repeat (first | (with_reducible first | exact HB.out | apply below_alloc | apply pw_below_drewN | apply below_drew1 | refine below_set ?_ GE1406.out | refine below_set ?_ GE1407.out | refine below_set ?_ GE1408.out | refine below_set ?_ GE1409.out) | exact HB.out)) hb); clear HO1413; clear BK1406; clear BK1407; clear BK1408; clear BK1409; clear HB; have HO1413 := n0_; have HO1416 := n1_; have BK1406 := n2_; have BK1407 := n3_; have BK1408 := n4_; have BK1409 := n5_; have HB := n6_; clear n0_ n1_ n2_ n3_ n4_ n5_ n6_; (try clear hb); (try clear hb2); (try clear hk); (try clear hi); (try clear ho0); obtain ⟨Ao22, co22, eo22⟩ := Kd.S_slice HO1416.out; subst eo22; have hnb23 := NB1408_1409.out; have hnc23 := NB1409_1408.out; have hcz24_0 : w21.cell? ⟨gb1408, 0, none⟩ = some (.slice none 0 0) := (blk_cell BK1408.out 0).trans rfl; have hfz24_0 := blk_frozen BK1408.out 0; have hcz25_0 : w21.cell? ⟨gb1409, 0, none⟩ = some (.int .i64 0) := (blk_cell BK1409.out 0).trans rfl; have hcz25_1 : w21.cell? ⟨gb1409, 1, none⟩ = some (.int .i64 0) := (blk_cell BK1409.out 1).trans rfl; have hcz25_2 : w21.cell? ⟨gb1409, 2, none⟩ = some (.int .i64 0) := (blk_cell BK1409.out 2).trans rfl; have hcz25_3 : w21.cell? ⟨gb1409, 3, none⟩ = some (.int .i64 0) := (blk_cell BK1409.out 3).trans rfl; have hfz25_0 := blk_frozen BK1409.out 0; have hfz25_1 := blk_frozen BK1409.out 1; have hfz25_2 := blk_frozen BK1409.out 2; have hfz25_3 := blk_frozen BK1409.out 3))
    refine bodyPost_ret (results_list (rs := [.cell 8 31, .cell 9 32, .tmp 10]) rfl (by simp) (.cell gb1408 31 #[.slice Ao22 t1414.length co22] (0, 0) _ rfl (by (with_reducible repeat (first | refine blk_drewN ?_ _ | refine blk_drew ?_ | refine blk_alloc ?_ _)); refine blk_far ?_ NB1408_1409.out _; (with_reducible repeat (first | refine blk_drewN ?_ _ | refine blk_drew ?_ | refine blk_alloc ?_ _)); refine blk_far ?_ NB1408_1409.out _; (with_reducible repeat (first | refine blk_drewN ?_ _ | refine blk_drew ?_ | refine blk_alloc ?_ _)); refine blk_far ?_ NB1408_1409.out _; (with_reducible repeat (first | refine blk_drewN ?_ _ | refine blk_drew ?_ | refine blk_alloc ?_ _)); refine blk_far ?_ NB1408_1409.out _; (with_reducible repeat (first | refine blk_drewN ?_ _ | refine blk_drew ?_ | refine blk_alloc ?_ _)); refine blk_put (cs := #[.slice none 0 0]) ?_ 0 _ rfl; (with_reducible repeat (first | refine blk_drewN ?_ _ | refine blk_drew ?_ | refine blk_alloc ?_ _)); exact BK1408.out) Try.underlying31 rfl (by kernel_rfl) (.cell gb1409 32 #[.int .i64 t1417, .int .i64 t1418, .int .i64 t1419, .int .i64 t1420] (0, 0) _ rfl (by (with_reducible repeat (first | refine blk_drewN ?_ _ | refine blk_drew ?_ | refine blk_alloc ?_ _)); refine blk_put (cs := #[.int .i64 t1417, .int .i64 t1418, .int .i64 t1419, .int .i64 0]) ?_ 3 _ rfl; (with_reducible repeat (first | refine blk_drewN ?_ _ | refine blk_drew ?_ | refine blk_alloc ?_ _)); refine blk_put (cs := #[.int .i64 t1417, .int .i64 t1418, .int .i64 0, .int .i64 0]) ?_ 2 _ rfl; (with_reducible repeat (first | refine blk_drewN ?_ _ | refine blk_drew ?_ | refine blk_alloc ?_ _)); refine blk_put (cs := #[.int .i64 t1417, .int .i64 0, .int .i64 0, .int .i64 0]) ?_ 1 _ rfl; (with_reducible repeat (first | refine blk_drewN ?_ _ | refine blk_drew ?_ | refine blk_alloc ?_ _)); refine blk_put (cs := #[.int .i64 0, .int .i64 0, .int .i64 0, .int .i64 0]) ?_ 0 _ rfl; (with_reducible repeat (first | refine blk_drewN ?_ _ | refine blk_drew ?_ | refine blk_alloc ?_ _)); refine blk_far ?_ NB1409_1408.out _; (with_reducible repeat (first | refine blk_drewN ?_ _ | refine blk_drew ?_ | refine blk_alloc ?_ _)); exact BK1409.out) Try.underlying32 rfl (by kernel_rfl) (.tmp .nil)))) rfl ?_
    exact ⟨_, by first | rfl | (simp [errW_none, errW_some] <;> rfl) | (simp [*, errW_none, errW_some] <;> rfl), by (with_reducible repeat (first | apply Kd.S_alloc | apply Kd.S_drewN | apply Kd.S_drew)); exact Kd.S_mono (Kd.S_far (p := ⟨gb1409, 3, none⟩) (Kd.S_far (p := ⟨gb1409, 2, none⟩) (Kd.S_far (p := ⟨gb1409, 1, none⟩) (Kd.S_far (p := ⟨gb1409, 0, none⟩) (Kd.S_far (p := ⟨gb1408, 0, none⟩) (Kd.S_types (Kd.S_types HO1416.out BK1408.out (by decide)) BK1409.out (by decide)) (fun _ hk => hk.1.2) (.slice Ao22 t1414.length co22)) (fun _ hk => hk.2) (.int .i64 t1417)) (fun _ hk => hk.2) (.int .i64 t1418)) (fun _ hk => hk.2) (.int .i64 t1419)) (fun _ hk => hk.2) (.int .i64 t1420)) (fun _ hk => trivial), by repeat (first | (with_reducible first | exact HB.out | apply below_alloc | apply pw_below_drewN | apply below_drew1 | refine below_set ?_ GE1406.out | refine below_set ?_ GE1407.out | refine below_set ?_ GE1408.out | refine below_set ?_ GE1409.out) | exact HB.out)⟩
  · replace c6 := Bool.eq_false_iff.mpr c6
    subst c6
    have H1 : (some (([] : List (List Int)), 0, 0, 0, 0, false)) = some (r1, r2, r3, r4, r5, r6) := by rw [if_neg (show ¬ (false = true) by decide)] at H; exact H
    clear H
    have H := H1
    clear H1
    simp only [Option.some.injEq, Prod.mk.injEq] at H
    obtain ⟨rfl, rfl, rfl, rfl, rfl, rfl⟩ := H
    go_enter Try.func64, Try.ntmps64
    go_wp2_with (first | ((with_reducible refine gate_dst (N := 4) rfl ?_); refine box_event ?hg (N := 4) ?hd (cs := #[.slice A0_0 l0_0.length c0_0]) (t := 31) ?hr ?_; (case hd => rfl); (case hg => rfl); (case hr => first | (go_simp; done) | (go_simp; rfl)); intro gb1406 hg w26 hbox hb; have n0_ := Aside0.mk (below_step (by repeat (first | (with_reducible first | exact HB.out | apply below_alloc | apply pw_below_drewN | apply below_drew1) | exact HB.out)) hb); have n1_ := Aside0.mk (hbox); have n2_ := Aside0.mk ((by rw [hg]; exact (below_size (by repeat (first | (with_reducible first | exact HB.out | apply below_alloc | apply pw_below_drewN | apply below_drew1) | exact HB.out))) : w.heap.size ≤ gb1406)); have n3_ := Aside0.mk ((by rw [hg]; exact (below_size (by repeat (first | (with_reducible first | exact HB.out | apply below_alloc | apply pw_below_drewN | apply below_drew1) | exact HB.out))) : w.heap.size ≤ gb1406)); clear HB; have HB := n0_; have BK1406 := n1_; have GW1406 := n2_; have GE1406 := n3_; clear n0_ n1_ n2_ n3_; clear hb hbox hg) | ((with_reducible refine gate_dst (N := 5) rfl ?_); refine box_event ?hg (N := 5) ?hd (cs := #[.int .i64 a1_0, .int .i64 a1_1, .int .i64 a1_2, .int .i64 a1_3]) (t := 32) ?hr ?_; (case hd => rfl); (case hg => rfl); (case hr => first | (go_simp; done) | (go_simp; rfl)); intro gb1407 hg w27 hbox hb; have n0_ := Aside0.mk (blk_below (g := gb1406) (o := .cells #[.slice A0_0 l0_0.length c0_0] 31 (0, 0)) (by (with_reducible repeat (first | refine blk_drewN ?_ _ | refine blk_drew ?_ | refine blk_alloc ?_ _)); exact BK1406.out) hb); have n1_ := Aside0.mk (below_step (by repeat (first | (with_reducible first | exact HB.out | apply below_alloc | apply pw_below_drewN | apply below_drew1 | refine below_set ?_ GE1406.out) | exact HB.out)) hb); have n2_ := Aside0.mk (hbox); have n3_ := Aside0.mk ((by rw [hg]; exact (below_size (by repeat (first | (with_reducible first | exact HB.out | apply below_alloc | apply pw_below_drewN | apply below_drew1 | refine below_set ?_ GE1406.out) | exact HB.out))) : w.heap.size ≤ gb1407)); have n4_ := Aside0.mk ((by rw [hg]; exact (below_size (by repeat (first | (with_reducible first | exact HB.out | apply below_alloc | apply pw_below_drewN | apply below_drew1 | refine below_set ?_ GE1406.out) | exact HB.out))) : w.heap.size ≤ gb1407)); have n5_ := Aside0.mk ((by rw [hg]; exact Nat.ne_of_lt (blk_lt (g := gb1406) (o := .cells #[.slice A0_0 l0_0.length c0_0] 31 (0, 0)) (by (with_reducible repeat (first | refine blk_drewN ?_ _ | refine blk_drew ?_ | refine blk_alloc ?_ _)); exact BK1406.out)) : gb1406 ≠ gb1407)); have n6_ := Aside0.mk ((by rw [hg]; exact Nat.ne_of_gt (blk_lt (g := gb1406) (o := .cells #[.slice A0_0 l0_0.length c0_0] 31 (0, 0)) (by (with_reducible repeat (first | refine blk_drewN ?_ _ | refine blk_drew ?_ | refine blk_alloc ?_ _)); exact BK1406.out)) : gb1407 ≠ gb1406)); clear BK1406; clear HB; have BK1406 := n0_; have HB := n1_; have BK1407 := n2_; have GW1407 := n3_; have GE1407 := n4_; have NB1406_1407 := n5_; have NB1407_1406 := n6_; clear n0_ n1_ n2_ n3_ n4_ n5_ n6_; clear hb hbox hg) | ((with_reducible refine gate_dst (N := 8) rfl ?_); refine box_event ?hg (N := 8) ?hd (cs := #[.slice none 0 0]) (t := 31) ?hr ?_; (case hd => rfl); (case hg => rfl); (case hr => first | (go_simp; done) | (go_simp; rfl)); intro gb1408 hg w28 hbox hb; have n0_ := Aside0.mk (blk_below (g := gb1406) (o := .cells #[.slice A0_0 l0_0.length c0_0] 31 (0, 0)) (by (with_reducible repeat (first | refine blk_drewN ?_ _ | refine blk_drew ?_ | refine blk_alloc ?_ _)); exact BK1406.out) hb); have n1_ := Aside0.mk (blk_below (g := gb1407) (o := .cells #[.int .i64 a1_0, .int .i64 a1_1, .int .i64 a1_2, .int .i64 a1_3] 32 (0, 0)) (by (with_reducible repeat (first | refine blk_drewN ?_ _ | refine blk_drew ?_ | refine blk_alloc ?_ _)); exact BK1407.out) hb); have n2_ := Aside0.mk (below_step (by repeat (first | (with_reducible first | exact HB.out | apply below_alloc | apply pw_below_drewN | apply below_drew1 | refine below_set ?_ GE1406.out | refine below_set ?_ GE1407.out) | exact HB.out)) hb); have n3_ := Aside0.mk (hbox); have n4_ := Aside0.mk ((by rw [hg]; exact (below_size (by repeat (first | (with_reducible first | exact HB.out | apply below_alloc | apply pw_below_drewN | apply below_drew1 | refine below_set ?_ GE1406.out | refine below_set ?_ GE1407.out) | exact HB.out))) : w.heap.size ≤ gb1408)); have n5_ := Aside0.mk ((by rw [hg]; exact (below_size (by repeat (first | (with_reducible first | exact HB.out | apply below_alloc | apply pw_below_drewN | apply below_drew1 | refine below_set ?_ GE1406.out | refine below_set ?_ GE1407.out) | exact HB.out))) : w.heap.size ≤ gb1408)); have n6_ := Aside0.mk ((by rw [hg]; exact Nat.ne_of_lt (blk_lt (g := gb1406) (o := .cells #[.slice A0_0 l0_0.length c0_0] 31 (0, 0)) (by (with_reducible repeat (first | refine blk_drewN ?_ _ | refine blk_drew ?_ | refine blk_alloc ?_ _)); exact BK1406.out)) : gb1406 ≠ gb1408)); have n7_ := Aside0.mk ((by rw [hg]; exact Nat.ne_of_gt (blk_lt (g := gb1406) (o := .cells #[.slice A0_0 l0_0.length c0_0] 31 (0, 0)) (by (with_reducible repeat (first | refine blk_drewN ?_ _ | refine blk_drew ?_ | refine blk_alloc ?_ _)); exact BK1406.out)) : gb1408 ≠ gb1406)); have n8_ := Aside0.mk ((by rw [hg]; exact Nat.ne_of_lt (blk_lt (g := gb1407) (o := .cells #[.int .i64 a1_0, .int .i64 a1_1, .int .i64 a1_2, .int .i64 a1_3] 32 (0, 0)) (by (with_reducible repeat (first | refine blk_drewN ?_ _ | refine blk_drew ?_ | refine blk_alloc ?_ _)); exact BK1407.out)) : gb1407 ≠ gb1408)); have n9_ := Aside0.mk ((by rw [hg]; exact Nat.ne_of_gt (blk_lt (g := gb1407) (o := .cells #[.int .i64 a1_0, .int .i64 a1_1, .int .i64 a1_2, .int .i64 a1_3] 32 (0, 0)) (by (with_reducible repeat (first | refine blk_drewN ?_ _ | refine blk_drew ?_ | refine blk_alloc ?_ _)); exact BK1407.out)) : gb1408 ≠ gb1407)); clear BK1406; clear BK1407; clear HB; have BK1406 := n0_; have BK1407 := n1_; have HB := n2_; have BK1408 := n3_; have GW1408 := n4_; have GE1408 := n5_; have NB1406_1408 := n6_; have NB1408_1406 := n7_; have NB1407_1408 := n8_; have NB1408_1407 := n9_; clear n0_ n1_ n2_ n3_ n4_ n5_ n6_ n7_ n8_ n9_; clear hb hbox hg) | ((with_reducible refine gate_dst (N := 9) rfl ?_); refine box_event ?hg (N := 9) ?hd (cs := #[.int .i64 0, .int .i64 0, .int .i64 0, .int .i64 0]) (t := 32) ?hr ?_; (case hd => rfl); (case hg => rfl); (case hr => first | (go_simp; done) | (go_simp; rfl)); intro gb1409 hg w29 hbox hb; have n0_ := Aside0.mk (blk_below (g := gb1406) (o := .cells #[.slice A0_0 l0_0.length c0_0] 31 (0, 0)) (by (with_reducible repeat (first | refine blk_drewN ?_ _ | refine blk_drew ?_ | refine blk_alloc ?_ _)); exact BK1406.out) hb); have n1_ := Aside0.mk (blk_below (g := gb1407) (o := .cells #[.int .i64 a1_0, .int .i64 a1_1, .int .i64 a1_2, .int .i64 a1_3] 32 (0, 0)) (by (with_reducible repeat (first | refine blk_drewN ?_ _ | refine blk_drew ?_ | refine blk_alloc ?_ _)); exact BK1407.out) hb); have n2_ := Aside0.mk (blk_below (g := gb1408) (o := .cells #[.slice none 0 0] 31 (0, 0)) (by (with_reducible repeat (first | refine blk_drewN ?_ _ | refine blk_drew ?_ | refine blk_alloc ?_ _)); exact BK1408.out) hb); have n3_ := Aside0.mk (below_step (by repeat (first | (with_reducible first | exact HB.out | apply below_alloc | apply pw_below_drewN | apply below_drew1 | refine below_set ?_ GE1406.out | refine below_set ?_ GE1407.out | refine below_set ?_ GE1408.out) | exact HB.out)) hb); have n4_ := Aside0.mk (hbox); have n5_ := Aside0.mk ((by rw [hg]; exact (below_size (by repeat (first | (with_reducible first | exact HB.out | apply below_alloc | apply pw_below_drewN | apply below_drew1 | refine below_set ?_ GE1406.out | refine below_set ?_ GE1407.out | refine below_set ?_ GE1408.out) | exact HB.out))) : w.heap.size ≤ gb1409)); have n6_ := Aside0.mk ((by rw [hg]; exact (below_size (by repeat (first | (with_reducible first | exact HB.out | apply below_alloc | apply pw_below_drewN | apply below_drew1 | refine below_set ?_ GE1406.out | refine below_set ?_ GE1407.out | refine below_set ?_ GE1408.out) | exact HB.out))) : w.heap.size ≤ gb1409)); have n7_ := Aside0.mk ((by rw [hg]; exact Nat.ne_of_lt (blk_lt (g := gb1406) (o := .cells #[.slice A0_0 l0_0.length c0_0] 31 (0, 0)) (by (with_reducible repeat (first | refine blk_drewN ?_ _ | refine blk_drew ?_ | refine blk_alloc ?_ _)); exact BK1406.out)) : gb1406 ≠ gb1409)); have n8_ := Aside0.mk ((by rw [hg]; exact Nat.ne_of_gt (blk_lt (g := gb1406) (o := .cells #[.slice A0_0 l0_0.length c0_0] 31 (0, 0)) (by (with_reducible repeat (first | refine blk_drewN ?_ _ | refine blk_drew ?_ | refine blk_alloc ?_ _)); exact BK1406.out)) : gb1409 ≠ gb1406)); have n9_ := Aside0.mk ((by rw [hg]; exact Nat.ne_of_lt (blk_lt (g := gb1407) (o := .cells #[.int .i64 a1_0, .int .i64 a1_1, .int .i64 a1_2, .int .i64 a1_3] 32 (0, 0)) (by (with_reducible repeat (first | refine blk_drewN ?_ _ | refine blk_drew ?_ | refine blk_alloc ?_ _)); exact BK1407.out)) : gb1407 ≠ gb1409)); have n10_ := Aside0.mk ((by rw [hg]; exact Nat.ne_of_gt (blk_lt (g := gb1407) (o := .cells #[.int .i64 a1_0, .int .i64 a1_1, .int .i64 a1_2, .int .i64 a1_3] 32 (0, 0)) (by (with_reducible repeat (first | refine blk_drewN ?_ _ | refine blk_drew ?_ | refine blk_alloc ?_ _)); exact BK1407.out)) : gb1409 ≠ gb1407)); have n11_ := Aside0.mk ((by rw [hg]; exact Nat.ne_of_lt (blk_lt (g := gb1408) (o := .cells #[.slice none 0 0] 31 (0, 0)) (by (with_reducible repeat (first | refine blk_drewN ?_ _ | refine blk_drew ?_ | refine blk_alloc ?_ _)); exact BK1408.out)) : gb1408 ≠ gb1409)); have n12_ := Aside0.mk ((by rw [hg]; exact Nat.ne_of_gt (blk_lt (g := gb1408) (o := .cells #[.slice none 0 0] 31 (0, 0)) (by (with_reducible repeat (first | refine blk_drewN ?_ _ | refine blk_drew ?_ | refine blk_alloc ?_ _)); exact BK1408.out)) : gb1409 ≠ gb1408)); clear BK1406; clear BK1407; clear BK1408; clear HB; have BK1406 := n0_; have BK1407 := n1_; have BK1408 := n2_; have HB := n3_; have BK1409 := n4_; have GW1409 := n5_; have GE1409 := n6_; have NB1406_1409 := n7_; have NB1409_1406 := n8_; have NB1407_1409 := n9_; have NB1409_1407 := n10_; have NB1408_1409 := n11_; have NB1409_1408 := n12_; clear n0_ n1_ n2_ n3_ n4_ n5_ n6_ n7_ n8_ n9_ n10_ n11_ n12_; clear hb hbox hg) | ((with_reducible refine gate_callee (f := 108) rfl ?_); refine goesL_ (some 16) rfl rfl Try.func108 (by kernel_rfl) rfl #[.int .u8 a2, .slice A3 l3.length c3] rfl (by (try simp only [List.map_toArray, List.map_cons, List.map_nil]); first | done | rfl | (simp only [List.length_drop, List.length_take]; rfl)) ?_; (with_reducible refine (impl_EncodeFrame.calls k a2 _ _ l3 t1410 false _ ?side1 ?side2 A5.out).mono ?_); (case side1 => repeat (first | exact (Kd.C_below HR3.out HB.out) | (with_reducible refine Kd.C_alloc ?_ _) | (with_reducible refine Kd.C_drewN ?_ _) | (with_reducible refine Kd.C_drew ?_))); (case side2 => exact HC3.out); rintro e w30 ⟨v1412, rfl, ho0, hb⟩; refine ⟨_, rfl, ?_⟩; have n0_ := Aside0.mk (Kd.R_lower ho0 (below_size (by repeat (first | (with_reducible first | exact HB.out | apply below_alloc | apply pw_below_drewN | apply below_drew1 | refine below_set ?_ GE1406.out | refine below_set ?_ GE1407.out | refine below_set ?_ GE1408.out | refine below_set ?_ GE1409.out) | exact HB.out)))); have n1_ := Aside0.mk (blk_below (g := gb1406) (o := .cells #[.slice A0_0 l0_0.length c0_0] 31 (0, 0)) (by (with_reducible repeat (first | refine blk_drewN ?_ _ | refine blk_drew ?_ | refine blk_alloc ?_ _)); exact BK1406.out) hb); have n2_ := Aside0.mk (blk_below (g := gb1407) (o := .cells #[.int .i64 a1_0, .int .i64 a1_1, .int .i64 a1_2, .int .i64 a1_3] 32 (0, 0)) (by (with_reducible repeat (first | refine blk_drewN ?_ _ | refine blk_drew ?_ | refine blk_alloc ?_ _)); exact BK1407.out) hb); have n3_ := Aside0.mk (blk_below (g := gb1408) (o := .cells #[.slice none 0 0] 31 (0, 0)) (by (with_reducible repeat (first | refine blk_drewN ?_ _ | refine blk_drew ?_ | refine blk_alloc ?_ _)); exact BK1408.out) hb); have n4_ := Aside0.mk (blk_below (g := gb1409) (o := .cells #[.int .i64 0, .int .i64 0, .int .i64 0, .int .i64 0] 32 (0, 0)) (by (with_reducible repeat (first | refine blk_drewN ?_ _ | refine blk_drew ?_ | refine blk_alloc ?_ _)); exact BK1409.out) hb); have n5_ := Aside0.mk (below_step (by repeat (first | (with_reducible first | exact HB.out | apply below_alloc | apply pw_below_drewN | apply below_drew1 | refine below_set ?_ GE1406.out | refine below_set ?_ GE1407.out | refine below_set ?_ GE1408.out | refine below_set ?_ GE1409.out) | exact HB.out)) hb); clear BK1406; clear BK1407; clear BK1408; clear BK1409; clear HB; have HO1413 := n0_; have BK1406 := n1_; have BK1407 := n2_; have BK1408 := n3_; have BK1409 := n4_; have HB := n5_; clear n0_ n1_ n2_ n3_ n4_ n5_; (try clear hb); (try clear hb2); (try clear hk); (try clear hi); (try clear ho0); have hnb31 := NB1408_1406.out; have hnc31 := NB1406_1408.out; have hnb32 := NB1408_1407.out; have hnc32 := NB1407_1408.out; have hnb33 := NB1408_1409.out; have hnc33 := NB1409_1408.out; have hcz34_0 : w30.cell? ⟨gb1408, 0, none⟩ = some (.slice none 0 0) := (blk_cell BK1408.out 0).trans rfl; have hfz34_0 := blk_frozen BK1408.out 0; have hnb35 := NB1409_1406.out; have hnc35 := NB1406_1409.out; have hnb36 := NB1409_1407.out; have hnc36 := NB1407_1409.out; have hcz37_0 : w30.cell? ⟨gb1409, 0, none⟩ = some (.int .i64 0) := (blk_cell BK1409.out 0).trans rfl; have hcz37_1 : w30.cell? ⟨gb1409, 1, none⟩ = some (.int .i64 0) := (blk_cell BK1409.out 1).trans rfl; have hcz37_2 : w30.cell? ⟨gb1409, 2, none⟩ = some (.int .i64 0) := (blk_cell BK1409.out 2).trans rfl; have hcz37_3 : w30.cell? ⟨gb1409, 3, none⟩ = some (.int .i64 0) := (blk_cell BK1409.out 3).trans rfl; have hfz37_0 := blk_frozen BK1409.out 0; have hfz37_1 := blk_frozen BK1409.out 1; have hfz37_2 := blk_frozen BK1409.out 2; have hfz37_3 := blk_frozen BK1409.out 3))
    refine bodyPost_ret (results_list (rs := [.cell 8 31, .cell 9 32, .tmp 10]) rfl (by simp) (.cell gb1408 31 #[.slice none 0 0] (0, 0) _ rfl (by (with_reducible repeat (first | refine blk_drewN ?_ _ | refine blk_drew ?_ | refine blk_alloc ?_ _)); refine blk_far ?_ NB1408_1409.out _; (with_reducible repeat (first | refine blk_drewN ?_ _ | refine blk_drew ?_ | refine blk_alloc ?_ _)); refine blk_far ?_ NB1408_1409.out _; (with_reducible repeat (first | refine blk_drewN ?_ _ | refine blk_drew ?_ | refine blk_alloc ?_ _)); refine blk_far ?_ NB1408_1409.out _; (with_reducible repeat (first | refine blk_drewN ?_ _ | refine blk_drew ?_ | refine blk_alloc ?_ _)); refine blk_far ?_ NB1408_1409.out _; (with_reducible repeat (first | refine blk_drewN ?_ _ | refine blk_drew ?_ | refine blk_alloc ?_ _)); refine blk_put (cs := #[.slice none 0 0]) ?_ 0 _ rfl; (with_reducible repeat (first | refine blk_drewN ?_ _ | refine blk_drew ?_ | refine blk_alloc ?_ _)); exact BK1408.out) Try.underlying31 rfl (by kernel_rfl) (.cell gb1409 32 #[.int .i64 0, .int .i64 0, .int .i64 0, .int .i64 0] (0, 0) _ rfl (by (with_reducible repeat (first | refine blk_drewN ?_ _ | refine blk_drew ?_ | refine blk_alloc ?_ _)); refine blk_put (cs := #[.int .i64 0, .int .i64 0, .int .i64 0, .int .i64 0]) ?_ 3 _ rfl; (with_reducible repeat (first | refine blk_drewN ?_ _ | refine blk_drew ?_ | refine blk_alloc ?_ _)); refine blk_put (cs := #[.int .i64 0, .int .i64 0, .int .i64 0, .int .i64 0]) ?_ 2 _ rfl; (with_reducible repeat (first | refine blk_drewN ?_ _ | refine blk_drew ?_ | refine blk_alloc ?_ _)); refine blk_put (cs := #[.int .i64 0, .int .i64 0, .int .i64 0, .int .i64 0]) ?_ 1 _ rfl; (with_reducible repeat (first | refine blk_drewN ?_ _ | refine blk_drew ?_ | refine blk_alloc ?_ _)); refine blk_put (cs := #[.int .i64 0, .int .i64 0, .int .i64 0, .int .i64 0]) ?_ 0 _ rfl; (with_reducible repeat (first | refine blk_drewN ?_ _ | refine blk_drew ?_ | refine blk_alloc ?_ _)); refine blk_far ?_ NB1409_1408.out _; (with_reducible repeat (first | refine blk_drewN ?_ _ | refine blk_drew ?_ | refine blk_alloc ?_ _)); exact BK1409.out) Try.underlying32 rfl (by kernel_rfl) (.tmp .nil)))) rfl ?_
    exact ⟨_, by first | rfl | (simp [errW_none, errW_some] <;> rfl) | (simp [*, errW_none, errW_some] <;> rfl), by first | exact Kd.S_nil _ _ _ _ _ | exact Kd.N_nil _ _ _ _ _ | exact Kd.V_nil _ _ _ _ _ | exact Kd.Q_nil _ _ _ _ _ | exact Kd.R_nil _ _ _ _ _, by repeat (first | (with_reducible first | exact HB.out | apply below_alloc | apply pw_below_drewN | apply below_drew1 | refine below_set ?_ GE1406.out | refine below_set ?_ GE1407.out | refine below_set ?_ GE1408.out | refine below_set ?_ GE1409.out) | exact HB.out)⟩

end Go.Proofs.Ytaieobidkmihkaa.P


namespace Go.Proofs.Ytaieobidkmihkaa.P
open Go.RowKit Go.Proofs.YtaieobidkmihkaaW.PrintWords Go.Proofs.YtaieobidkmihkaaW.PrintLast Go.Proofs.YtaieobidkmihkaaW.PrintMore
attribute [local go_sem] max2_int min2_int max_two min_two max_three min_three max_four min_four   -- for this text's walks alone
set_option linter.unusedVariables false
set_option linter.unusedSimpArgs false

/-! ### spec_l9Check: function 128 -/
def spec_l9Check.l0 : Nat → List Int → Int → Int → Option (Int)
  | 0, _, _, _ => none
  | k + 1, x0, x3, x4 => if x4 < (x0.length : Int) then (if 0 ≤ x4 then (spec_l9Check.l0 k x0 (Go.bits .xor .u8 x3 (rd x0 x4)) (wrap64 (x4 + 1))) else (none)) else (some x3)
def spec_l9Check.f (k : Nat) (l0 : List Int) : Option (Int) := spec_l9Check.l0 k l0 0 0
set_option maxHeartbeats 8000000 in
set_option maxRecDepth 100000 in
theorem spec_l9Check.calls (k : Nat) (A0 : Option Addr) (c0 : Nat) (l0 : List Int) (r : Int) (w : World) (hr0 : Kd.C (Kd.int .u8) w A0 l0.length l0) (hc0 : l0.length ≤ c0) (h : spec_l9Check.f k l0 = some r) :
    Calls Try.prog 128 #[.slice A0 l0.length c0] w fun e w' => e = .returned (.int .u8 r) ∧ Drawn0 w w' := by
  have HR0 := Aside0.mk hr0
  have HC0 := Aside0.mk hc0
  clear hr0 hc0
  have H : (spec_l9Check.l0 k l0 0 0) = some r := h
  clear h
  have H' := Aside0.mk H
  clear H
  go_enter Try.func128, Try.ntmps128
  go_wp2
  go_loopg [3, 4] k (fun kq v3 v4 w' => ∃ (x3_1 : Int) (x4_1 : Int), v3 = .int .u8 x3_1 ∧ v4 = .int .i64 x4_1 ∧ Aside0 (spec_l9Check.l0 kq l0 x3_1 x4_1 = some r) ∧ Aside0 (kq ≤ k) ∧ Drawn0 w w')
  case atStart => exact ⟨(0), (0), (by first | rfl | (simp; done) | (simp [*]; done)), (by first | rfl | (simp; done) | (simp [*]; done)), H', ⟨Nat.le_refl _⟩, by repeat (first | exact Drawn0.refl _ | apply Drawn0.step)⟩
  case round =>
    clear H'
    try clear c1
    obtain ⟨x3_1, x4_1, rfl, rfl, HA, HK1, ⟨m1, rfl⟩⟩ := hrel
    cases gk with
    | zero => exact absurd HA.out (by simp [spec_l9Check.l0])
    | succ k1 =>
      have H := HA.out
      clear HA
      simp only [spec_l9Check.l0] at H
      by_cases c2 : x4_1 < (l0.length : Int)
      · rw [if_pos c2] at H
        have c2b0 : decide (x4_1 < (l0.length : Int)) = true := decide_eq_true c2
        clear c2
        by_cases c3 : 0 ≤ x4_1
        · rw [if_pos c3] at H
          have c3b0 : decide (0 ≤ x4_1) = true := decide_eq_true c3
          clear c3
          have H' := Aside0.mk H
          clear H
          have p1331 : 0 ≤ (x4_1 : Int) := of_decide_eq_true (by first | (with_reducible assumption) | assumption)
          have q1331 : x4_1 < (l0.length : Int) := of_decide_eq_true (by first | (with_reducible assumption) | assumption)
          obtain ⟨ad1331, e1331, hx1331_0⟩ := Kd.at_int HR0.out x4_1 p1331 q1331
          cases e1331
          replace p1331 := eq_true p1331
          replace q1331 := eq_true q1331
          go_wp2
          go_roundg k1
          case measure => have := HK1.out; omega
          case rel => exact ⟨(Go.bits .xor .u8 x3_1 (rd l0 x4_1)), (wrap64 (x4_1 + 1)), (by first | rfl | (simp; done) | (simp [*]; done)), (by first | rfl | (simp; done) | (simp [*]; done)), H', ⟨by have := HK1.out; omega⟩, by repeat (first | exact Drawn0.refl _ | apply Drawn0.step)⟩
        · rw [if_neg c3] at H
          exact absurd H (by simp)
      · rw [if_neg c2] at H
        have c2b0 : decide (x4_1 < (l0.length : Int)) = false := decide_eq_false c2
        clear c2
        obtain rfl := Option.some.inj H
        go_wp2
        go_ret
        exact ⟨by first | rfl | (simp; done) | (simp [*]; done), by repeat (first | exact Drawn0.refl _ | apply Drawn0.step)⟩

end Go.Proofs.Ytaieobidkmihkaa.P


namespace Go.Proofs.Ytaieobidkmihkaa.P
open Go.RowKit Go.Proofs.YtaieobidkmihkaaW.PrintWords Go.Proofs.YtaieobidkmihkaaW.PrintLast Go.Proofs.YtaieobidkmihkaaW.PrintMore
attribute [local go_sem] max2_int min2_int max_two min_two max_three min_three max_four min_four   -- for this text's walks alone
set_option linter.unusedVariables false
set_option linter.unusedSimpArgs false

/-! ### spec_EncodeFrame: function 107 -/
def spec_EncodeFrame.f (k : Nat) (a0 : Int) (l1 : List Int) : Option (List Int × Bool) := if (l1.length : Int) > 30 then (some ((([] : List Int)), false)) else ((some (([a0, ((l1.length : Int)) % 256] : List Int) : List Int)).bind fun y1335 => (if y1335.length + l1.length < 140737488355328 then ((some (y1335 ++ l1 : List Int)).bind fun y1338 => ((spec_l9Check.f k y1338).bind fun t1341 => (if y1338.length < 140737488355328 then (some ((y1338 ++ [t1341]), true)) else (none)))) else (none)))
set_option maxHeartbeats 8000000 in
set_option maxRecDepth 100000 in
theorem spec_EncodeFrame.calls (k : Nat) (a0 : Int) (A1 : Option Addr) (c1 : Nat) (l1 : List Int) (r1 : List Int) (r2 : Bool) (w : World) (hr1 : Kd.C (Kd.int .u8) w A1 l1.length l1) (hc1 : l1.length ≤ c1) (h : spec_EncodeFrame.f k a0 l1 = some (r1, r2)) :
    Calls Try.prog 107 #[.int .u8 a0, .slice A1 l1.length c1] w fun e w' => ∃ v0_ : Value, e = .returned (.tuple #[v0_, .bool r2]) ∧ Kd.R (Kd.int .u8) 5 w' w.heap.size (fun _ => True) v0_ r1 ∧ Below w.heap.size w w' := by
  have HR1 := Aside0.mk hr1
  have HC1 := Aside0.mk hc1
  clear hr1 hc1
  have HB := Aside0.mk (Below.refl w.heap.size w)
  have H : (if (l1.length : Int) > 30 then (some ((([] : List Int)), false)) else ((some (([a0, ((l1.length : Int)) % 256] : List Int) : List Int)).bind fun y1335 => (if y1335.length + l1.length < 140737488355328 then ((some (y1335 ++ l1 : List Int)).bind fun y1338 => ((spec_l9Check.f k y1338).bind fun t1341 => (if y1338.length < 140737488355328 then (some ((y1338 ++ [t1341]), true)) else (none)))) else (none)))) = some (r1, r2) := h
  clear h
  by_cases c3 : (l1.length : Int) > 30
  · rw [if_pos c3] at H
    have c3b0 : decide (30 < (l1.length : Int)) = true := decide_eq_true c3
    have c3b1 : decide (30 < l1.length) = true := decide_eq_true (by omega)
    clear c3
    obtain ⟨y1332, hy1332⟩ : ∃ y_ : List Int, y_ = (([] : List Int)) := ⟨_, rfl⟩
    replace H : (some (y1332, false)) = some (r1, r2) := by first | (rw [hy1332]; with_reducible exact H) | (have H2_ := (Option.bind_some _ _).symm.trans H; rw [hy1332]; with_reducible exact H2_) | (have H2_ := (Option.bind_some _ _).symm.trans H; with_reducible exact H2_) | with_reducible exact H | (rw [hy1332]; exact H) | exact H
    have Ny1332 := Aside0.mk hy1332
    clear hy1332
    simp only [Option.some.injEq, Prod.mk.injEq] at H
    obtain ⟨rfl, rfl⟩ := H
    go_enter Try.func107, Try.ntmps107
    go_wp2_with (first | ((with_reducible refine gate_dst (N := 10) rfl ?_); refine Kd.R_lit (Kd.int .u8) _ 5 ?hg (N := 10) ?hd (xs := ([] : List Int)) (inner := []) (ok := fun _ => True) (okp := fun _ => True) ?hr ?hp (fun _ hk => hk) trivial (Below.refl _ _) (Nat.le_refl _) (by simp) ?_; (case hd => rfl); (case hg => rfl); (case hr => first | (go_simp; done) | (go_simp; rfl)); (case hp => exact (Reps.none _ _)); intro v1333 w4 ho5 hb hg_ hnew_; clear hg_ hnew_; (first | rw [← Ny1332.out] at ho5 | (simp only [Int.reduceToNat] at ho5; rw [← Ny1332.out] at ho5)); have n0_ := Aside0.mk (Kd.R_lower ho5 (below_size (by repeat (first | (with_reducible first | exact HB.out | apply below_alloc | apply pw_below_drewN | apply below_drew1) | exact HB.out)))); have n1_ := Aside0.mk (below_step (by repeat (first | (with_reducible first | exact HB.out | apply below_alloc | apply pw_below_drewN | apply below_drew1) | exact HB.out)) hb); clear HB; have HO1334 := n0_; have HB := n1_; clear n0_ n1_; clear hb ho5))
    go_ret2
    exact ⟨_, by first | rfl | (simp [errW_none, errW_some] <;> rfl) | (simp [*, errW_none, errW_some] <;> rfl), by (with_reducible repeat (first | apply Kd.R_alloc | apply Kd.R_drewN | apply Kd.R_drew)); exact HO1334.out, by repeat (first | (with_reducible first | exact HB.out | apply below_alloc | apply pw_below_drewN | apply below_drew1) | exact HB.out)⟩
  · rw [if_neg c3] at H
    have c3b0 : decide (30 < (l1.length : Int)) = false := decide_eq_false c3
    have c3b1 : decide (30 < l1.length) = false := decide_eq_false (by omega)
    clear c3
    obtain ⟨y1335, hy1335⟩ : ∃ y_ : List Int, y_ = (([a0, ((l1.length : Int)) % 256] : List Int)) := ⟨_, rfl⟩
    replace H : (if y1335.length + l1.length < 140737488355328 then ((some (y1335 ++ l1 : List Int)).bind fun y1338 => ((spec_l9Check.f k y1338).bind fun t1341 => (if y1338.length < 140737488355328 then (some ((y1338 ++ [t1341]), true)) else (none)))) else (none)) = some (r1, r2) := by first | (rw [hy1335]; with_reducible exact H) | (have H2_ := (Option.bind_some _ _).symm.trans H; rw [hy1335]; with_reducible exact H2_) | (have H2_ := (Option.bind_some _ _).symm.trans H; with_reducible exact H2_) | with_reducible exact H | (rw [hy1335]; exact H) | exact H
    have Ny1335 := Aside0.mk hy1335
    clear hy1335
    by_cases c6 : y1335.length + l1.length < 140737488355328
    · rw [if_pos c6] at H
      have LMc6 := Aside0.mk c6
      clear c6
      obtain ⟨y1338, hy1338⟩ : ∃ y_ : List Int, y_ = (y1335 ++ l1) := ⟨_, rfl⟩
      replace H : ((spec_l9Check.f k y1338).bind fun t1341 => (if y1338.length < 140737488355328 then (some ((y1338 ++ [t1341]), true)) else (none))) = some (r1, r2) := by first | (rw [hy1338]; with_reducible exact H) | (have H2_ := (Option.bind_some _ _).symm.trans H; rw [hy1338]; with_reducible exact H2_) | (have H2_ := (Option.bind_some _ _).symm.trans H; with_reducible exact H2_) | with_reducible exact H | (rw [hy1338]; exact H) | exact H
      have Ny1338 := Aside0.mk hy1338
      clear hy1338
      replace H := Option.bind_eq_some_iff.mp H
      obtain ⟨t1341, A70, H⟩ := H
      replace H : (if y1338.length < 140737488355328 then (some ((y1338 ++ [t1341]), true)) else (none)) = some (r1, r2) := H
      have A7 := Aside0.mk A70
      clear A70
      by_cases c8 : y1338.length < 140737488355328
      · rw [if_pos c8] at H
        have LMc8 := Aside0.mk c8
        clear c8
        obtain ⟨y1342, hy1342⟩ : ∃ y_ : List Int, y_ = (y1338 ++ [t1341]) := ⟨_, rfl⟩
        replace H : (some (y1342, true)) = some (r1, r2) := by first | (rw [hy1342]; with_reducible exact H) | (have H2_ := (Option.bind_some _ _).symm.trans H; rw [hy1342]; with_reducible exact H2_) | (have H2_ := (Option.bind_some _ _).symm.trans H; with_reducible exact H2_) | with_reducible exact H | (rw [hy1342]; exact H) | exact H
        have Ny1342 := Aside0.mk hy1342
        clear hy1342
        simp only [Option.some.injEq, Prod.mk.injEq] at H
        obtain ⟨rfl, rfl⟩ := H
        go_enter Try.func107, Try.ntmps107
        go_wp2_with (first | ((with_reducible refine gate_dst (N := 15) rfl ?_); refine Kd.R_lit (Kd.int .u8) _ 5 ?hg (N := 15) ?hd (xs := ([a0, ((l1.length : Int)) % 256] : List Int)) (inner := [.int .u8 a0, .int .u8 (((l1.length : Int)) % 256)]) (ok := fun _ => True) (okp := fun _ => True) ?hr ?hp (fun _ hk => hk) trivial (Below.refl _ _) (Nat.le_refl _) (by simp) ?_; (case hd => rfl); (case hg => rfl); (case hr => first | (go_simp; done) | (go_simp; rfl)); (case hp => exact (Reps.one (show Kd.M (Kd.int .u8) _ _ _ a0 [.int .u8 a0] from rfl) (Reps.one (show Kd.M (Kd.int .u8) _ _ _ (((l1.length : Int)) % 256) [.int .u8 (((l1.length : Int)) % 256)] from rfl) (Reps.none _ _)))); intro v1336 w9 ho10 hb hg_ hnew_; clear hg_ hnew_; (first | rw [← Ny1335.out] at ho10 | (simp only [Int.reduceToNat] at ho10; rw [← Ny1335.out] at ho10)); have n0_ := Aside0.mk (Kd.R_lower ho10 (below_size (by repeat (first | (with_reducible first | exact HB.out | apply below_alloc | apply pw_below_drewN | apply below_drew1) | exact HB.out)))); have n1_ := Aside0.mk (below_step (by repeat (first | (with_reducible first | exact HB.out | apply below_alloc | apply pw_below_drewN | apply below_drew1) | exact HB.out)) hb); clear HB; have HO1337 := n0_; have HB := n1_; clear n0_ n1_; clear hb ho10) | ((with_reducible refine gate_builtin (b := .append) (xs := #[.tmp 15, .tmp 16]) rfl ?_); at_builtin; refine Kd.R_append_rows (Kd.int .u8) (w0 := w) w.heap.size rfl (.tmp 15) (.tmp 16) 29 5 (.int .u8 0) 1 rfl Try.underlying29 info5 rfl (by decide) (by omega) v1336 y1335 l1 _ _ _ (fun _ => True) (fun _ => False) rfl rfl ?aO ?aR (fun _ _ h => h) (fun _ h => h.elim) ?aF ?aB ?aS ?aL ?_; (case aR => repeat (first | exact (Kd.C_below HR1.out HB.out) | (with_reducible refine Kd.C_alloc ?_ _) | (with_reducible refine Kd.C_drewN ?_ _) | (with_reducible refine Kd.C_drew ?_))); (case aB => exact (by repeat (first | (with_reducible first | exact HB.out | apply below_alloc | apply pw_below_drewN | apply below_drew1) | exact HB.out))); (case aF => exact (fun _ _ => trivial)); (case aO => exact (by (with_reducible repeat (first | apply Kd.R_alloc | apply Kd.R_drewN | apply Kd.R_drew)); exact HO1337.out)); (case aS => exact (below_size (by repeat (first | (with_reducible first | exact HB.out | apply below_alloc | apply pw_below_drewN | apply below_drew1) | exact HB.out)))); (case aL => have := LMc6.out; omega); intro v1339 w11 ho hb hg hat; rw [← Ny1338.out] at ho; have n0_ := Aside0.mk (hb); have n1_ := Aside0.mk (ho); clear HB; clear HO1337; have HB := n0_; have HO1340 := n1_; clear n0_ n1_; clear ho hb hg hat; obtain ⟨Ao12, co12, eo12⟩ := Kd.R_slice HO1340.out; subst eo12) | ((with_reducible refine gate_callee (f := 128) rfl ?_); refine goesL_ (some 20) rfl rfl Try.func128 (by kernel_rfl) rfl #[.slice Ao12 y1338.length co12] rfl (by (try simp only [List.map_toArray, List.map_cons, List.map_nil]); first | done | rfl | (simp only [List.length_drop, List.length_take]; rfl)) ?_; (with_reducible refine (spec_l9Check.calls k _ _ y1338 t1341 _ ?side1 ?side2 A7.out).mono ?_); (case side1 => repeat (first | exact (Kd.R_reads' HO1340.out).2.2 | (with_reducible refine Kd.C_alloc ?_ _) | (with_reducible refine Kd.C_drewN ?_ _) | (with_reducible refine Kd.C_drew ?_))); (case side2 => exact (Kd.R_reads' HO1340.out).2.1); rintro e w' ⟨rfl, ⟨nd, rfl⟩⟩; refine ⟨_, rfl, ?_⟩) | ((with_reducible refine gate_builtin (b := .append) (xs := #[.tmp 18, .tmp 21]) rfl ?_); at_builtin; refine Kd.R_append (Kd.int .u8) (w0 := w) w.heap.size rfl (.tmp 18) (.tmp 21) 29 5 (.int .u8 0) 1 rfl Try.underlying29 info5 rfl (by decide) (by omega) (.slice Ao12 y1338.length co12) y1338 t1341 [.int .u8 t1341] (fun _ => True) (fun _ => False) rfl rfl ?aP (fun _ hk => hk.elim) ?aF ?aO ?aB ?aS ?aL ?_; (case aP => exact rfl); (case aB => exact (by repeat (first | (with_reducible first | exact HB.out | apply below_alloc | apply pw_below_drewN | apply below_drew1) | exact HB.out))); (case aF => exact (fun _ _ => trivial)); (case aO => exact (by (with_reducible repeat (first | apply Kd.R_alloc | apply Kd.R_drewN | apply Kd.R_drew)); exact HO1340.out)); (case aS => exact (below_size (by repeat (first | (with_reducible first | exact HB.out | apply below_alloc | apply pw_below_drewN | apply below_drew1) | exact HB.out)))); (case aL => have := LMc8.out; omega); intro v1343 w13 ho hb hg hat; rw [← Ny1342.out] at ho; have n0_ := Aside0.mk (hb); have n1_ := Aside0.mk (ho); clear HB; clear HO1340; have HB := n0_; have HO1344 := n1_; clear n0_ n1_; clear ho hb hg hat))
        go_ret2
        exact ⟨_, by first | rfl | (simp [errW_none, errW_some] <;> rfl) | (simp [*, errW_none, errW_some] <;> rfl), by (with_reducible repeat (first | apply Kd.R_alloc | apply Kd.R_drewN | apply Kd.R_drew)); exact HO1344.out, by repeat (first | (with_reducible first | exact HB.out | apply below_alloc | apply pw_below_drewN | apply below_drew1) | exact HB.out)⟩
      · rw [if_neg c8] at H
        exact absurd H (by simp)
    · rw [if_neg c6] at H
      exact absurd H (by simp)

end Go.Proofs.Ytaieobidkmihkaa.P


