/- Part 5 of the proof of the law FnExactWidenGap: contracts of the functions that it reaches. -/
import Derived.Test.YtoomjghabiojkaaQFnExactWidenGap4
namespace Go.Proofs.Ytoomjghabiojkaa.P
open Go.RowKit Go.Proofs.YtoomjghabiojkaaW.PrintWords Go.Proofs.YtoomjghabiojkaaW.PrintLast Go.Proofs.YtoomjghabiojkaaW.PrintMore
attribute [local go_sem] max2_int min2_int max_two min_two max_three min_three max_four min_four   -- for this text's walks alone
set_option linter.unusedVariables false
set_option linter.unusedSimpArgs false

def spec_l2New.f (k : Nat) (l0_0 : List (List Int)) (l1 : List Int) (a2 : Int) : Option ((List (List Int)) × Int × Int × Int × Int) := (spec_l2Own.f k l0_0).bind fun t1223 => ((some (([] : List Int) : List Int)).bind fun y1227 => (if y1227.length + l1.length < 140737488355328 then (if t1223.length < 5864062014805 then (some ((t1223 ++ [(y1227 ++ l1)]), (l0_0.length : Int), 0, a2, (l1.length : Int))) else (none)) else (none)))
def spec_l2New.T2 : Bool × List (List Nat × List Nat) := (true, [([], []), ([0], [0]), ([], []), ([], []), ([2, 3], [2, 3]), ([4], [4]), ([1, 5, 4], [1, 5]), ([0, 1, 2, 3, 4, 5, 6], []), ([7, 6, 6, 0, 1, 2, 3, 4, 5, 6], [6, 7])])
def spec_l2New.B2 : List Nat := [0, 1, 0, 0, 12, 28, 63, 127, 255]
theorem spec_l2New.tab2 : rtab .any (opsOf Try.f153 2) = spec_l2New.T2 := by kernel_rfl
theorem spec_l2New.bits2 : waitsOk spec_l2New.T2.2 spec_l2New.B2 = true := by kernel_rfl
def spec_l2New.T3 : Bool × List (List Nat × List Nat) := (true, [([], []), ([], []), ([1], [1]), ([2], [2]), ([], []), ([], []), ([5], [5]), ([3, 4, 6], [3, 4, 6]), ([0, 0], [0]), ([7, 8, 0, 1, 2, 3, 4, 5, 6, 7, 8], [7])])
def spec_l2New.B3 : List Nat := [0, 0, 2, 6, 0, 0, 32, 126, 1, 511]
theorem spec_l2New.tab3 : rtab .any (opsOf Try.f153 3) = spec_l2New.T3 := by kernel_rfl
theorem spec_l2New.bits3 : waitsOk spec_l2New.T3.2 spec_l2New.B3 = true := by kernel_rfl
set_option maxHeartbeats 8000000 in
set_option maxRecDepth 100000 in
theorem spec_l2New.calls (k : Nat) (A0_0 : Option Addr) (c0_0 : Nat) (l0_0 : List (List Int)) (A1 : Option Addr) (c1 : Nat) (l1 : List Int) (a2 : Int) (r1 : List (List Int)) (r2 : Int) (r3 : Int) (r4 : Int) (r5 : Int) (w : World) (hr0_0 : Kd.C (Kd.slice 5 (Kd.int .u8)) w A0_0 l0_0.length l0_0) (hc0_0 : l0_0.length ≤ c0_0) (hr1 : Kd.C (Kd.int .u8) w A1 l1.length l1) (hc1 : l1.length ≤ c1) (h : spec_l2New.f k l0_0 l1 a2 = some (r1, r2, r3, r4, r5)) :
    Calls Try.prog 153 #[.agg #[.slice A0_0 l0_0.length c0_0], .slice A1 l1.length c1, .int .i64 a2] w fun e w' => ∃ v0_ : Value, e = .returned (.tuple #[.agg #[v0_], .agg #[.int .i64 r2, .int .i64 r3, .int .i64 r4, .int .i64 r5]]) ∧ Kd.S (Kd.slice 5 (Kd.int .u8)) 119 w' w.heap.size (fun _ => True) v0_ r1 ∧ Below w.heap.size w w' := by
  have hu26 := Try.underlying26
  have hu48 := Try.underlying48
  have HR0_0 := Aside0.mk hr0_0
  have HC0_0 := Aside0.mk hc0_0
  clear hr0_0 hc0_0
  have HR1 := Aside0.mk hr1
  have HC1 := Aside0.mk hc1
  clear hr1 hc1
  have HB := Aside0.mk (Below.refl w.heap.size w)
  have H : ((spec_l2Own.f k l0_0).bind fun t1223 => ((some (([] : List Int) : List Int)).bind fun y1227 => (if y1227.length + l1.length < 140737488355328 then (if t1223.length < 5864062014805 then (some ((t1223 ++ [(y1227 ++ l1)]), (l0_0.length : Int), 0, a2, (l1.length : Int))) else (none)) else (none)))) = some (r1, r2, r3, r4, r5) := h
  clear h
  replace H := Option.bind_eq_some_iff.mp H
  obtain ⟨t1223, A40, H⟩ := H
  replace H : ((some (([] : List Int) : List Int)).bind fun y1227 => (if y1227.length + l1.length < 140737488355328 then (if t1223.length < 5864062014805 then (some ((t1223 ++ [(y1227 ++ l1)]), (l0_0.length : Int), 0, a2, (l1.length : Int))) else (none)) else (none))) = some (r1, r2, r3, r4, r5) := H
  have A4 := Aside0.mk A40
  clear A40
  obtain ⟨y1227, hy1227⟩ : ∃ y_ : List Int, y_ = (([] : List Int)) := ⟨_, rfl⟩
  replace H : (if y1227.length + l1.length < 140737488355328 then (if t1223.length < 5864062014805 then (some ((t1223 ++ [(y1227 ++ l1)]), (l0_0.length : Int), 0, a2, (l1.length : Int))) else (none)) else (none)) = some (r1, r2, r3, r4, r5) := by first | (rw [hy1227]; with_reducible exact H) | (have H2_ := (Option.bind_some _ _).symm.trans H; rw [hy1227]; with_reducible exact H2_) | (have H2_ := (Option.bind_some _ _).symm.trans H; with_reducible exact H2_) | with_reducible exact H | (rw [hy1227]; exact H) | exact H
  have Ny1227 := Aside0.mk hy1227
  clear hy1227
  by_cases c5 : y1227.length + l1.length < 140737488355328
  · rw [if_pos c5] at H
    have LMc5 := Aside0.mk c5
    clear c5
    obtain ⟨y1230, hy1230⟩ : ∃ y_ : List Int, y_ = (y1227 ++ l1) := ⟨_, rfl⟩
    replace H : (if t1223.length < 5864062014805 then (some ((t1223 ++ [y1230]), (l0_0.length : Int), 0, a2, (l1.length : Int))) else (none)) = some (r1, r2, r3, r4, r5) := by first | (rw [hy1230]; with_reducible exact H) | (have H2_ := (Option.bind_some _ _).symm.trans H; rw [hy1230]; with_reducible exact H2_) | (have H2_ := (Option.bind_some _ _).symm.trans H; with_reducible exact H2_) | with_reducible exact H | (rw [hy1230]; exact H) | exact H
    have Ny1230 := Aside0.mk hy1230
    clear hy1230
    by_cases c6 : t1223.length < 5864062014805
    · rw [if_pos c6] at H
      have LMc6 := Aside0.mk c6
      clear c6
      obtain ⟨y1233, hy1233⟩ : ∃ y_ : List (List Int), y_ = (t1223 ++ [y1230]) := ⟨_, rfl⟩
      replace H : (some (y1233, (l0_0.length : Int), 0, a2, (l1.length : Int))) = some (r1, r2, r3, r4, r5) := by first | (rw [hy1233]; with_reducible exact H) | (have H2_ := (Option.bind_some _ _).symm.trans H; rw [hy1233]; with_reducible exact H2_) | (have H2_ := (Option.bind_some _ _).symm.trans H; with_reducible exact H2_) | with_reducible exact H | (rw [hy1233]; exact H) | exact H
      have Ny1233 := Aside0.mk hy1233
      clear hy1233
      simp only [Option.some.injEq, Prod.mk.injEq] at H
      obtain ⟨rfl, rfl, rfl, rfl, rfl⟩ := H
      go_enter Try.func153, Try.ntmps153
      try go_wp2_with (first | ((with_reducible refine gate_dst (N := 3) rfl ?_); refine box_event ?hg (N := 3) ?hd (cs := #[.slice A0_0 l0_0.length c0_0]) (t := 26) ?hr ?_; (case hd => rfl); (case hg => rfl); (case hr => first | (go_simp; done) | (go_simp; rfl)); intro gb1220 hg w7 hbox hb; have n0_ := Aside0.mk (below_step (by repeat (first | (with_reducible first | exact HB.out | apply below_alloc | apply pw_below_drewN | apply below_drew1) | exact HB.out)) hb); have n1_ := Aside0.mk (hbox); have n2_ := Aside0.mk ((by rw [hg]; exact (below_size (by repeat (first | (with_reducible first | exact HB.out | apply below_alloc | apply pw_below_drewN | apply below_drew1) | exact HB.out))) : w.heap.size ≤ gb1220)); have n3_ := Aside0.mk ((by rw [hg]; exact (below_size (by repeat (first | (with_reducible first | exact HB.out | apply below_alloc | apply pw_below_drewN | apply below_drew1) | exact HB.out))) : w.heap.size ≤ gb1220)); clear HB; have HB := n0_; have BK1220 := n1_; have GW1220 := n2_; have GE1220 := n3_; clear n0_ n1_ n2_ n3_; clear hb hbox hg) | ((with_reducible refine gate_dst (N := 6) rfl ?_); refine box_event ?hg (N := 6) ?hd (cs := #[.slice none 0 0]) (t := 26) ?hr ?_; (case hd => rfl); (case hg => rfl); (case hr => first | (go_simp; done) | (go_simp; rfl)); intro gb1221 hg w8 hbox hb; have n0_ := Aside0.mk (blk_below (g := gb1220) (o := .cells #[.slice A0_0 l0_0.length c0_0] 26 (0, 0)) (by (with_reducible repeat (first | refine blk_drewN ?_ _ | refine blk_drew ?_ | refine blk_alloc ?_ _)); exact BK1220.out) hb); have n1_ := Aside0.mk (below_step (by repeat (first | (with_reducible first | exact HB.out | apply below_alloc | apply pw_below_drewN | apply below_drew1 | refine below_set ?_ GE1220.out) | exact HB.out)) hb); have n2_ := Aside0.mk (hbox); have n3_ := Aside0.mk ((by rw [hg]; exact (below_size (by repeat (first | (with_reducible first | exact HB.out | apply below_alloc | apply pw_below_drewN | apply below_drew1 | refine below_set ?_ GE1220.out) | exact HB.out))) : w.heap.size ≤ gb1221)); have n4_ := Aside0.mk ((by rw [hg]; exact (below_size (by repeat (first | (with_reducible first | exact HB.out | apply below_alloc | apply pw_below_drewN | apply below_drew1 | refine below_set ?_ GE1220.out) | exact HB.out))) : w.heap.size ≤ gb1221)); have n5_ := Aside0.mk ((by rw [hg]; exact Nat.ne_of_lt (blk_lt (g := gb1220) (o := .cells #[.slice A0_0 l0_0.length c0_0] 26 (0, 0)) (by (with_reducible repeat (first | refine blk_drewN ?_ _ | refine blk_drew ?_ | refine blk_alloc ?_ _)); exact BK1220.out)) : gb1220 ≠ gb1221)); have n6_ := Aside0.mk ((by rw [hg]; exact Nat.ne_of_gt (blk_lt (g := gb1220) (o := .cells #[.slice A0_0 l0_0.length c0_0] 26 (0, 0)) (by (with_reducible repeat (first | refine blk_drewN ?_ _ | refine blk_drew ?_ | refine blk_alloc ?_ _)); exact BK1220.out)) : gb1221 ≠ gb1220)); clear BK1220; clear HB; have BK1220 := n0_; have HB := n1_; have BK1221 := n2_; have GW1221 := n3_; have GE1221 := n4_; have NB1220_1221 := n5_; have NB1221_1220 := n6_; clear n0_ n1_ n2_ n3_ n4_ n5_ n6_; clear hb hbox hg) | ((with_reducible refine gate_dst (N := 7) rfl ?_); refine box_event ?hg (N := 7) ?hd (cs := #[.int .i64 0, .int .i64 0, .int .i64 0, .int .i64 0]) (t := 48) ?hr ?_; (case hd => rfl); (case hg => rfl); (case hr => first | (go_simp; done) | (go_simp; rfl)); intro gb1222 hg w9 hbox hb; have n0_ := Aside0.mk (blk_below (g := gb1220) (o := .cells #[.slice A0_0 l0_0.length c0_0] 26 (0, 0)) (by (with_reducible repeat (first | refine blk_drewN ?_ _ | refine blk_drew ?_ | refine blk_alloc ?_ _)); exact BK1220.out) hb); have n1_ := Aside0.mk (blk_below (g := gb1221) (o := .cells #[.slice none 0 0] 26 (0, 0)) (by (with_reducible repeat (first | refine blk_drewN ?_ _ | refine blk_drew ?_ | refine blk_alloc ?_ _)); exact BK1221.out) hb); have n2_ := Aside0.mk (below_step (by repeat (first | (with_reducible first | exact HB.out | apply below_alloc | apply pw_below_drewN | apply below_drew1 | refine below_set ?_ GE1220.out | refine below_set ?_ GE1221.out) | exact HB.out)) hb); have n3_ := Aside0.mk (hbox); have n4_ := Aside0.mk ((by rw [hg]; exact (below_size (by repeat (first | (with_reducible first | exact HB.out | apply below_alloc | apply pw_below_drewN | apply below_drew1 | refine below_set ?_ GE1220.out | refine below_set ?_ GE1221.out) | exact HB.out))) : w.heap.size ≤ gb1222)); have n5_ := Aside0.mk ((by rw [hg]; exact (below_size (by repeat (first | (with_reducible first | exact HB.out | apply below_alloc | apply pw_below_drewN | apply below_drew1 | refine below_set ?_ GE1220.out | refine below_set ?_ GE1221.out) | exact HB.out))) : w.heap.size ≤ gb1222)); have n6_ := Aside0.mk ((by rw [hg]; exact Nat.ne_of_lt (blk_lt (g := gb1220) (o := .cells #[.slice A0_0 l0_0.length c0_0] 26 (0, 0)) (by (with_reducible repeat (first | refine blk_drewN ?_ _ | refine blk_drew ?_ | refine blk_alloc ?_ _)); exact BK1220.out)) : gb1220 ≠ gb1222)); have n7_ := Aside0.mk ((by rw [hg]; exact Nat.ne_of_gt (blk_lt (g := gb1220) (o := .cells #[.slice A0_0 l0_0.length c0_0] 26 (0, 0)) (by (with_reducible repeat (first | refine blk_drewN ?_ _ | refine blk_drew ?_ | refine blk_alloc ?_ _)); exact BK1220.out)) : gb1222 ≠ gb1220)); have n8_ := Aside0.mk ((by rw [hg]; exact Nat.ne_of_lt (blk_lt (g := gb1221) (o := .cells #[.slice none 0 0] 26 (0, 0)) (by (with_reducible repeat (first | refine blk_drewN ?_ _ | refine blk_drew ?_ | refine blk_alloc ?_ _)); exact BK1221.out)) : gb1221 ≠ gb1222)); have n9_ := Aside0.mk ((by rw [hg]; exact Nat.ne_of_gt (blk_lt (g := gb1221) (o := .cells #[.slice none 0 0] 26 (0, 0)) (by (with_reducible repeat (first | refine blk_drewN ?_ _ | refine blk_drew ?_ | refine blk_alloc ?_ _)); exact BK1221.out)) : gb1222 ≠ gb1221)); clear BK1220; clear BK1221; clear HB; have BK1220 := n0_; have BK1221 := n1_; have HB := n2_; have BK1222 := n3_; have GW1222 := n4_; have GE1222 := n5_; have NB1220_1222 := n6_; have NB1222_1220 := n7_; have NB1221_1222 := n8_; have NB1222_1221 := n9_; clear n0_ n1_ n2_ n3_ n4_ n5_ n6_ n7_ n8_ n9_; clear hb hbox hg; have hnb10 := NB1220_1221.out; have hnc10 := NB1221_1220.out; have hnb11 := NB1220_1222.out; have hnc11 := NB1222_1220.out; have hcz12_0 : w9.cell? ⟨gb1220, 0, none⟩ = some (.slice A0_0 l0_0.length c0_0) := (blk_cell BK1220.out 0).trans rfl; have hfz12_0 := blk_frozen BK1220.out 0) | ((with_reducible refine gate_callee (f := 89) rfl ?_); refine goesL_ (some 10) rfl rfl Try.func89 (by kernel_rfl) rfl #[.agg #[.slice A0_0 l0_0.length c0_0]] rfl (by (try simp only [List.map_toArray, List.map_cons, List.map_nil]); first | done | rfl | (simp only [List.length_drop, List.length_take]; rfl)) ?_; (with_reducible refine (spec_l2Own.calls k _ _ l0_0 t1223 _ ?side1 ?side2 A4.out).mono ?_); (case side1 => repeat (first | exact (Kd.C_below HR0_0.out HB.out) | (with_reducible refine Kd.C_alloc ?_ _) | (with_reducible refine Kd.C_drewN ?_ _) | (with_reducible refine Kd.C_drew ?_))); (case side2 => exact HC0_0.out); rintro e w13 ⟨v1224, rfl, ho0, hb⟩; refine ⟨_, rfl, ?_⟩; have n0_ := Aside0.mk (Kd.S_lower ho0 (below_size (by repeat (first | (with_reducible first | exact HB.out | apply below_alloc | apply pw_below_drewN | apply below_drew1 | refine below_set ?_ GE1220.out | refine below_set ?_ GE1221.out | refine below_set ?_ GE1222.out) | exact HB.out)))); have n1_ := Aside0.mk (blk_below (g := gb1220) (o := .cells #[.slice A0_0 l0_0.length c0_0] 26 (0, 0)) (by (with_reducible repeat (first | refine blk_drewN ?_ _ | refine blk_drew ?_ | refine blk_alloc ?_ _)); exact BK1220.out) hb); have n2_ := Aside0.mk (blk_below (g := gb1221) (o := .cells #[.slice none 0 0] 26 (0, 0)) (by (with_reducible repeat (first | refine blk_drewN ?_ _ | refine blk_drew ?_ | refine blk_alloc ?_ _)); exact BK1221.out) hb); have n3_ := Aside0.mk (blk_below (g := gb1222) (o := .cells #[.int .i64 0, .int .i64 0, .int .i64 0, .int .i64 0] 48 (0, 0)) (by (with_reducible repeat (first | refine blk_drewN ?_ _ | refine blk_drew ?_ | refine blk_alloc ?_ _)); exact BK1222.out) hb); have n4_ := Aside0.mk (below_step (by repeat (first | (with_reducible first | exact HB.out | apply below_alloc | apply pw_below_drewN | apply below_drew1 | refine below_set ?_ GE1220.out | refine below_set ?_ GE1221.out | refine below_set ?_ GE1222.out) | exact HB.out)) hb); clear BK1220; clear BK1221; clear BK1222; clear HB; have HO1225 := n0_; have BK1220 := n1_; have BK1221 := n2_; have BK1222 := n3_; have HB := n4_; clear n0_ n1_ n2_ n3_ n4_; (try clear hb); (try clear hb2); (try clear hk); (try clear hi); (try clear ho0)) | ((with_reducible refine gate_dst (N := 8) rfl ?_); refine box_event ?hg (N := 8) ?hd (cs := #[.slice none 0 0]) (t := 26) ?hr ?_; (case hd => rfl); (case hg => rfl); (case hr => first | (go_simp; done) | (go_simp; rfl)); intro gb1226 hg w14 hbox hb; have n0_ := Aside0.mk (Kd.S_below (by (with_reducible repeat (first | apply Kd.S_alloc | apply Kd.S_drewN | apply Kd.S_drew)); exact HO1225.out) hb); have n1_ := Aside0.mk (blk_below (g := gb1220) (o := .cells #[.slice A0_0 l0_0.length c0_0] 26 (0, 0)) (by (with_reducible repeat (first | refine blk_drewN ?_ _ | refine blk_drew ?_ | refine blk_alloc ?_ _)); exact BK1220.out) hb); have n2_ := Aside0.mk (blk_below (g := gb1221) (o := .cells #[.slice none 0 0] 26 (0, 0)) (by (with_reducible repeat (first | refine blk_drewN ?_ _ | refine blk_drew ?_ | refine blk_alloc ?_ _)); exact BK1221.out) hb); have n3_ := Aside0.mk (blk_below (g := gb1222) (o := .cells #[.int .i64 0, .int .i64 0, .int .i64 0, .int .i64 0] 48 (0, 0)) (by (with_reducible repeat (first | refine blk_drewN ?_ _ | refine blk_drew ?_ | refine blk_alloc ?_ _)); exact BK1222.out) hb); have n4_ := Aside0.mk (below_step (by repeat (first | (with_reducible first | exact HB.out | apply below_alloc | apply pw_below_drewN | apply below_drew1 | refine below_set ?_ GE1220.out | refine below_set ?_ GE1221.out | refine below_set ?_ GE1222.out) | exact HB.out)) hb); have n5_ := Aside0.mk (hbox); have n6_ := Aside0.mk ((by rw [hg]; exact (below_size (by repeat (first | (with_reducible first | exact HB.out | apply below_alloc | apply pw_below_drewN | apply below_drew1 | refine below_set ?_ GE1220.out | refine below_set ?_ GE1221.out | refine below_set ?_ GE1222.out) | exact HB.out))) : w.heap.size ≤ gb1226)); have n7_ := Aside0.mk ((by rw [hg]; exact (below_size (by repeat (first | (with_reducible first | exact HB.out | apply below_alloc | apply pw_below_drewN | apply below_drew1 | refine below_set ?_ GE1220.out | refine below_set ?_ GE1221.out | refine below_set ?_ GE1222.out) | exact HB.out))) : w.heap.size ≤ gb1226)); have n8_ := Aside0.mk ((by rw [hg]; exact Nat.ne_of_lt (blk_lt (g := gb1220) (o := .cells #[.slice A0_0 l0_0.length c0_0] 26 (0, 0)) (by (with_reducible repeat (first | refine blk_drewN ?_ _ | refine blk_drew ?_ | refine blk_alloc ?_ _)); exact BK1220.out)) : gb1220 ≠ gb1226)); have n9_ := Aside0.mk ((by rw [hg]; exact Nat.ne_of_gt (blk_lt (g := gb1220) (o := .cells #[.slice A0_0 l0_0.length c0_0] 26 (0, 0)) (by (with_reducible repeat (first | refine blk_drewN ?_ _ | refine blk_drew ?_ | refine blk_alloc ?_ _)); exact BK1220.out)) : gb1226 ≠ gb1220)); have n10_ := Aside0.mk ((by rw [hg]; exact Nat.ne_of_lt (blk_lt (g := gb1221) (o := .cells #[.slice none 0 0] 26 (0, 0)) (by (with_reducible repeat (first | refine blk_drewN ?_ _ | refine blk_drew ?_ | refine blk_alloc ?_ _)); exact BK1221.out)) : gb1221 ≠ gb1226)); have n11_ := Aside0.mk ((by rw [hg]; exact Nat.ne_of_gt (blk_lt (g := gb1221) (o := .cells #[.slice none 0 0] 26 (0, 0)) (by (with_reducible repeat (first | refine blk_drewN ?_ _ | refine blk_drew ?_ | refine blk_alloc ?_ _)); exact BK1221.out)) : gb1226 ≠ gb1221)); have n12_ := Aside0.mk ((by rw [hg]; exact Nat.ne_of_lt (blk_lt (g := gb1222) (o := .cells #[.int .i64 0, .int .i64 0, .int .i64 0, .int .i64 0] 48 (0, 0)) (by (with_reducible repeat (first | refine blk_drewN ?_ _ | refine blk_drew ?_ | refine blk_alloc ?_ _)); exact BK1222.out)) : gb1222 ≠ gb1226)); have n13_ := Aside0.mk ((by rw [hg]; exact Nat.ne_of_gt (blk_lt (g := gb1222) (o := .cells #[.int .i64 0, .int .i64 0, .int .i64 0, .int .i64 0] 48 (0, 0)) (by (with_reducible repeat (first | refine blk_drewN ?_ _ | refine blk_drew ?_ | refine blk_alloc ?_ _)); exact BK1222.out)) : gb1226 ≠ gb1222)); clear HO1225; clear BK1220; clear BK1221; clear BK1222; clear HB; have HO1225 := n0_; have BK1220 := n1_; have BK1221 := n2_; have BK1222 := n3_; have HB := n4_; have BK1226 := n5_; have GW1226 := n6_; have GE1226 := n7_; have NB1220_1226 := n8_; have NB1226_1220 := n9_; have NB1221_1226 := n10_; have NB1226_1221 := n11_; have NB1222_1226 := n12_; have NB1226_1222 := n13_; clear n0_ n1_ n2_ n3_ n4_ n5_ n6_ n7_ n8_ n9_ n10_ n11_ n12_ n13_; clear hb hbox hg; obtain ⟨Ao15, co15, eo15⟩ := Kd.S_slice HO1225.out; subst eo15; have hnb16 := NB1226_1220.out; have hnc16 := NB1220_1226.out; have hnb17 := NB1226_1221.out; have hnc17 := NB1221_1226.out; have hnb18 := NB1226_1222.out; have hnc18 := NB1222_1226.out; have hcz19_0 : w14.cell? ⟨gb1226, 0, none⟩ = some (.slice none 0 0) := (blk_cell BK1226.out 0).trans rfl; have hfz19_0 := blk_frozen BK1226.out 0))
      have n0_ : Aside0 (Kd.S (Kd.slice 5 (Kd.int .u8)) 119 (w14.setCell ⟨gb1226, 0, none⟩ (.slice Ao15 t1223.length co15)) w.heap.size (fun _ => True) (.slice Ao15 t1223.length co15) t1223) := ⟨by (with_reducible repeat (first | apply Kd.S_alloc | apply Kd.S_drewN | apply Kd.S_drew)); exact Kd.S_mono (Kd.S_far (p := ⟨gb1226, 0, none⟩) (Kd.S_types HO1225.out BK1226.out (by decide)) (fun _ hk => hk.2) (.slice Ao15 t1223.length co15)) (fun _ hk => trivial)⟩
      have n1_ : Aside0 ((w14.setCell ⟨gb1226, 0, none⟩ (.slice Ao15 t1223.length co15)).heap[gb1220]? = some (.cells #[.slice A0_0 l0_0.length c0_0] 26 (0, 0))) := ⟨by (with_reducible repeat (first | refine blk_drewN ?_ _ | refine blk_drew ?_ | refine blk_alloc ?_ _)); refine blk_far ?_ NB1220_1226.out _; (with_reducible repeat (first | refine blk_drewN ?_ _ | refine blk_drew ?_ | refine blk_alloc ?_ _)); exact BK1220.out⟩
      have n2_ : Aside0 ((w14.setCell ⟨gb1226, 0, none⟩ (.slice Ao15 t1223.length co15)).heap[gb1221]? = some (.cells #[.slice none 0 0] 26 (0, 0))) := ⟨by (with_reducible repeat (first | refine blk_drewN ?_ _ | refine blk_drew ?_ | refine blk_alloc ?_ _)); refine blk_far ?_ NB1221_1226.out _; (with_reducible repeat (first | refine blk_drewN ?_ _ | refine blk_drew ?_ | refine blk_alloc ?_ _)); exact BK1221.out⟩
      have n3_ : Aside0 ((w14.setCell ⟨gb1226, 0, none⟩ (.slice Ao15 t1223.length co15)).heap[gb1222]? = some (.cells #[.int .i64 0, .int .i64 0, .int .i64 0, .int .i64 0] 48 (0, 0))) := ⟨by (with_reducible repeat (first | refine blk_drewN ?_ _ | refine blk_drew ?_ | refine blk_alloc ?_ _)); refine blk_far ?_ NB1222_1226.out _; (with_reducible repeat (first | refine blk_drewN ?_ _ | refine blk_drew ?_ | refine blk_alloc ?_ _)); exact BK1222.out⟩
      have n4_ : Aside0 ((w14.setCell ⟨gb1226, 0, none⟩ (.slice Ao15 t1223.length co15)).heap[gb1226]? = some (.cells #[.slice Ao15 t1223.length co15] 26 (0, 0))) := ⟨by (with_reducible repeat (first | refine blk_drewN ?_ _ | refine blk_drew ?_ | refine blk_alloc ?_ _)); refine blk_put (cs := #[.slice none 0 0]) ?_ 0 _ rfl; (with_reducible repeat (first | refine blk_drewN ?_ _ | refine blk_drew ?_ | refine blk_alloc ?_ _)); exact BK1226.out⟩
      have n5_ : Aside0 (Below w.heap.size w (w14.setCell ⟨gb1226, 0, none⟩ (.slice Ao15 t1223.length co15))) := ⟨by repeat (first | (with_reducible first | exact HB.out | apply below_alloc | apply pw_below_drewN | apply below_drew1 | refine below_set ?_ GE1220.out | refine below_set ?_ GE1221.out | refine below_set ?_ GE1222.out | refine below_set ?_ GE1226.out) | exact HB.out)⟩
      (try clear HO1225)
      (try clear BK1220)
      (try clear BK1221)
      (try clear BK1222)
      (try clear BK1226)
      (try clear HB)
      generalize (w14.setCell ⟨gb1226, 0, none⟩ (.slice Ao15 t1223.length co15)) = w20 at n0_ n1_ n2_ n3_ n4_ n5_ ⊢
      have HO1225 := n0_
      have BK1220 := n1_
      have BK1221 := n2_
      have BK1222 := n3_
      have BK1226 := n4_
      have HB := n5_
      clear n0_ n1_ n2_ n3_ n4_ n5_
      have n0_ := Aside0.mk (Kd.S_drew HO1225.out)
      have n1_ := Aside0.mk (blk_drew BK1220.out)
      have n2_ := Aside0.mk (blk_drew BK1221.out)
      have n3_ := Aside0.mk (blk_drew BK1222.out)
      have n4_ := Aside0.mk (blk_drew BK1226.out)
      have n5_ := Aside0.mk (below_drew1 HB.out)
      clear HO1225
      clear BK1220
      clear BK1221
      clear BK1222
      clear BK1226
      clear HB
      have HO1225 := n0_
      have BK1220 := n1_
      have BK1221 := n2_
      have BK1222 := n3_
      have BK1226 := n4_
      have HB := n5_
      clear n0_ n1_ n2_ n3_ n4_ n5_
      refine start_ (n := 9) (S := fun w' => w'.cell? ⟨gb1226, 0, none⟩ = some (.slice Ao15 t1223.length co15)) (ds := [8]) #[false, false, false, false, false, false, false, false, false] (by kernel_rfl) rfl rfl ((blk_cell BK1226.out 0).trans rfl) (fun hHeld => ?_); refine with_tabW spec_l2New.tab2 spec_l2New.bits2 (fun HT_ HW_ => ?_)
      generalize w20.drew = w21 at HO1225 BK1220 BK1221 BK1222 BK1226 HB hHeld ⊢
      refine pure_ (i := 0) (N := some 11) (v := ?_) (a' := ?_) #[true, false, false, false, false, false, false, false, false] rfl rfl (any_of HT_.out (by kernel_rfl)) (fun _ _ _ h => h) (Or.inl ⟨by rfl, ?_⟩) ?_ ?_
      rotate_left
      · intro w'
        go_simp
        with_reducible rfl
      rotate_left
      · simp only [Act.put, List.setIfInBounds_toArray, List.set_cons_zero, List.set_cons_succ, i64_w, i32_w]
        rfl
      refine pure_ (i := 3) (N := some 14) (v := ?_) (a' := ?_) #[true, false, false, true, false, false, false, false, false] rfl rfl (any_of HT_.out (by kernel_rfl)) (fun _ _ _ h => h) (Or.inl ⟨by rfl, ?_⟩) ?_ ?_
      rotate_left
      · intro w'
        go_simp
        with_reducible rfl
      rotate_left
      · simp only [Act.put, List.setIfInBounds_toArray, List.set_cons_zero, List.set_cons_succ, i64_w, i32_w]
        rfl
      refine take_ (i := 1) (N := some 12) (v := ?_) (a' := ?_) #[true, true, false, true, false, false, false, false, false] rfl rfl (take_ofW HT_.out HW_.out (by kernel_rfl)) (fun _ _ _ h => h) (Or.inl ⟨by rfl, ?_⟩) hHeld ?_ ?_
      rotate_left
      · intro w' s0
        go_simp
        with_reducible rfl
      rotate_left
      · simp only [Act.put, List.setIfInBounds_toArray, List.set_cons_zero, List.set_cons_succ, i64_w, i32_w]
        rfl
      refine one_ (i := 2) (N := some 13) #[true, true, true, true, false, false, false, false, false] rfl rfl (one_of HT_.out (by kernel_rfl)) (by decide) (fun K hK => ?_)
      refine Kd.R_lit_step (Kd.int .u8) _ 5 ?hg (N := 13) ?hd (xs := ([] : List Int)) (inner := []) (ok := fun _ => True) (okp := fun _ => True) ?hr ?hp (fun _ hk => hk) trivial (Below.refl _ _) (Nat.le_refl _) (by simp) ?_; (case hd => rfl); (case hg => rfl); (case hr => first | (go_simp; done) | (go_simp; rfl)); (case hp => exact (Reps.none _ _))
      intro v1228 w22 ho23 hb hg_ hnew_
      clear hg_ hnew_
      (first | rw [← Ny1227.out] at ho23 | (simp only [Int.reduceToNat] at ho23; rw [← Ny1227.out] at ho23))
      have n0_ := Aside0.mk (Kd.S_elder' (by (with_reducible repeat (first | apply Kd.S_alloc | apply Kd.S_drewN | apply Kd.S_drew)); exact HO1225.out) (Kd.R_base ho23) hb)
      have n1_ := Aside0.mk (Kd.R_lower ho23 (below_size (by repeat (first | (with_reducible first | exact HB.out | apply below_alloc | apply pw_below_drewN | apply below_drew1 | refine below_set ?_ GE1220.out | refine below_set ?_ GE1221.out | refine below_set ?_ GE1222.out | refine below_set ?_ GE1226.out) | exact HB.out))))
      have n2_ := Aside0.mk (blk_below (g := gb1220) (o := .cells #[.slice A0_0 l0_0.length c0_0] 26 (0, 0)) (by (with_reducible repeat (first | refine blk_drewN ?_ _ | refine blk_drew ?_ | refine blk_alloc ?_ _)); exact BK1220.out) hb)
      have n3_ := Aside0.mk (blk_below (g := gb1221) (o := .cells #[.slice none 0 0] 26 (0, 0)) (by (with_reducible repeat (first | refine blk_drewN ?_ _ | refine blk_drew ?_ | refine blk_alloc ?_ _)); exact BK1221.out) hb)
      have n4_ := Aside0.mk (blk_below (g := gb1222) (o := .cells #[.int .i64 0, .int .i64 0, .int .i64 0, .int .i64 0] 48 (0, 0)) (by (with_reducible repeat (first | refine blk_drewN ?_ _ | refine blk_drew ?_ | refine blk_alloc ?_ _)); exact BK1222.out) hb)
      have n5_ := Aside0.mk (blk_below (g := gb1226) (o := .cells #[.slice Ao15 t1223.length co15] 26 (0, 0)) (by (with_reducible repeat (first | refine blk_drewN ?_ _ | refine blk_drew ?_ | refine blk_alloc ?_ _)); exact BK1226.out) hb)
      have n6_ := Aside0.mk (below_step (by repeat (first | (with_reducible first | exact HB.out | apply below_alloc | apply pw_below_drewN | apply below_drew1 | refine below_set ?_ GE1220.out | refine below_set ?_ GE1221.out | refine below_set ?_ GE1222.out | refine below_set ?_ GE1226.out) | exact HB.out)) hb)
      clear HO1225
      clear BK1220
      clear BK1221
      clear BK1222
      clear BK1226
      clear HB
      have HO1225 := n0_
      have HO1229 := n1_
      have BK1220 := n2_
      have BK1221 := n3_
      have BK1222 := n4_
      have BK1226 := n5_
      have HB := n6_
      clear n0_ n1_ n2_ n3_ n4_ n5_ n6_
      clear hb ho23
      refine hK.out _ _ ((blk_cell BK1226.out 0).trans rfl) (fun hHeld => ?_)
      clear hK K
      refine norm_ (a' := ?_) ?_ ?_
      rotate_left
      · show Act.put _ (some 13) _ = _
        simp only [Act.put, List.setIfInBounds_toArray, List.set_cons_zero, List.set_cons_succ, i64_w, i32_w]
        rfl
      refine one_ (i := 4) (N := some 15) #[true, true, true, true, true, false, false, false, false] rfl rfl (one_of HT_.out (by kernel_rfl)) (by decide) (fun K hK => ?_)
      refine Kd.R_append_rows_step (Kd.int .u8) (w0 := w) w.heap.size (by rfl) (.tmp 13) (.tmp 14) 119 5 (.int .u8 0) 1 rfl Try.underlying119 info5 rfl (by decide) (by omega) v1228 y1227 l1 _ _ _ (fun _ => True) (fun _ => False) rfl rfl ?aO ?aR (fun _ _ h => h) (fun _ h => h.elim) ?aF ?aB ?aS ?aL ?_
      (case aR => repeat (first | exact (Kd.C_below HR1.out HB.out) | (with_reducible refine Kd.C_alloc ?_ _) | (with_reducible refine Kd.C_drewN ?_ _) | (with_reducible refine Kd.C_drew ?_)))
      (case aB => exact (by repeat (first | (with_reducible first | exact HB.out | apply below_alloc | apply pw_below_drewN | apply below_drew1 | refine below_set ?_ GE1220.out | refine below_set ?_ GE1221.out | refine below_set ?_ GE1222.out | refine below_set ?_ GE1226.out) | exact HB.out)))
      (case aF => exact (fun _ _ => trivial))
      (case aO => exact (by (with_reducible repeat (first | apply Kd.R_alloc | apply Kd.R_drewN | apply Kd.R_drew)); exact HO1229.out))
      (case aS => exact (below_size (by repeat (first | (with_reducible first | exact HB.out | apply below_alloc | apply pw_below_drewN | apply below_drew1 | refine below_set ?_ GE1220.out | refine below_set ?_ GE1221.out | refine below_set ?_ GE1222.out | refine below_set ?_ GE1226.out) | exact HB.out))))
      (case aL => have := LMc5.out; omega)
      intro v1231 w24 ho hb hg hat
      rw [← Ny1230.out] at ho
      have n0_ := Aside0.mk (blk_grown (g := gb1220) (o := .cells #[.slice A0_0 l0_0.length c0_0] 26 (0, 0)) (by (with_reducible repeat (first | refine blk_drewN ?_ _ | refine blk_drew ?_ | refine blk_alloc ?_ _)); exact BK1220.out) hg (Kd.R_ne HO1229.out BK1220.out (by decide)))
      have n1_ := Aside0.mk (blk_grown (g := gb1221) (o := .cells #[.slice none 0 0] 26 (0, 0)) (by (with_reducible repeat (first | refine blk_drewN ?_ _ | refine blk_drew ?_ | refine blk_alloc ?_ _)); exact BK1221.out) hg (Kd.R_ne HO1229.out BK1221.out (by decide)))
      have n2_ := Aside0.mk (blk_grown (g := gb1222) (o := .cells #[.int .i64 0, .int .i64 0, .int .i64 0, .int .i64 0] 48 (0, 0)) (by (with_reducible repeat (first | refine blk_drewN ?_ _ | refine blk_drew ?_ | refine blk_alloc ?_ _)); exact BK1222.out) hg (Kd.R_ne HO1229.out BK1222.out (by decide)))
      have n3_ := Aside0.mk (Kd.S_after (ok := (fun _ => True)) (by (with_reducible repeat (first | apply Kd.S_alloc | apply Kd.S_drewN | apply Kd.S_drew)); exact HO1225.out) hg hat)
      have n4_ := Aside0.mk (blk_grown (g := gb1226) (o := .cells #[.slice Ao15 t1223.length co15] 26 (0, 0)) (by (with_reducible repeat (first | refine blk_drewN ?_ _ | refine blk_drew ?_ | refine blk_alloc ?_ _)); exact BK1226.out) hg (Kd.R_ne HO1229.out BK1226.out (by decide)))
      have n5_ := Aside0.mk (hb)
      have n6_ := Aside0.mk (ho)
      clear BK1220
      clear BK1221
      clear BK1222
      clear HO1225
      clear BK1226
      clear HB
      clear HO1229
      have BK1220 := n0_
      have BK1221 := n1_
      have BK1222 := n2_
      have HO1225 := n3_
      have BK1226 := n4_
      have HB := n5_
      have HO1232 := n6_
      clear n0_ n1_ n2_ n3_ n4_ n5_ n6_
      clear ho hb hg hat
      obtain ⟨Ao26, co26, eo26⟩ := Kd.R_slice HO1232.out
      (first | subst eo26 | (injection eo26 with f1_ f2_ f3_; have f4_ := f1_.symm; have f5_ := f3_.symm; clear f1_ f2_ f3_; subst f4_; subst f5_))
      refine hK.out _ _ ((blk_cell BK1226.out 0).trans rfl) (fun hHeld => ?_)
      clear hK K
      refine norm_ (a' := ?_) ?_ ?_
      rotate_left
      · show Act.put _ (some 15) _ = _
        simp only [Act.put, List.setIfInBounds_toArray, List.set_cons_zero, List.set_cons_succ, i64_w, i32_w]
        rfl
      refine one_ (i := 5) (N := some 16) #[true, true, true, true, true, true, false, false, false] rfl rfl (one_of HT_.out (by kernel_rfl)) (by decide) (fun K hK => ?_)
      refine value_ (w1 := ?_) (v := ?_) (by rfl) rfl ?_ ?_
      rotate_left 2
      · go_simp
        constructor
        · rfl
        · rfl
      refine hK.out _ _ ((blk_cell (blk_alloc BK1226.out _) 0).trans rfl) (fun hHeld => ?_)
      clear hK K
      refine norm_ (a' := ?_) ?_ ?_
      rotate_left
      · show Act.put _ (some 16) _ = _
        simp only [Act.put, List.setIfInBounds_toArray, List.set_cons_zero, List.set_cons_succ, i64_w, i32_w]
        rfl
      refine one_ (i := 6) (N := some 17) #[true, true, true, true, true, true, true, false, false] rfl rfl (one_of HT_.out (by kernel_rfl)) (by decide) (fun K hK => ?_)
      refine Kd.S_append_step (Kd.slice 5 (Kd.int .u8)) (w0 := w) w.heap.size (by rfl) (.tmp 12) (.tmp 16) 22 119 (.slice none 0 0) 24 rfl Try.underlying22 info119 rfl (by decide) (by omega) (.slice Ao15 t1223.length co15) t1223 y1230 [.slice Ao26 y1230.length co26] (fun _ => True) (fun k_ => some k_ = (.slice Ao26 y1230.length co26 : Value).ownBlock) rfl rfl ?aP (fun k_ hk_ => ((Kd.R_mono (ok' := fun k_ => ((fun _ => True)) k_ ∧ some k_ ≠ (.slice Ao15 t1223.length co15 : Value).ownBlock) (Kd.R_apart' (HO1232.out) (Kd.S_typed HO1225.out) (by decide)) (fun k_ hk => ⟨trivial, hk.2⟩))).1 k_ hk_.symm) ?aF ?aO ?aB ?aS ?aL ?_
      (case aP => exact Kd.M_row (Kd.R_mono (Kd.R_tight rfl (Kd.R_mono (ok' := fun k_ => ((fun _ => True)) k_ ∧ some k_ ≠ (.slice Ao15 t1223.length co15 : Value).ownBlock) (Kd.R_apart' (HO1232.out) (Kd.S_typed HO1225.out) (by decide)) (fun k_ hk => ⟨trivial, hk.2⟩))) (fun _ h_ => h_)))
      (case aB => exact (by repeat (first | (with_reducible first | exact HB.out | apply below_alloc | apply pw_below_drewN | apply below_drew1 | refine below_set ?_ GE1220.out | refine below_set ?_ GE1221.out | refine below_set ?_ GE1222.out | refine below_set ?_ GE1226.out) | exact HB.out)))
      (case aF => exact (fun _ _ => trivial))
      (case aO => exact (by (with_reducible repeat (first | apply Kd.S_alloc | apply Kd.S_drewN | apply Kd.S_drew)); exact Kd.S_mono HO1225.out (fun k_ hk => ⟨trivial, fun e_ => hk.2 e_⟩)))
      (case aS => exact (below_size (by repeat (first | (with_reducible first | exact HB.out | apply below_alloc | apply pw_below_drewN | apply below_drew1 | refine below_set ?_ GE1220.out | refine below_set ?_ GE1221.out | refine below_set ?_ GE1222.out | refine below_set ?_ GE1226.out) | exact HB.out))))
      (case aL => have := LMc6.out; omega)
      intro v1234 w25 ho hb hg hat
      rw [← Ny1233.out] at ho
      have n0_ := Aside0.mk (blk_grown (g := gb1220) (o := .cells #[.slice A0_0 l0_0.length c0_0] 26 (0, 0)) (by (with_reducible repeat (first | refine blk_drewN ?_ _ | refine blk_drew ?_ | refine blk_alloc ?_ _)); exact BK1220.out) hg (Kd.S_ne HO1225.out BK1220.out (by decide)))
      have n1_ := Aside0.mk (blk_grown (g := gb1221) (o := .cells #[.slice none 0 0] 26 (0, 0)) (by (with_reducible repeat (first | refine blk_drewN ?_ _ | refine blk_drew ?_ | refine blk_alloc ?_ _)); exact BK1221.out) hg (Kd.S_ne HO1225.out BK1221.out (by decide)))
      have n2_ := Aside0.mk (blk_grown (g := gb1222) (o := .cells #[.int .i64 0, .int .i64 0, .int .i64 0, .int .i64 0] 48 (0, 0)) (by (with_reducible repeat (first | refine blk_drewN ?_ _ | refine blk_drew ?_ | refine blk_alloc ?_ _)); exact BK1222.out) hg (Kd.S_ne HO1225.out BK1222.out (by decide)))
      have n3_ := Aside0.mk (blk_grown (g := gb1226) (o := .cells #[.slice Ao15 t1223.length co15] 26 (0, 0)) (by (with_reducible repeat (first | refine blk_drewN ?_ _ | refine blk_drew ?_ | refine blk_alloc ?_ _)); exact BK1226.out) hg (Kd.S_ne HO1225.out BK1226.out (by decide)))
      have n4_ := Aside0.mk (hb)
      have n5_ := Aside0.mk (ho)
      clear BK1220
      clear BK1221
      clear BK1222
      clear BK1226
      clear HB
      clear HO1225
      clear HO1232
      have BK1220 := n0_
      have BK1221 := n1_
      have BK1222 := n2_
      have BK1226 := n3_
      have HB := n4_
      have HO1235 := n5_
      clear n0_ n1_ n2_ n3_ n4_ n5_
      clear ho hb hg hat
      obtain ⟨Ao27, co27, eo27⟩ := Kd.S_slice HO1235.out
      (first | subst eo27 | (injection eo27 with f1_ f2_ f3_; have f4_ := f1_.symm; have f5_ := f3_.symm; clear f1_ f2_ f3_; subst f4_; subst f5_))
      refine hK.out _ _ ((blk_cell BK1226.out 0).trans rfl) (fun hHeld => ?_)
      clear hK K
      refine norm_ (a' := ?_) ?_ ?_
      rotate_left
      · show Act.put _ (some 17) _ = _
        simp only [Act.put, List.setIfInBounds_toArray, List.set_cons_zero, List.set_cons_succ, i64_w, i32_w]
        rfl
      refine pure_ (i := 7) (N := some 18) (v := ?_) (a' := ?_) #[true, true, true, true, true, true, true, true, false] rfl rfl (any_of HT_.out (by kernel_rfl)) (fun _ _ _ h => h) (Or.inl ⟨by rfl, ?_⟩) ?_ ?_
      rotate_left
      · intro w'
        go_simp
        with_reducible rfl
      rotate_left
      · simp only [Act.put, List.setIfInBounds_toArray, List.set_cons_zero, List.set_cons_succ, i64_w, i32_w]
        rfl
      refine last_ (i := 8) (N := none) #[true, true, true, true, true, true, true, true, true] rfl rfl (one_of HT_.out (by kernel_rfl)) (by decide) (fun K hK => ?_)
      have hs28 : w25.cell? ⟨gb1226, 0, none⟩ = some (.slice Ao15 t1223.length co15) := (blk_cell BK1226.out 0).trans rfl
      have hfs28 := blk_frozen BK1226.out 0
      have hns28_0 := NB1220_1226.out
      have hns28_1 := NB1221_1226.out
      have hns28_2 := NB1222_1226.out
      have hms28_0 := NB1226_1220.out
      have hms28_1 := NB1226_1221.out
      have hms28_2 := NB1226_1222.out
      refine skip_ (w1 := ?_) (by rfl) rfl ?_ ?_
      rotate_left
      · go_simp
        rfl
      refine hK.out _ _ ?_
      clear hK K
      refine done_ (done_of HT_.out (by kernel_rfl)) ?_
      try go_wp2
      have n0_ : Aside0 (Kd.S (Kd.slice 5 (Kd.int .u8)) 119 (w25.setCell ⟨gb1226, 0, none⟩ (.slice Ao27 y1233.length co27)) w.heap.size (fun _ => True) (.slice Ao27 y1233.length co27) y1233) := ⟨by (with_reducible repeat (first | apply Kd.S_alloc | apply Kd.S_drewN | apply Kd.S_drew)); exact Kd.S_mono (Kd.S_far (p := ⟨gb1226, 0, none⟩) (Kd.S_types HO1235.out BK1226.out (by decide)) (fun _ hk => hk.2) (.slice Ao27 y1233.length co27)) (fun _ hk => trivial)⟩
      have n1_ : Aside0 ((w25.setCell ⟨gb1226, 0, none⟩ (.slice Ao27 y1233.length co27)).heap[gb1220]? = some (.cells #[.slice A0_0 l0_0.length c0_0] 26 (0, 0))) := ⟨by (with_reducible repeat (first | refine blk_drewN ?_ _ | refine blk_drew ?_ | refine blk_alloc ?_ _)); refine blk_far ?_ NB1220_1226.out _; (with_reducible repeat (first | refine blk_drewN ?_ _ | refine blk_drew ?_ | refine blk_alloc ?_ _)); exact BK1220.out⟩
      have n2_ : Aside0 ((w25.setCell ⟨gb1226, 0, none⟩ (.slice Ao27 y1233.length co27)).heap[gb1221]? = some (.cells #[.slice none 0 0] 26 (0, 0))) := ⟨by (with_reducible repeat (first | refine blk_drewN ?_ _ | refine blk_drew ?_ | refine blk_alloc ?_ _)); refine blk_far ?_ NB1221_1226.out _; (with_reducible repeat (first | refine blk_drewN ?_ _ | refine blk_drew ?_ | refine blk_alloc ?_ _)); exact BK1221.out⟩
      have n3_ : Aside0 ((w25.setCell ⟨gb1226, 0, none⟩ (.slice Ao27 y1233.length co27)).heap[gb1222]? = some (.cells #[.int .i64 0, .int .i64 0, .int .i64 0, .int .i64 0] 48 (0, 0))) := ⟨by (with_reducible repeat (first | refine blk_drewN ?_ _ | refine blk_drew ?_ | refine blk_alloc ?_ _)); refine blk_far ?_ NB1222_1226.out _; (with_reducible repeat (first | refine blk_drewN ?_ _ | refine blk_drew ?_ | refine blk_alloc ?_ _)); exact BK1222.out⟩
      have n4_ : Aside0 ((w25.setCell ⟨gb1226, 0, none⟩ (.slice Ao27 y1233.length co27)).heap[gb1226]? = some (.cells #[.slice Ao27 y1233.length co27] 26 (0, 0))) := ⟨by (with_reducible repeat (first | refine blk_drewN ?_ _ | refine blk_drew ?_ | refine blk_alloc ?_ _)); refine blk_put (cs := #[.slice Ao15 t1223.length co15]) ?_ 0 _ rfl; (with_reducible repeat (first | refine blk_drewN ?_ _ | refine blk_drew ?_ | refine blk_alloc ?_ _)); exact BK1226.out⟩
      have n5_ : Aside0 (Below w.heap.size w (w25.setCell ⟨gb1226, 0, none⟩ (.slice Ao27 y1233.length co27))) := ⟨by repeat (first | (with_reducible first | exact HB.out | apply below_alloc | apply pw_below_drewN | apply below_drew1 | refine below_set ?_ GE1220.out | refine below_set ?_ GE1221.out | refine below_set ?_ GE1222.out | refine below_set ?_ GE1226.out) | exact HB.out)⟩
      (try clear HO1235)
      (try clear BK1220)
      (try clear BK1221)
      (try clear BK1222)
      (try clear BK1226)
      (try clear HB)
      generalize (w25.setCell ⟨gb1226, 0, none⟩ (.slice Ao27 y1233.length co27)) = w29 at n0_ n1_ n2_ n3_ n4_ n5_ ⊢
      have HO1235 := n0_
      have BK1220 := n1_
      have BK1221 := n2_
      have BK1222 := n3_
      have BK1226 := n4_
      have HB := n5_
      clear n0_ n1_ n2_ n3_ n4_ n5_
      have n0_ := Aside0.mk (Kd.S_drew HO1235.out)
      have n1_ := Aside0.mk (blk_drew BK1220.out)
      have n2_ := Aside0.mk (blk_drew BK1221.out)
      have n3_ := Aside0.mk (blk_drew BK1222.out)
      have n4_ := Aside0.mk (blk_drew BK1226.out)
      have n5_ := Aside0.mk (below_drew1 HB.out)
      clear HO1235
      clear BK1220
      clear BK1221
      clear BK1222
      clear BK1226
      clear HB
      have HO1235 := n0_
      have BK1220 := n1_
      have BK1221 := n2_
      have BK1222 := n3_
      have BK1226 := n4_
      have HB := n5_
      clear n0_ n1_ n2_ n3_ n4_ n5_
      refine start_ (n := 10) (S := fun w' => w'.cell? ⟨gb1226, 0, none⟩ = some (.slice Ao27 y1233.length co27) ∧ w'.cell? ⟨gb1220, 0, none⟩ = some (.slice A0_0 l0_0.length c0_0)) (ds := []) #[false, false, false, false, false, false, false, false, false, false] (by kernel_rfl) rfl rfl ⟨(blk_cell BK1226.out 0).trans rfl, (blk_cell BK1220.out 0).trans rfl⟩ (fun hHeld => ?_); refine with_tabW spec_l2New.tab3 spec_l2New.bits3 (fun HT_ HW_ => ?_)
      generalize w29.drew = w30 at HO1235 BK1220 BK1221 BK1222 BK1226 HB hHeld ⊢
      refine pure_ (i := 1) (N := some 20) (v := ?_) (a' := ?_) #[false, true, false, false, false, false, false, false, false, false] rfl rfl (any_of HT_.out (by kernel_rfl)) (fun _ _ _ h => h) (Or.inl ⟨by rfl, ?_⟩) ?_ ?_
      rotate_left
      · intro w'
        go_simp
        with_reducible rfl
      rotate_left
      · simp only [Act.put, List.setIfInBounds_toArray, List.set_cons_zero, List.set_cons_succ, i64_w, i32_w]
        rfl
      refine pure_ (i := 4) (N := some 23) (v := ?_) (a' := ?_) #[false, true, false, false, true, false, false, false, false, false] rfl rfl (any_of HT_.out (by kernel_rfl)) (fun _ _ _ h => h) (Or.inl ⟨by rfl, ?_⟩) ?_ ?_
      rotate_left
      · intro w'
        go_simp
        with_reducible rfl
      rotate_left
      · simp only [Act.put, List.setIfInBounds_toArray, List.set_cons_zero, List.set_cons_succ, i64_w, i32_w]
        rfl
      refine pure_ (i := 5) (N := some 24) (v := ?_) (a' := ?_) #[false, true, false, false, true, true, false, false, false, false] rfl rfl (any_of HT_.out (by kernel_rfl)) (fun _ _ _ h => h) (Or.inl ⟨by rfl, ?_⟩) ?_ ?_
      rotate_left
      · intro w'
        go_simp
        with_reducible rfl
      rotate_left
      · simp only [Act.put, List.setIfInBounds_toArray, List.set_cons_zero, List.set_cons_succ, i64_w, i32_w]
        rfl
      refine pure_ (i := 6) (N := some 25) (v := ?_) (a' := ?_) #[false, true, false, false, true, true, true, false, false, false] rfl rfl (any_of HT_.out (by kernel_rfl)) (fun _ _ _ h => h) (Or.inl ⟨by rfl, ?_⟩) ?_ ?_
      rotate_left
      · intro w'
        go_simp
        with_reducible rfl
      rotate_left
      · simp only [Act.put, List.setIfInBounds_toArray, List.set_cons_zero, List.set_cons_succ, i64_w, i32_w]
        rfl
      refine take_ (i := 0) (N := some 19) (v := ?_) (a' := ?_) #[true, true, false, false, true, true, true, false, false, false] rfl rfl (take_ofW HT_.out HW_.out (by kernel_rfl)) (fun _ _ _ h => h) (Or.inl ⟨by rfl, ?_⟩) hHeld ?_ ?_
      rotate_left
      · rintro w' ⟨s0, s1⟩
        go_simp
        with_reducible rfl
      rotate_left
      · simp only [Act.put, List.setIfInBounds_toArray, List.set_cons_zero, List.set_cons_succ, i64_w, i32_w]
        rfl
      refine take_ (i := 2) (N := some 21) (v := ?_) (a' := ?_) #[true, true, true, false, true, true, true, false, false, false] rfl rfl (take_ofW HT_.out HW_.out (by kernel_rfl)) (fun _ _ _ h => h) (Or.inl ⟨by rfl, ?_⟩) hHeld ?_ ?_
      rotate_left
      · rintro w' ⟨s0, s1⟩
        go_simp
        with_reducible rfl
      rotate_left
      · simp only [Act.put, List.setIfInBounds_toArray, List.set_cons_zero, List.set_cons_succ, i64_w, i32_w]
        rfl
      refine pure_ (i := 3) (N := some 22) (v := ?_) (a' := ?_) #[true, true, true, true, true, true, true, false, false, false] rfl rfl (any_of HT_.out (by kernel_rfl)) (fun _ _ _ h => h) (Or.inl ⟨by rfl, ?_⟩) ?_ ?_
      rotate_left
      · intro w'
        go_simp
        with_reducible rfl
      rotate_left
      · simp only [Act.put, List.setIfInBounds_toArray, List.set_cons_zero, List.set_cons_succ, i64_w, i32_w]
        rfl
      refine pure_ (i := 7) (N := some 26) (v := ?_) (a' := ?_) #[true, true, true, true, true, true, true, true, false, false] rfl rfl (any_of HT_.out (by kernel_rfl)) (fun _ _ _ h => h) (Or.inl ⟨by rfl, ?_⟩) ?_ ?_
      rotate_left
      · intro w'
        go_simp
        with_reducible rfl
      rotate_left
      · simp only [Act.put, List.setIfInBounds_toArray, List.set_cons_zero, List.set_cons_succ, i64_w, i32_w]
        rfl
      refine one_ (i := 8) (N := none) #[true, true, true, true, true, true, true, true, true, false] rfl rfl (one_of HT_.out (by kernel_rfl)) (by decide) (fun K hK => ?_)
      have hs31 : w30.cell? ⟨gb1221, 0, none⟩ = some (.slice none 0 0) := (blk_cell BK1221.out 0).trans rfl
      have hfs31 := blk_frozen BK1221.out 0
      have hns31_0 := NB1220_1221.out
      have hns31_2 := NB1222_1221.out
      have hns31_3 := NB1226_1221.out
      have hms31_0 := NB1221_1220.out
      have hms31_2 := NB1221_1222.out
      have hms31_3 := NB1221_1226.out
      refine skip_ (w1 := ?_) (by rfl) rfl ?_ ?_
      rotate_left
      · go_simp
        rfl
      refine hK.out _ _ ⟨((cell_far (p := ⟨gb1221, _, none⟩) NB1226_1221.out _).trans (hHeld.1)), ((cell_far (p := ⟨gb1221, _, none⟩) NB1220_1221.out _).trans (hHeld.2))⟩ (fun hHeld => ?_)
      clear hK K
      refine one_ (i := 9) (N := none) #[true, true, true, true, true, true, true, true, true, true] rfl rfl (one_of HT_.out (by kernel_rfl)) (by decide) (fun K hK => ?_)
      have hs32 : w30.cell? ⟨gb1222, 0, none⟩ = some (.int .i64 0) := (blk_cell BK1222.out 0).trans rfl
      have hfs32 := blk_frozen BK1222.out 0
      have hns32_0 := NB1220_1222.out
      have hns32_1 := NB1221_1222.out
      have hns32_3 := NB1226_1222.out
      have hms32_0 := NB1222_1220.out
      have hms32_1 := NB1222_1221.out
      have hms32_3 := NB1222_1226.out
      have hs33 : w30.cell? ⟨gb1222, 1, none⟩ = some (.int .i64 0) := (blk_cell BK1222.out 1).trans rfl
      have hfs33 := blk_frozen BK1222.out 1
      have hns33_0 := NB1220_1222.out
      have hns33_1 := NB1221_1222.out
      have hns33_3 := NB1226_1222.out
      have hms33_0 := NB1222_1220.out
      have hms33_1 := NB1222_1221.out
      have hms33_3 := NB1222_1226.out
      have hs34 : w30.cell? ⟨gb1222, 2, none⟩ = some (.int .i64 0) := (blk_cell BK1222.out 2).trans rfl
      have hfs34 := blk_frozen BK1222.out 2
      have hns34_0 := NB1220_1222.out
      have hns34_1 := NB1221_1222.out
      have hns34_3 := NB1226_1222.out
      have hms34_0 := NB1222_1220.out
      have hms34_1 := NB1222_1221.out
      have hms34_3 := NB1222_1226.out
      have hs35 : w30.cell? ⟨gb1222, 3, none⟩ = some (.int .i64 0) := (blk_cell BK1222.out 3).trans rfl
      have hfs35 := blk_frozen BK1222.out 3
      have hns35_0 := NB1220_1222.out
      have hns35_1 := NB1221_1222.out
      have hns35_3 := NB1226_1222.out
      have hms35_0 := NB1222_1220.out
      have hms35_1 := NB1222_1221.out
      have hms35_3 := NB1222_1226.out
      refine skip_ (w1 := ?_) (by rfl) rfl ?_ ?_
      rotate_left
      · go_simp
        rfl
      refine hK.out _ _ ⟨((cell_far (p := ⟨gb1222, _, none⟩) NB1226_1222.out _).trans (((cell_far (p := ⟨gb1222, _, none⟩) NB1226_1222.out _).trans (((cell_far (p := ⟨gb1222, _, none⟩) NB1226_1222.out _).trans (((cell_far (p := ⟨gb1222, _, none⟩) NB1226_1222.out _).trans (hHeld.1)))))))), ((cell_far (p := ⟨gb1222, _, none⟩) NB1220_1222.out _).trans (((cell_far (p := ⟨gb1222, _, none⟩) NB1220_1222.out _).trans (((cell_far (p := ⟨gb1222, _, none⟩) NB1220_1222.out _).trans (((cell_far (p := ⟨gb1222, _, none⟩) NB1220_1222.out _).trans (hHeld.2))))))))⟩ (fun hHeld => ?_)
      clear hK K
      refine done_ (done_of HT_.out (by kernel_rfl)) ?_
      try go_wp2
      refine bodyPost_ret (results_cc rfl _ _ gb1221 gb1222 26 48 #[.slice Ao27 y1233.length co27] #[.int .i64 (l0_0.length : Int), .int .i64 0, .int .i64 a2, .int .i64 (l1.length : Int)] (0, 0) (0, 0) _ _ rfl (by (with_reducible repeat (first | refine blk_drewN ?_ _ | refine blk_drew ?_ | refine blk_alloc ?_ _)); refine blk_far ?_ NB1221_1222.out _; (with_reducible repeat (first | refine blk_drewN ?_ _ | refine blk_drew ?_ | refine blk_alloc ?_ _)); refine blk_far ?_ NB1221_1222.out _; (with_reducible repeat (first | refine blk_drewN ?_ _ | refine blk_drew ?_ | refine blk_alloc ?_ _)); refine blk_far ?_ NB1221_1222.out _; (with_reducible repeat (first | refine blk_drewN ?_ _ | refine blk_drew ?_ | refine blk_alloc ?_ _)); refine blk_far ?_ NB1221_1222.out _; (with_reducible repeat (first | refine blk_drewN ?_ _ | refine blk_drew ?_ | refine blk_alloc ?_ _)); refine blk_put (cs := #[.slice none 0 0]) ?_ 0 _ rfl; (with_reducible repeat (first | refine blk_drewN ?_ _ | refine blk_drew ?_ | refine blk_alloc ?_ _)); exact BK1221.out) Try.underlying26 rfl (by kernel_rfl) rfl (by (with_reducible repeat (first | refine blk_drewN ?_ _ | refine blk_drew ?_ | refine blk_alloc ?_ _)); refine blk_put (cs := #[.int .i64 (l0_0.length : Int), .int .i64 0, .int .i64 a2, .int .i64 0]) ?_ 3 _ rfl; (with_reducible repeat (first | refine blk_drewN ?_ _ | refine blk_drew ?_ | refine blk_alloc ?_ _)); refine blk_put (cs := #[.int .i64 (l0_0.length : Int), .int .i64 0, .int .i64 0, .int .i64 0]) ?_ 2 _ rfl; (with_reducible repeat (first | refine blk_drewN ?_ _ | refine blk_drew ?_ | refine blk_alloc ?_ _)); refine blk_put (cs := #[.int .i64 (l0_0.length : Int), .int .i64 0, .int .i64 0, .int .i64 0]) ?_ 1 _ rfl; (with_reducible repeat (first | refine blk_drewN ?_ _ | refine blk_drew ?_ | refine blk_alloc ?_ _)); refine blk_put (cs := #[.int .i64 0, .int .i64 0, .int .i64 0, .int .i64 0]) ?_ 0 _ rfl; (with_reducible repeat (first | refine blk_drewN ?_ _ | refine blk_drew ?_ | refine blk_alloc ?_ _)); refine blk_far ?_ NB1222_1221.out _; (with_reducible repeat (first | refine blk_drewN ?_ _ | refine blk_drew ?_ | refine blk_alloc ?_ _)); exact BK1222.out) Try.underlying48 rfl (by kernel_rfl)) rfl ?_
      exact ⟨_, by first | rfl | (simp [errW_none, errW_some] <;> rfl) | (simp [*, errW_none, errW_some] <;> rfl), by (with_reducible repeat (first | apply Kd.S_alloc | apply Kd.S_drewN | apply Kd.S_drew)); exact Kd.S_mono (Kd.S_far (p := ⟨gb1222, 3, none⟩) (Kd.S_far (p := ⟨gb1222, 2, none⟩) (Kd.S_far (p := ⟨gb1222, 1, none⟩) (Kd.S_far (p := ⟨gb1222, 0, none⟩) (Kd.S_far (p := ⟨gb1221, 0, none⟩) (Kd.S_types (Kd.S_types HO1235.out BK1221.out (by decide)) BK1222.out (by decide)) (fun _ hk => hk.1.2) (.slice Ao27 y1233.length co27)) (fun _ hk => hk.2) (.int .i64 (l0_0.length : Int))) (fun _ hk => hk.2) (.int .i64 0)) (fun _ hk => hk.2) (.int .i64 a2)) (fun _ hk => hk.2) (.int .i64 (l1.length : Int))) (fun _ hk => trivial), by repeat (first | (with_reducible first | exact HB.out | apply below_alloc | apply pw_below_drewN | apply below_drew1 | refine below_set ?_ GE1220.out | refine below_set ?_ GE1221.out | refine below_set ?_ GE1222.out | refine below_set ?_ GE1226.out) | exact HB.out)⟩
    · rw [if_neg c6] at H
      exact absurd H (by simp)
  · rw [if_neg c5] at H
    exact absurd H (by simp)

end Go.Proofs.Ytoomjghabiojkaa.P


/- What NewArray comes to. -/
namespace Go.Proofs.Ytoomjghabiojkaa.P
open Go.RowKit Go.Proofs.YtoomjghabiojkaaW.PrintWords
set_option linter.unusedVariables false
theorem l2New_f (m : List (List Int)) (l : List Int) (n : Int) (h : okM m) (hl : l.length ≤ 1048576) : Ev (fun k => spec_l2New.f k m l n) (m ++ [l], (m.length : Int), 0, n, (l.length : Int)) := by
  refine Ev.bind (l2Own_f m h) ?_
  have h7 : m.length < 5864062014805 := by have := h.1; omega
  have h8 : ([] : List Int).length + l.length < 140737488355328 := by simp; omega
  simp only [Option.bind_some, if_pos h8, if_pos h7]
  exact Ev.now _
end Go.Proofs.Ytoomjghabiojkaa.P


namespace Go.Proofs.Ytoomjghabiojkaa.P
open Go.RowKit Go.Proofs.YtoomjghabiojkaaW.PrintWords Go.Proofs.YtoomjghabiojkaaW.PrintLast Go.Proofs.YtoomjghabiojkaaW.PrintMore
attribute [local go_sem] max2_int min2_int max_two min_two max_three min_three max_four min_four   -- for this text's walks alone
set_option linter.unusedVariables false
set_option linter.unusedSimpArgs false

def spec_l2Slice.f (a0_0 : Int) (a0_1 : Int) (a0_2 : Int) (a0_3 : Int) (a1 : Int) (a2 : Int) (a3 : Int) : Option (Int × Int × Int × Int) := some (a0_0, wrap64 (a0_1 + a1), wrap64 (a2 - a1), wrap64 (a3 - a1))
set_option maxHeartbeats 8000000 in
set_option maxRecDepth 100000 in
theorem spec_l2Slice.calls (a0_0 : Int) (a0_1 : Int) (a0_2 : Int) (a0_3 : Int) (a1 : Int) (a2 : Int) (a3 : Int) (r1 : Int) (r2 : Int) (r3 : Int) (r4 : Int) (w : World) (h : spec_l2Slice.f a0_0 a0_1 a0_2 a0_3 a1 a2 a3 = some (r1, r2, r3, r4)) :
    Calls Try.prog 100 #[.agg #[.int .i64 a0_0, .int .i64 a0_1, .int .i64 a0_2, .int .i64 a0_3], .int .i64 a1, .int .i64 a2, .int .i64 a3] w fun e w' => e = .returned (.agg #[.int .i64 r1, .int .i64 r2, .int .i64 r3, .int .i64 r4]) ∧ Below w.heap.size w w' := by
  have hu48 := Try.underlying48
  have HB := Aside0.mk (Below.refl w.heap.size w)
  have H : (some (a0_0, wrap64 (a0_1 + a1), wrap64 (a2 - a1), wrap64 (a3 - a1))) = some (r1, r2, r3, r4) := h
  clear h
  simp only [Option.some.injEq, Prod.mk.injEq] at H
  obtain ⟨rfl, rfl, rfl, rfl⟩ := H
  go_enter Try.func100, Try.ntmps100
  go_wp2_with (first | ((with_reducible refine gate_dst (N := 4) rfl ?_); refine box_event ?hg (N := 4) ?hd (cs := #[.int .i64 a0_0, .int .i64 a0_1, .int .i64 a0_2, .int .i64 a0_3]) (t := 48) ?hr ?_; (case hd => rfl); (case hg => rfl); (case hr => first | (go_simp; done) | (go_simp; rfl)); intro gb546 hg w5 hbox hb; have n0_ := Aside0.mk (below_step (by repeat (first | (with_reducible first | exact HB.out | apply below_alloc | apply pw_below_drewN | apply below_drew1) | exact HB.out)) hb); have n1_ := Aside0.mk (hbox); have n2_ := Aside0.mk ((by rw [hg]; exact (below_size (by repeat (first | (with_reducible first | exact HB.out | apply below_alloc | apply pw_below_drewN | apply below_drew1) | exact HB.out))) : w.heap.size ≤ gb546)); have n3_ := Aside0.mk ((by rw [hg]; exact (below_size (by repeat (first | (with_reducible first | exact HB.out | apply below_alloc | apply pw_below_drewN | apply below_drew1) | exact HB.out))) : w.heap.size ≤ gb546)); clear HB; have HB := n0_; have BK546 := n1_; have GW546 := n2_; have GE546 := n3_; clear n0_ n1_ n2_ n3_; clear hb hbox hg) | ((with_reducible refine gate_dst (N := 8) rfl ?_); refine box_event ?hg (N := 8) ?hd (cs := #[.int .i64 0, .int .i64 0, .int .i64 0, .int .i64 0]) (t := 48) ?hr ?_; (case hd => rfl); (case hg => rfl); (case hr => first | (go_simp; done) | (go_simp; rfl)); intro gb547 hg w6 hbox hb; have n0_ := Aside0.mk (blk_below (g := gb546) (o := .cells #[.int .i64 a0_0, .int .i64 a0_1, .int .i64 a0_2, .int .i64 a0_3] 48 (0, 0)) (by (with_reducible repeat (first | refine blk_drewN ?_ _ | refine blk_drew ?_ | refine blk_alloc ?_ _)); exact BK546.out) hb); have n1_ := Aside0.mk (below_step (by repeat (first | (with_reducible first | exact HB.out | apply below_alloc | apply pw_below_drewN | apply below_drew1 | refine below_set ?_ GE546.out) | exact HB.out)) hb); have n2_ := Aside0.mk (hbox); have n3_ := Aside0.mk ((by rw [hg]; exact (below_size (by repeat (first | (with_reducible first | exact HB.out | apply below_alloc | apply pw_below_drewN | apply below_drew1 | refine below_set ?_ GE546.out) | exact HB.out))) : w.heap.size ≤ gb547)); have n4_ := Aside0.mk ((by rw [hg]; exact (below_size (by repeat (first | (with_reducible first | exact HB.out | apply below_alloc | apply pw_below_drewN | apply below_drew1 | refine below_set ?_ GE546.out) | exact HB.out))) : w.heap.size ≤ gb547)); have n5_ := Aside0.mk ((by rw [hg]; exact Nat.ne_of_lt (blk_lt (g := gb546) (o := .cells #[.int .i64 a0_0, .int .i64 a0_1, .int .i64 a0_2, .int .i64 a0_3] 48 (0, 0)) (by (with_reducible repeat (first | refine blk_drewN ?_ _ | refine blk_drew ?_ | refine blk_alloc ?_ _)); exact BK546.out)) : gb546 ≠ gb547)); have n6_ := Aside0.mk ((by rw [hg]; exact Nat.ne_of_gt (blk_lt (g := gb546) (o := .cells #[.int .i64 a0_0, .int .i64 a0_1, .int .i64 a0_2, .int .i64 a0_3] 48 (0, 0)) (by (with_reducible repeat (first | refine blk_drewN ?_ _ | refine blk_drew ?_ | refine blk_alloc ?_ _)); exact BK546.out)) : gb547 ≠ gb546)); clear BK546; clear HB; have BK546 := n0_; have HB := n1_; have BK547 := n2_; have GW547 := n3_; have GE547 := n4_; have NB546_547 := n5_; have NB547_546 := n6_; clear n0_ n1_ n2_ n3_ n4_ n5_ n6_; clear hb hbox hg; have hnb7 := NB546_547.out; have hnc7 := NB547_546.out; have hcz8_0 : w6.cell? ⟨gb546, 0, none⟩ = some (.int .i64 a0_0) := (blk_cell BK546.out 0).trans rfl; have hcz8_1 : w6.cell? ⟨gb546, 1, none⟩ = some (.int .i64 a0_1) := (blk_cell BK546.out 1).trans rfl; have hcz8_2 : w6.cell? ⟨gb546, 2, none⟩ = some (.int .i64 a0_2) := (blk_cell BK546.out 2).trans rfl; have hcz8_3 : w6.cell? ⟨gb546, 3, none⟩ = some (.int .i64 a0_3) := (blk_cell BK546.out 3).trans rfl; have hfz8_0 := blk_frozen BK546.out 0; have hfz8_1 := blk_frozen BK546.out 1; have hfz8_2 := blk_frozen BK546.out 2; have hfz8_3 := blk_frozen BK546.out 3; have hcz9_0 : w6.cell? ⟨gb547, 0, none⟩ = some (.int .i64 0) := (blk_cell BK547.out 0).trans rfl; have hcz9_1 : w6.cell? ⟨gb547, 1, none⟩ = some (.int .i64 0) := (blk_cell BK547.out 1).trans rfl; have hcz9_2 : w6.cell? ⟨gb547, 2, none⟩ = some (.int .i64 0) := (blk_cell BK547.out 2).trans rfl; have hcz9_3 : w6.cell? ⟨gb547, 3, none⟩ = some (.int .i64 0) := (blk_cell BK547.out 3).trans rfl; have hfz9_0 := blk_frozen BK547.out 0; have hfz9_1 := blk_frozen BK547.out 1; have hfz9_2 := blk_frozen BK547.out 2; have hfz9_3 := blk_frozen BK547.out 3))
  refine bodyPost_ret (results_cell_row rfl _ _ gb547 48 #[.int .i64 a0_0, .int .i64 (wrap64 (a0_1 + a1)), .int .i64 (wrap64 (a2 - a1)), .int .i64 (wrap64 (a3 - a1))] (0, 0) _ rfl (by (with_reducible repeat (first | refine blk_drewN ?_ _ | refine blk_drew ?_ | refine blk_alloc ?_ _)); refine blk_put (cs := #[.int .i64 a0_0, .int .i64 (wrap64 (a0_1 + a1)), .int .i64 (wrap64 (a2 - a1)), .int .i64 0]) ?_ 3 _ rfl; (with_reducible repeat (first | refine blk_drewN ?_ _ | refine blk_drew ?_ | refine blk_alloc ?_ _)); refine blk_put (cs := #[.int .i64 a0_0, .int .i64 (wrap64 (a0_1 + a1)), .int .i64 0, .int .i64 0]) ?_ 2 _ rfl; (with_reducible repeat (first | refine blk_drewN ?_ _ | refine blk_drew ?_ | refine blk_alloc ?_ _)); refine blk_put (cs := #[.int .i64 a0_0, .int .i64 0, .int .i64 0, .int .i64 0]) ?_ 1 _ rfl; (with_reducible repeat (first | refine blk_drewN ?_ _ | refine blk_drew ?_ | refine blk_alloc ?_ _)); refine blk_put (cs := #[.int .i64 0, .int .i64 0, .int .i64 0, .int .i64 0]) ?_ 0 _ rfl; (with_reducible repeat (first | refine blk_drewN ?_ _ | refine blk_drew ?_ | refine blk_alloc ?_ _)); exact BK547.out) Try.underlying48 rfl (by kernel_rfl)) rfl ?_
  exact ⟨by first | rfl | (simp [errW_none, errW_some] <;> rfl) | (simp [*, errW_none, errW_some] <;> rfl), by repeat (first | (with_reducible first | exact HB.out | apply below_alloc | apply pw_below_drewN | apply below_drew1 | refine below_set ?_ GE546.out | refine below_set ?_ GE547.out) | exact HB.out)⟩

end Go.Proofs.Ytoomjghabiojkaa.P


namespace Go.Proofs.Ytoomjghabiojkaa.P
open Go.RowKit Go.Proofs.YtoomjghabiojkaaW.PrintWords Go.Proofs.YtoomjghabiojkaaW.PrintLast Go.Proofs.YtoomjghabiojkaaW.PrintMore
attribute [local go_sem] max2_int min2_int max_two min_two max_three min_three max_four min_four   -- for this text's walks alone
set_option linter.unusedVariables false
set_option linter.unusedSimpArgs false

def spec_l1Least.f (a0 : Int) (a1 : Int) : Option (Int) := if a0 < a1 then (some a0) else (some a1)
set_option maxHeartbeats 8000000 in
set_option maxRecDepth 100000 in
theorem spec_l1Least.calls (a0 : Int) (a1 : Int) (r : Int) (w : World) (h : spec_l1Least.f a0 a1 = some r) :
    Calls Try.prog 157 #[.int .i64 a0, .int .i64 a1] w fun e w' => e = .returned (.int .i64 r) ∧ Drawn0 w w' := by
  have H : (if a0 < a1 then (some a0) else (some a1)) = some r := h
  clear h
  by_cases c3 : a0 < a1
  · rw [if_pos c3] at H
    have c3b0 : decide (a0 < a1) = true := decide_eq_true c3
    clear c3
    obtain rfl := Option.some.inj H
    go_enter Try.func157, Try.ntmps157
    go_wp2
    go_ret
    exact ⟨by first | rfl | (simp; done) | (simp [*]; done), by repeat (first | exact Drawn0.refl _ | apply Drawn0.step)⟩
  · rw [if_neg c3] at H
    have c3b0 : decide (a0 < a1) = false := decide_eq_false c3
    clear c3
    obtain rfl := Option.some.inj H
    go_enter Try.func157, Try.ntmps157
    go_wp2
    go_ret
    exact ⟨by first | rfl | (simp; done) | (simp [*]; done), by repeat (first | exact Drawn0.refl _ | apply Drawn0.step)⟩

end Go.Proofs.Ytoomjghabiojkaa.P


namespace Go.Proofs.Ytoomjghabiojkaa.P
open Go.RowKit Go.Proofs.YtoomjghabiojkaaW.PrintWords Go.Proofs.YtoomjghabiojkaaW.PrintLast Go.Proofs.YtoomjghabiojkaaW.PrintMore
attribute [local go_sem] max2_int min2_int max_two min_two max_three min_three max_four min_four   -- for this text's walks alone
set_option linter.unusedVariables false
set_option linter.unusedSimpArgs false

def spec_l2Room.f (a0_0 : Int) (a0_1 : Int) (a0_2 : Int) (a0_3 : Int) : Option (Int) := some (wrap64 (a0_3 - a0_2))
set_option maxHeartbeats 8000000 in
set_option maxRecDepth 100000 in
theorem spec_l2Room.calls (a0_0 : Int) (a0_1 : Int) (a0_2 : Int) (a0_3 : Int) (r : Int) (w : World) (h : spec_l2Room.f a0_0 a0_1 a0_2 a0_3 = some r) :
    Calls Try.prog 159 #[.agg #[.int .i64 a0_0, .int .i64 a0_1, .int .i64 a0_2, .int .i64 a0_3]] w fun e w' => e = .returned (.int .i64 r) ∧ Below w.heap.size w w' := by
  have hu48 := Try.underlying48
  have HB := Aside0.mk (Below.refl w.heap.size w)
  have H : (some (wrap64 (a0_3 - a0_2))) = some r := h
  clear h
  obtain rfl := Option.some.inj H
  go_enter Try.func159, Try.ntmps159
  go_wp2_with (first | ((with_reducible refine gate_dst (N := 1) rfl ?_); refine box_event ?hg (N := 1) ?hd (cs := #[.int .i64 a0_0, .int .i64 a0_1, .int .i64 a0_2, .int .i64 a0_3]) (t := 48) ?hr ?_; (case hd => rfl); (case hg => rfl); (case hr => first | (go_simp; done) | (go_simp; rfl)); intro gb1236 hg w2 hbox hb; have n0_ := Aside0.mk (below_step (by repeat (first | (with_reducible first | exact HB.out | apply below_alloc | apply pw_below_drewN | apply below_drew1) | exact HB.out)) hb); have n1_ := Aside0.mk (hbox); have n2_ := Aside0.mk ((by rw [hg]; exact (below_size (by repeat (first | (with_reducible first | exact HB.out | apply below_alloc | apply pw_below_drewN | apply below_drew1) | exact HB.out))) : w.heap.size ≤ gb1236)); have n3_ := Aside0.mk ((by rw [hg]; exact (below_size (by repeat (first | (with_reducible first | exact HB.out | apply below_alloc | apply pw_below_drewN | apply below_drew1) | exact HB.out))) : w.heap.size ≤ gb1236)); clear HB; have HB := n0_; have BK1236 := n1_; have GW1236 := n2_; have GE1236 := n3_; clear n0_ n1_ n2_ n3_; clear hb hbox hg; have hcz3_0 : w2.cell? ⟨gb1236, 0, none⟩ = some (.int .i64 a0_0) := (blk_cell BK1236.out 0).trans rfl; have hcz3_1 : w2.cell? ⟨gb1236, 1, none⟩ = some (.int .i64 a0_1) := (blk_cell BK1236.out 1).trans rfl; have hcz3_2 : w2.cell? ⟨gb1236, 2, none⟩ = some (.int .i64 a0_2) := (blk_cell BK1236.out 2).trans rfl; have hcz3_3 : w2.cell? ⟨gb1236, 3, none⟩ = some (.int .i64 a0_3) := (blk_cell BK1236.out 3).trans rfl; have hfz3_0 := blk_frozen BK1236.out 0; have hfz3_1 := blk_frozen BK1236.out 1; have hfz3_2 := blk_frozen BK1236.out 2; have hfz3_3 := blk_frozen BK1236.out 3))
  go_ret
  exact ⟨by first | rfl | (simp [errW_none, errW_some] <;> rfl) | (simp [*, errW_none, errW_some] <;> rfl), by repeat (first | (with_reducible first | exact HB.out | apply below_alloc | apply pw_below_drewN | apply below_drew1 | refine below_set ?_ GE1236.out) | exact HB.out)⟩

end Go.Proofs.Ytoomjghabiojkaa.P


namespace Go.Proofs.Ytoomjghabiojkaa.P
open Go.RowKit Go.Proofs.YtoomjghabiojkaaW.PrintWords Go.Proofs.YtoomjghabiojkaaW.PrintLast Go.Proofs.YtoomjghabiojkaaW.PrintMore
attribute [local go_sem] max2_int min2_int max_two min_two max_three min_three max_four min_four   -- for this text's walks alone
set_option linter.unusedVariables false
set_option linter.unusedSimpArgs false

def spec_l1Most.f (a0 : Int) (a1 : Int) : Option (Int) := if a0 > a1 then (some a0) else (some a1)
set_option maxHeartbeats 8000000 in
set_option maxRecDepth 100000 in
theorem spec_l1Most.calls (a0 : Int) (a1 : Int) (r : Int) (w : World) (h : spec_l1Most.f a0 a1 = some r) :
    Calls Try.prog 160 #[.int .i64 a0, .int .i64 a1] w fun e w' => e = .returned (.int .i64 r) ∧ Drawn0 w w' := by
  have H : (if a0 > a1 then (some a0) else (some a1)) = some r := h
  clear h
  by_cases c3 : a0 > a1
  · rw [if_pos c3] at H
    have c3b0 : decide (a1 < a0) = true := decide_eq_true c3
    clear c3
    obtain rfl := Option.some.inj H
    go_enter Try.func160, Try.ntmps160
    go_wp2
    go_ret
    exact ⟨by first | rfl | (simp; done) | (simp [*]; done), by repeat (first | exact Drawn0.refl _ | apply Drawn0.step)⟩
  · rw [if_neg c3] at H
    have c3b0 : decide (a1 < a0) = false := decide_eq_false c3
    clear c3
    obtain rfl := Option.some.inj H
    go_enter Try.func160, Try.ntmps160
    go_wp2
    go_ret
    exact ⟨by first | rfl | (simp; done) | (simp [*]; done), by repeat (first | exact Drawn0.refl _ | apply Drawn0.step)⟩

end Go.Proofs.Ytoomjghabiojkaa.P


namespace Go.Proofs.Ytoomjghabiojkaa.P
open Go.RowKit Go.Proofs.YtoomjghabiojkaaW.PrintWords Go.Proofs.YtoomjghabiojkaaW.PrintLast Go.Proofs.YtoomjghabiojkaaW.PrintMore
attribute [local go_sem] max2_int min2_int max_two min_two max_three min_three max_four min_four   -- for this text's walks alone
set_option linter.unusedVariables false
set_option linter.unusedSimpArgs false

mutual
def spec_l2Append.j0 : Nat → List Int → Bool → List (List Int) → Int → Int → Int → Int → Option ((List (List Int)) × Int × Int × Int × Int × Bool)
  | 0, _, _, _, _, _, _, _ => none
  | k + 1, x2, x44, x1238000, x1239000, x1239001, x1239002, x1239003 => if x44 = true then (some (([] : List (List Int)), 0, 0, 0, 0, false)) else ((spec_l2Bytes.f k x1238000 x1239000 x1239001 x1239002 x1239003).bind fun t1249 => (if t1249.length + x2.length < 140737488355328 then (spec_l2Append.l0 k (wrap64 (x1239002 + (x2.length : Int))) (t1249 ++ x2) x1238000 x1239000 x1239001 x1239002 x1239003) else (none)))
def spec_l2Append.l0 : Nat → Int → List Int → List (List Int) → Int → Int → Int → Int → Option ((List (List Int)) × Int × Int × Int × Int × Bool)
  | 0, _, _, _, _, _, _, _ => none
  | k + 1, x9, x10, x1238000, x1239000, x1239001, x1239002, x1239003 => (spec_l1Most.f (wrap64 (2 * x1239003)) x9).bind fun t1255 => ((spec_l1Least.f t1255 64).bind fun t1256 => (if (x10.length : Int) < t1256 then (if x10.length < 140737488355328 then (spec_l2Append.l0 k x9 (x10 ++ [0]) x1238000 x1239000 x1239001 x1239002 x1239003) else (none)) else ((spec_l2New.f k x1238000 x10 x9).bind fun bt1260 => (some (bt1260.1, bt1260.2.1, bt1260.2.2.1, bt1260.2.2.2.1, bt1260.2.2.2.2, true)))))
end
def spec_l2Append.f (k : Nat) (l0_0 : List (List Int)) (a1_0 : Int) (a1_1 : Int) (a1_2 : Int) (a1_3 : Int) (l2 : List Int) : Option ((List (List Int)) × Int × Int × Int × Int × Bool) := (spec_l2Room.f a1_0 a1_1 a1_2 a1_3).bind fun t1241 => (if (l2.length : Int) ≤ t1241 then ((spec_l2Write.f k l0_0 a1_0 a1_1 a1_2 a1_3 a1_2 l2).bind fun t1242 => ((spec_l2Slice.f a1_0 a1_1 a1_2 a1_3 0 (wrap64 (a1_2 + (l2.length : Int))) a1_3).bind fun bt1245 => (some (t1242, bt1245.1, bt1245.2.1, bt1245.2.2.1, bt1245.2.2.2, true)))) else (if (l2.length : Int) > (wrap64 (64 - a1_2)) then (spec_l2Append.j0 k l2 true l0_0 a1_0 a1_1 a1_2 a1_3) else (spec_l2Append.j0 k l2 ((l0_0.length : Int) == 16) l0_0 a1_0 a1_1 a1_2 a1_3)))
def spec_l2Append.T2 : Bool × List (List Nat × List Nat) := (true, [([], []), ([], []), ([], []), ([2], [2]), ([], []), ([0, 1, 3, 4], [0, 1, 3, 4]), ([], []), ([], []), ([7], [7]), ([], []), ([9], [9]), ([8, 10], [8, 10]), ([], []), ([12], [12]), ([6, 11, 13, 5], [6, 11, 13]), ([5, 14, 0, 1, 2, 3, 4, 5], [5]), ([14, 15, 0, 1, 2, 3, 4, 5, 6, 7, 8, 9, 10, 11, 12, 13, 14, 15], [14]), ([16, 0, 1, 2, 3, 4, 5, 6, 7, 8, 9, 10, 11, 12, 13, 14, 15, 16], [])])
def spec_l2Append.B2 : List Nat := [0, 0, 0, 4, 0, 31, 0, 0, 128, 0, 512, 1920, 0, 4096, 16383, 32767, 65535, 131071]
theorem spec_l2Append.tab2 : rtab .any (opsOf Try.f151 2) = spec_l2Append.T2 := by kernel_rfl
theorem spec_l2Append.bits2 : waitsOk spec_l2Append.T2.2 spec_l2Append.B2 = true := by kernel_rfl
set_option maxHeartbeats 8000000 in
set_option maxRecDepth 100000 in
theorem spec_l2Append.calls (k : Nat) (A0_0 : Option Addr) (c0_0 : Nat) (l0_0 : List (List Int)) (a1_0 : Int) (a1_1 : Int) (a1_2 : Int) (a1_3 : Int) (A2 : Option Addr) (c2 : Nat) (l2 : List Int) (r1 : List (List Int)) (r2 : Int) (r3 : Int) (r4 : Int) (r5 : Int) (r6 : Bool) (w : World) (hr0_0 : Kd.C (Kd.slice 5 (Kd.int .u8)) w A0_0 l0_0.length l0_0) (hc0_0 : l0_0.length ≤ c0_0) (hr2 : Kd.C (Kd.int .u8) w A2 l2.length l2) (hc2 : l2.length ≤ c2) (h : spec_l2Append.f k l0_0 a1_0 a1_1 a1_2 a1_3 l2 = some (r1, r2, r3, r4, r5, r6)) :
    Calls Try.prog 151 #[.agg #[.slice A0_0 l0_0.length c0_0], .agg #[.int .i64 a1_0, .int .i64 a1_1, .int .i64 a1_2, .int .i64 a1_3], .slice A2 l2.length c2] w fun e w' => ∃ v0_ : Value, e = .returned (.tuple #[.agg #[v0_], .agg #[.int .i64 r2, .int .i64 r3, .int .i64 r4, .int .i64 r5], .bool r6]) ∧ Kd.S (Kd.slice 5 (Kd.int .u8)) 119 w' w.heap.size (fun _ => True) v0_ r1 ∧ Below w.heap.size w w' := by
  have hu26 := Try.underlying26
  have hu48 := Try.underlying48
  have HR0_0 := Aside0.mk hr0_0
  have HC0_0 := Aside0.mk hc0_0
  clear hr0_0 hc0_0
  have HR2 := Aside0.mk hr2
  have HC2 := Aside0.mk hc2
  clear hr2 hc2
  have HB := Aside0.mk (Below.refl w.heap.size w)
  have H : ((spec_l2Room.f a1_0 a1_1 a1_2 a1_3).bind fun t1241 => (if (l2.length : Int) ≤ t1241 then ((spec_l2Write.f k l0_0 a1_0 a1_1 a1_2 a1_3 a1_2 l2).bind fun t1242 => ((spec_l2Slice.f a1_0 a1_1 a1_2 a1_3 0 (wrap64 (a1_2 + (l2.length : Int))) a1_3).bind fun bt1245 => (some (t1242, bt1245.1, bt1245.2.1, bt1245.2.2.1, bt1245.2.2.2, true)))) else (if (l2.length : Int) > (wrap64 (64 - a1_2)) then (spec_l2Append.j0 k l2 true l0_0 a1_0 a1_1 a1_2 a1_3) else (spec_l2Append.j0 k l2 ((l0_0.length : Int) == 16) l0_0 a1_0 a1_1 a1_2 a1_3)))) = some (r1, r2, r3, r4, r5, r6) := h
  clear h
  replace H := Option.bind_eq_some_iff.mp H
  obtain ⟨t1241, A40, H⟩ := H
  replace H : (if (l2.length : Int) ≤ t1241 then ((spec_l2Write.f k l0_0 a1_0 a1_1 a1_2 a1_3 a1_2 l2).bind fun t1242 => ((spec_l2Slice.f a1_0 a1_1 a1_2 a1_3 0 (wrap64 (a1_2 + (l2.length : Int))) a1_3).bind fun bt1245 => (some (t1242, bt1245.1, bt1245.2.1, bt1245.2.2.1, bt1245.2.2.2, true)))) else (if (l2.length : Int) > (wrap64 (64 - a1_2)) then (spec_l2Append.j0 k l2 true l0_0 a1_0 a1_1 a1_2 a1_3) else (spec_l2Append.j0 k l2 ((l0_0.length : Int) == 16) l0_0 a1_0 a1_1 a1_2 a1_3))) = some (r1, r2, r3, r4, r5, r6) := H
  have A4 := Aside0.mk A40
  clear A40
  by_cases c5 : (l2.length : Int) ≤ t1241
  · rw [if_pos c5] at H
    have c5b0 : decide ((l2.length : Int) ≤ t1241) = true := decide_eq_true c5
    clear c5
    replace H := Option.bind_eq_some_iff.mp H
    obtain ⟨t1242, A60, H⟩ := H
    replace H : ((spec_l2Slice.f a1_0 a1_1 a1_2 a1_3 0 (wrap64 (a1_2 + (l2.length : Int))) a1_3).bind fun bt1245 => (some (t1242, bt1245.1, bt1245.2.1, bt1245.2.2.1, bt1245.2.2.2, true))) = some (r1, r2, r3, r4, r5, r6) := H
    have A6 := Aside0.mk A60
    clear A60
    replace H := Option.bind_eq_some_iff.mp H
    obtain ⟨⟨t1245, t1246, t1247, t1248⟩, A70, H⟩ := H
    replace H : (some (t1242, t1245, t1246, t1247, t1248, true)) = some (r1, r2, r3, r4, r5, r6) := H
    have A7 := Aside0.mk A70
    clear A70
    simp only [Option.some.injEq, Prod.mk.injEq] at H
    obtain ⟨rfl, rfl, rfl, rfl, rfl, rfl⟩ := H
    go_enter Try.func151, Try.ntmps151
    try go_wp2_with (first | ((with_reducible refine gate_dst (N := 3) rfl ?_); (try (refine gate_guard (by rfl) ?_; dsimp only)); refine box_event ?hg (N := 3) ?hd (cs := #[.slice A0_0 l0_0.length c0_0]) (t := 26) ?hr ?_; (case hd => rfl); (case hg => rfl); (case hr => first | (go_simp; done) | (go_simp; rfl)); intro gb1237 hg w8 hbox hb; have n0_ := Aside0.mk (below_step (by repeat (first | (with_reducible first | exact HB.out | apply below_alloc | apply pw_below_drewN | apply below_drew1) | exact HB.out)) hb); have n1_ := Aside0.mk (hbox); have n2_ := Aside0.mk ((by rw [hg]; exact (below_size (by repeat (first | (with_reducible first | exact HB.out | apply below_alloc | apply pw_below_drewN | apply below_drew1) | exact HB.out))) : w.heap.size ≤ gb1237)); have n3_ := Aside0.mk ((by rw [hg]; exact (below_size (by repeat (first | (with_reducible first | exact HB.out | apply below_alloc | apply pw_below_drewN | apply below_drew1) | exact HB.out))) : w.heap.size ≤ gb1237)); clear HB; have HB := n0_; have BK1237 := n1_; have GW1237 := n2_; have GE1237 := n3_; clear n0_ n1_ n2_ n3_; clear hb hbox hg) | ((with_reducible refine gate_dst (N := 4) rfl ?_); (try (refine gate_guard (by rfl) ?_; dsimp only)); refine box_event ?hg (N := 4) ?hd (cs := #[.int .i64 a1_0, .int .i64 a1_1, .int .i64 a1_2, .int .i64 a1_3]) (t := 48) ?hr ?_; (case hd => rfl); (case hg => rfl); (case hr => first | (go_simp; done) | (go_simp; rfl)); intro gb1238 hg w9 hbox hb; have n0_ := Aside0.mk (blk_below (g := gb1237) (o := .cells #[.slice A0_0 l0_0.length c0_0] 26 (0, 0)) (by (with_reducible repeat (first | refine blk_drewN ?_ _ | refine blk_drew ?_ | refine blk_alloc ?_ _)); exact BK1237.out) hb); have n1_ := Aside0.mk (below_step (by repeat (first | (with_reducible first | exact HB.out | apply below_alloc | apply pw_below_drewN | apply below_drew1 | refine below_set ?_ GE1237.out) | exact HB.out)) hb); have n2_ := Aside0.mk (hbox); have n3_ := Aside0.mk ((by rw [hg]; exact (below_size (by repeat (first | (with_reducible first | exact HB.out | apply below_alloc | apply pw_below_drewN | apply below_drew1 | refine below_set ?_ GE1237.out) | exact HB.out))) : w.heap.size ≤ gb1238)); have n4_ := Aside0.mk ((by rw [hg]; exact (below_size (by repeat (first | (with_reducible first | exact HB.out | apply below_alloc | apply pw_below_drewN | apply below_drew1 | refine below_set ?_ GE1237.out) | exact HB.out))) : w.heap.size ≤ gb1238)); have n5_ := Aside0.mk ((by rw [hg]; exact Nat.ne_of_lt (blk_lt (g := gb1237) (o := .cells #[.slice A0_0 l0_0.length c0_0] 26 (0, 0)) (by (with_reducible repeat (first | refine blk_drewN ?_ _ | refine blk_drew ?_ | refine blk_alloc ?_ _)); exact BK1237.out)) : gb1237 ≠ gb1238)); have n6_ := Aside0.mk ((by rw [hg]; exact Nat.ne_of_gt (blk_lt (g := gb1237) (o := .cells #[.slice A0_0 l0_0.length c0_0] 26 (0, 0)) (by (with_reducible repeat (first | refine blk_drewN ?_ _ | refine blk_drew ?_ | refine blk_alloc ?_ _)); exact BK1237.out)) : gb1238 ≠ gb1237)); clear BK1237; clear HB; have BK1237 := n0_; have HB := n1_; have BK1238 := n2_; have GW1238 := n3_; have GE1238 := n4_; have NB1237_1238 := n5_; have NB1238_1237 := n6_; clear n0_ n1_ n2_ n3_ n4_ n5_ n6_; clear hb hbox hg) | ((with_reducible refine gate_dst (N := 6) rfl ?_); (try (refine gate_guard (by rfl) ?_; dsimp only)); refine box_event ?hg (N := 6) ?hd (cs := #[.slice none 0 0]) (t := 26) ?hr ?_; (case hd => rfl); (case hg => rfl); (case hr => first | (go_simp; done) | (go_simp; rfl)); intro gb1239 hg w10 hbox hb; have n0_ := Aside0.mk (blk_below (g := gb1237) (o := .cells #[.slice A0_0 l0_0.length c0_0] 26 (0, 0)) (by (with_reducible repeat (first | refine blk_drewN ?_ _ | refine blk_drew ?_ | refine blk_alloc ?_ _)); exact BK1237.out) hb); have n1_ := Aside0.mk (blk_below (g := gb1238) (o := .cells #[.int .i64 a1_0, .int .i64 a1_1, .int .i64 a1_2, .int .i64 a1_3] 48 (0, 0)) (by (with_reducible repeat (first | refine blk_drewN ?_ _ | refine blk_drew ?_ | refine blk_alloc ?_ _)); exact BK1238.out) hb); have n2_ := Aside0.mk (below_step (by repeat (first | (with_reducible first | exact HB.out | apply below_alloc | apply pw_below_drewN | apply below_drew1 | refine below_set ?_ GE1237.out | refine below_set ?_ GE1238.out) | exact HB.out)) hb); have n3_ := Aside0.mk (hbox); have n4_ := Aside0.mk ((by rw [hg]; exact (below_size (by repeat (first | (with_reducible first | exact HB.out | apply below_alloc | apply pw_below_drewN | apply below_drew1 | refine below_set ?_ GE1237.out | refine below_set ?_ GE1238.out) | exact HB.out))) : w.heap.size ≤ gb1239)); have n5_ := Aside0.mk ((by rw [hg]; exact (below_size (by repeat (first | (with_reducible first | exact HB.out | apply below_alloc | apply pw_below_drewN | apply below_drew1 | refine below_set ?_ GE1237.out | refine below_set ?_ GE1238.out) | exact HB.out))) : w.heap.size ≤ gb1239)); have n6_ := Aside0.mk ((by rw [hg]; exact Nat.ne_of_lt (blk_lt (g := gb1237) (o := .cells #[.slice A0_0 l0_0.length c0_0] 26 (0, 0)) (by (with_reducible repeat (first | refine blk_drewN ?_ _ | refine blk_drew ?_ | refine blk_alloc ?_ _)); exact BK1237.out)) : gb1237 ≠ gb1239)); have n7_ := Aside0.mk ((by rw [hg]; exact Nat.ne_of_gt (blk_lt (g := gb1237) (o := .cells #[.slice A0_0 l0_0.length c0_0] 26 (0, 0)) (by (with_reducible repeat (first | refine blk_drewN ?_ _ | refine blk_drew ?_ | refine blk_alloc ?_ _)); exact BK1237.out)) : gb1239 ≠ gb1237)); have n8_ := Aside0.mk ((by rw [hg]; exact Nat.ne_of_lt (blk_lt (g := gb1238) (o := .cells #[.int .i64 a1_0, .int .i64 a1_1, .int .i64 a1_2, .int .i64 a1_3] 48 (0, 0)) (by (with_reducible repeat (first | refine blk_drewN ?_ _ | refine blk_drew ?_ | refine blk_alloc ?_ _)); exact BK1238.out)) : gb1238 ≠ gb1239)); have n9_ := Aside0.mk ((by rw [hg]; exact Nat.ne_of_gt (blk_lt (g := gb1238) (o := .cells #[.int .i64 a1_0, .int .i64 a1_1, .int .i64 a1_2, .int .i64 a1_3] 48 (0, 0)) (by (with_reducible repeat (first | refine blk_drewN ?_ _ | refine blk_drew ?_ | refine blk_alloc ?_ _)); exact BK1238.out)) : gb1239 ≠ gb1238)); clear BK1237; clear BK1238; clear HB; have BK1237 := n0_; have BK1238 := n1_; have HB := n2_; have BK1239 := n3_; have GW1239 := n4_; have GE1239 := n5_; have NB1237_1239 := n6_; have NB1239_1237 := n7_; have NB1238_1239 := n8_; have NB1239_1238 := n9_; clear n0_ n1_ n2_ n3_ n4_ n5_ n6_ n7_ n8_ n9_; clear hb hbox hg) | ((with_reducible refine gate_dst (N := 7) rfl ?_); (try (refine gate_guard (by rfl) ?_; dsimp only)); refine box_event ?hg (N := 7) ?hd (cs := #[.int .i64 0, .int .i64 0, .int .i64 0, .int .i64 0]) (t := 48) ?hr ?_; (case hd => rfl); (case hg => rfl); (case hr => first | (go_simp; done) | (go_simp; rfl)); intro gb1240 hg w11 hbox hb; have n0_ := Aside0.mk (blk_below (g := gb1237) (o := .cells #[.slice A0_0 l0_0.length c0_0] 26 (0, 0)) (by (with_reducible repeat (first | refine blk_drewN ?_ _ | refine blk_drew ?_ | refine blk_alloc ?_ _)); exact BK1237.out) hb); have n1_ := Aside0.mk (blk_below (g := gb1238) (o := .cells #[.int .i64 a1_0, .int .i64 a1_1, .int .i64 a1_2, .int .i64 a1_3] 48 (0, 0)) (by (with_reducible repeat (first | refine blk_drewN ?_ _ | refine blk_drew ?_ | refine blk_alloc ?_ _)); exact BK1238.out) hb); have n2_ := Aside0.mk (blk_below (g := gb1239) (o := .cells #[.slice none 0 0] 26 (0, 0)) (by (with_reducible repeat (first | refine blk_drewN ?_ _ | refine blk_drew ?_ | refine blk_alloc ?_ _)); exact BK1239.out) hb); have n3_ := Aside0.mk (below_step (by repeat (first | (with_reducible first | exact HB.out | apply below_alloc | apply pw_below_drewN | apply below_drew1 | refine below_set ?_ GE1237.out | refine below_set ?_ GE1238.out | refine below_set ?_ GE1239.out) | exact HB.out)) hb); have n4_ := Aside0.mk (hbox); have n5_ := Aside0.mk ((by rw [hg]; exact (below_size (by repeat (first | (with_reducible first | exact HB.out | apply below_alloc | apply pw_below_drewN | apply below_drew1 | refine below_set ?_ GE1237.out | refine below_set ?_ GE1238.out | refine below_set ?_ GE1239.out) | exact HB.out))) : w.heap.size ≤ gb1240)); have n6_ := Aside0.mk ((by rw [hg]; exact (below_size (by repeat (first | (with_reducible first | exact HB.out | apply below_alloc | apply pw_below_drewN | apply below_drew1 | refine below_set ?_ GE1237.out | refine below_set ?_ GE1238.out | refine below_set ?_ GE1239.out) | exact HB.out))) : w.heap.size ≤ gb1240)); have n7_ := Aside0.mk ((by rw [hg]; exact Nat.ne_of_lt (blk_lt (g := gb1237) (o := .cells #[.slice A0_0 l0_0.length c0_0] 26 (0, 0)) (by (with_reducible repeat (first | refine blk_drewN ?_ _ | refine blk_drew ?_ | refine blk_alloc ?_ _)); exact BK1237.out)) : gb1237 ≠ gb1240)); have n8_ := Aside0.mk ((by rw [hg]; exact Nat.ne_of_gt (blk_lt (g := gb1237) (o := .cells #[.slice A0_0 l0_0.length c0_0] 26 (0, 0)) (by (with_reducible repeat (first | refine blk_drewN ?_ _ | refine blk_drew ?_ | refine blk_alloc ?_ _)); exact BK1237.out)) : gb1240 ≠ gb1237)); have n9_ := Aside0.mk ((by rw [hg]; exact Nat.ne_of_lt (blk_lt (g := gb1238) (o := .cells #[.int .i64 a1_0, .int .i64 a1_1, .int .i64 a1_2, .int .i64 a1_3] 48 (0, 0)) (by (with_reducible repeat (first | refine blk_drewN ?_ _ | refine blk_drew ?_ | refine blk_alloc ?_ _)); exact BK1238.out)) : gb1238 ≠ gb1240)); have n10_ := Aside0.mk ((by rw [hg]; exact Nat.ne_of_gt (blk_lt (g := gb1238) (o := .cells #[.int .i64 a1_0, .int .i64 a1_1, .int .i64 a1_2, .int .i64 a1_3] 48 (0, 0)) (by (with_reducible repeat (first | refine blk_drewN ?_ _ | refine blk_drew ?_ | refine blk_alloc ?_ _)); exact BK1238.out)) : gb1240 ≠ gb1238)); have n11_ := Aside0.mk ((by rw [hg]; exact Nat.ne_of_lt (blk_lt (g := gb1239) (o := .cells #[.slice none 0 0] 26 (0, 0)) (by (with_reducible repeat (first | refine blk_drewN ?_ _ | refine blk_drew ?_ | refine blk_alloc ?_ _)); exact BK1239.out)) : gb1239 ≠ gb1240)); have n12_ := Aside0.mk ((by rw [hg]; exact Nat.ne_of_gt (blk_lt (g := gb1239) (o := .cells #[.slice none 0 0] 26 (0, 0)) (by (with_reducible repeat (first | refine blk_drewN ?_ _ | refine blk_drew ?_ | refine blk_alloc ?_ _)); exact BK1239.out)) : gb1240 ≠ gb1239)); clear BK1237; clear BK1238; clear BK1239; clear HB; have BK1237 := n0_; have BK1238 := n1_; have BK1239 := n2_; have HB := n3_; have BK1240 := n4_; have GW1240 := n5_; have GE1240 := n6_; have NB1237_1240 := n7_; have NB1240_1237 := n8_; have NB1238_1240 := n9_; have NB1240_1238 := n10_; have NB1239_1240 := n11_; have NB1240_1239 := n12_; clear n0_ n1_ n2_ n3_ n4_ n5_ n6_ n7_ n8_ n9_ n10_ n11_ n12_; clear hb hbox hg; have hnb12 := NB1238_1237.out; have hnc12 := NB1237_1238.out; have hnb13 := NB1238_1239.out; have hnc13 := NB1239_1238.out; have hnb14 := NB1238_1240.out; have hnc14 := NB1240_1238.out; have hcz15_0 : w11.cell? ⟨gb1238, 0, none⟩ = some (.int .i64 a1_0) := (blk_cell BK1238.out 0).trans rfl; have hcz15_1 : w11.cell? ⟨gb1238, 1, none⟩ = some (.int .i64 a1_1) := (blk_cell BK1238.out 1).trans rfl; have hcz15_2 : w11.cell? ⟨gb1238, 2, none⟩ = some (.int .i64 a1_2) := (blk_cell BK1238.out 2).trans rfl; have hcz15_3 : w11.cell? ⟨gb1238, 3, none⟩ = some (.int .i64 a1_3) := (blk_cell BK1238.out 3).trans rfl; have hfz15_0 := blk_frozen BK1238.out 0; have hfz15_1 := blk_frozen BK1238.out 1; have hfz15_2 := blk_frozen BK1238.out 2; have hfz15_3 := blk_frozen BK1238.out 3) | ((with_reducible refine gate_callee (f := 159) rfl ?_); refine goesL_ (some 16) rfl rfl Try.func159 (by kernel_rfl) rfl #[.agg #[.int .i64 a1_0, .int .i64 a1_1, .int .i64 a1_2, .int .i64 a1_3]] rfl (by (try simp only [List.map_toArray, List.map_cons, List.map_nil]); first | done | rfl | (simp only [List.length_drop, List.length_take]; rfl)) ?_; (with_reducible refine (spec_l2Room.calls a1_0 a1_1 a1_2 a1_3 t1241 _ A4.out).mono ?_); rintro e w16 ⟨rfl, hb⟩; refine ⟨_, rfl, ?_⟩; have n0_ := Aside0.mk (blk_below (g := gb1237) (o := .cells #[.slice A0_0 l0_0.length c0_0] 26 (0, 0)) (by (with_reducible repeat (first | refine blk_drewN ?_ _ | refine blk_drew ?_ | refine blk_alloc ?_ _)); exact BK1237.out) hb); have n1_ := Aside0.mk (blk_below (g := gb1238) (o := .cells #[.int .i64 a1_0, .int .i64 a1_1, .int .i64 a1_2, .int .i64 a1_3] 48 (0, 0)) (by (with_reducible repeat (first | refine blk_drewN ?_ _ | refine blk_drew ?_ | refine blk_alloc ?_ _)); exact BK1238.out) hb); have n2_ := Aside0.mk (blk_below (g := gb1239) (o := .cells #[.slice none 0 0] 26 (0, 0)) (by (with_reducible repeat (first | refine blk_drewN ?_ _ | refine blk_drew ?_ | refine blk_alloc ?_ _)); exact BK1239.out) hb); have n3_ := Aside0.mk (blk_below (g := gb1240) (o := .cells #[.int .i64 0, .int .i64 0, .int .i64 0, .int .i64 0] 48 (0, 0)) (by (with_reducible repeat (first | refine blk_drewN ?_ _ | refine blk_drew ?_ | refine blk_alloc ?_ _)); exact BK1240.out) hb); have n4_ := Aside0.mk (below_step (by repeat (first | (with_reducible first | exact HB.out | apply below_alloc | apply pw_below_drewN | apply below_drew1 | refine below_set ?_ GE1237.out | refine below_set ?_ GE1238.out | refine below_set ?_ GE1239.out | refine below_set ?_ GE1240.out) | exact HB.out)) hb); clear BK1237; clear BK1238; clear BK1239; clear BK1240; clear HB; have BK1237 := n0_; have BK1238 := n1_; have BK1239 := n2_; have BK1240 := n3_; have HB := n4_; clear n0_ n1_ n2_ n3_ n4_; (try clear hb); (try clear hb2); (try clear hk); (try clear hi)))
    have n0_ := Aside0.mk (blk_drew BK1237.out)
    have n1_ := Aside0.mk (blk_drew BK1238.out)
    have n2_ := Aside0.mk (blk_drew BK1239.out)
    have n3_ := Aside0.mk (blk_drew BK1240.out)
    have n4_ := Aside0.mk (below_drew1 HB.out)
    clear BK1237
    clear BK1238
    clear BK1239
    clear BK1240
    clear HB
    have BK1237 := n0_
    have BK1238 := n1_
    have BK1239 := n2_
    have BK1240 := n3_
    have HB := n4_
    clear n0_ n1_ n2_ n3_ n4_
    refine start_ (n := 18) (S := fun w' => w'.cell? ⟨gb1237, 0, none⟩ = some (.slice A0_0 l0_0.length c0_0) ∧ w'.cell? ⟨gb1238, 0, none⟩ = some (.int .i64 a1_0) ∧ w'.cell? ⟨gb1238, 1, none⟩ = some (.int .i64 a1_1) ∧ w'.cell? ⟨gb1238, 2, none⟩ = some (.int .i64 a1_2) ∧ w'.cell? ⟨gb1238, 3, none⟩ = some (.int .i64 a1_3)) (ds := []) #[false, false, false, false, false, false, false, false, false, false, false, false, false, false, false, false, false, false] (by kernel_rfl) rfl rfl ⟨(blk_cell BK1237.out 0).trans rfl, (blk_cell BK1238.out 0).trans rfl, (blk_cell BK1238.out 1).trans rfl, (blk_cell BK1238.out 2).trans rfl, (blk_cell BK1238.out 3).trans rfl⟩ (fun hHeld => ?_); refine with_tabW spec_l2Append.tab2 spec_l2Append.bits2 (fun HT_ HW_ => ?_)
    generalize w16.drew = w17 at BK1237 BK1238 BK1239 BK1240 HB hHeld ⊢
    refine pure_ (i := 2) (N := some 20) (v := ?_) (a' := ?_) #[false, false, true, false, false, false, false, false, false, false, false, false, false, false, false, false, false, false] rfl rfl (any_of HT_.out (by kernel_rfl)) (fun _ _ _ h => h) (Or.inl ⟨by rfl, ?_⟩) ?_ ?_
    rotate_left
    · intro w'
      go_simp
      with_reducible rfl
    rotate_left
    · simp only [Act.put, List.setIfInBounds_toArray, List.set_cons_zero, List.set_cons_succ, i64_w, i32_w]
      rfl
    refine pure_ (i := 4) (N := some 22) (v := ?_) (a' := ?_) #[false, false, true, false, true, false, false, false, false, false, false, false, false, false, false, false, false, false] rfl rfl (any_of HT_.out (by kernel_rfl)) (fun _ _ _ h => h) (Or.inl ⟨by rfl, ?_⟩) ?_ ?_
    rotate_left
    · intro w'
      go_simp
      with_reducible rfl
    rotate_left
    · simp only [Act.put, List.setIfInBounds_toArray, List.set_cons_zero, List.set_cons_succ, i64_w, i32_w]
      rfl
    refine pure_ (i := 7) (N := some 25) (v := ?_) (a' := ?_) #[false, false, true, false, true, false, false, true, false, false, false, false, false, false, false, false, false, false] rfl rfl (any_of HT_.out (by kernel_rfl)) (fun _ _ _ h => h) (Or.inl ⟨by rfl, ?_⟩) ?_ ?_
    rotate_left
    · intro w'
      go_simp
      with_reducible rfl
    rotate_left
    · simp only [Act.put, List.setIfInBounds_toArray, List.set_cons_zero, List.set_cons_succ, i64_w, i32_w]
      rfl
    refine pure_ (i := 9) (N := some 27) (v := ?_) (a' := ?_) #[false, false, true, false, true, false, false, true, false, true, false, false, false, false, false, false, false, false] rfl rfl (any_of HT_.out (by kernel_rfl)) (fun _ _ _ h => h) (Or.inl ⟨by rfl, ?_⟩) ?_ ?_
    rotate_left
    · intro w'
      go_simp
      with_reducible rfl
    rotate_left
    · simp only [Act.put, List.setIfInBounds_toArray, List.set_cons_zero, List.set_cons_succ, i64_w, i32_w]
      rfl
    refine pure_ (i := 10) (N := some 28) (v := ?_) (a' := ?_) #[false, false, true, false, true, false, false, true, false, true, true, false, false, false, false, false, false, false] rfl rfl (any_of HT_.out (by kernel_rfl)) (fun _ _ _ h => h) (Or.inl ⟨by rfl, ?_⟩) ?_ ?_
    rotate_left
    · intro w'
      go_simp
      with_reducible rfl
    rotate_left
    · simp only [Act.put, List.setIfInBounds_toArray, List.set_cons_zero, List.set_cons_succ, i64_w, i32_w]
      rfl
    refine pure_ (i := 12) (N := some 30) (v := ?_) (a' := ?_) #[false, false, true, false, true, false, false, true, false, true, true, false, true, false, false, false, false, false] rfl rfl (any_of HT_.out (by kernel_rfl)) (fun _ _ _ h => h) (Or.inl ⟨by rfl, ?_⟩) ?_ ?_
    rotate_left
    · intro w'
      go_simp
      with_reducible rfl
    rotate_left
    · simp only [Act.put, List.setIfInBounds_toArray, List.set_cons_zero, List.set_cons_succ, i64_w, i32_w]
      rfl
    refine take_ (i := 0) (N := some 18) (v := ?_) (a' := ?_) #[true, false, true, false, true, false, false, true, false, true, true, false, true, false, false, false, false, false] rfl rfl (take_ofW HT_.out HW_.out (by kernel_rfl)) (fun _ _ _ h => h) (Or.inl ⟨by rfl, ?_⟩) hHeld ?_ ?_
    rotate_left
    · rintro w' ⟨s0, s1, s2, s3, s4⟩
      go_simp
      with_reducible rfl
    rotate_left
    · simp only [Act.put, List.setIfInBounds_toArray, List.set_cons_zero, List.set_cons_succ, i64_w, i32_w]
      rfl
    refine take_ (i := 1) (N := some 19) (v := ?_) (a' := ?_) #[true, true, true, false, true, false, false, true, false, true, true, false, true, false, false, false, false, false] rfl rfl (take_ofW HT_.out HW_.out (by kernel_rfl)) (fun _ _ _ h => h) (Or.inl ⟨by rfl, ?_⟩) hHeld ?_ ?_
    rotate_left
    · rintro w' ⟨s0, s1, s2, s3, s4⟩
      go_simp
      with_reducible rfl
    rotate_left
    · simp only [Act.put, List.setIfInBounds_toArray, List.set_cons_zero, List.set_cons_succ, i64_w, i32_w]
      rfl
    refine take_ (i := 3) (N := some 21) (v := ?_) (a' := ?_) #[true, true, true, true, true, false, false, true, false, true, true, false, true, false, false, false, false, false] rfl rfl (take_ofW HT_.out HW_.out (by kernel_rfl)) (fun _ _ _ h => h) (Or.inl ⟨by rfl, ?_⟩) hHeld ?_ ?_
    rotate_left
    · rintro w' ⟨s0, s1, s2, s3, s4⟩
      go_simp
      with_reducible rfl
    rotate_left
    · simp only [Act.put, List.setIfInBounds_toArray, List.set_cons_zero, List.set_cons_succ, i64_w, i32_w]
      rfl
    refine take_ (i := 6) (N := some 24) (v := ?_) (a' := ?_) #[true, true, true, true, true, false, true, true, false, true, true, false, true, false, false, false, false, false] rfl rfl (take_ofW HT_.out HW_.out (by kernel_rfl)) (fun _ _ _ h => h) (Or.inl ⟨by rfl, ?_⟩) hHeld ?_ ?_
    rotate_left
    · rintro w' ⟨s0, s1, s2, s3, s4⟩
      go_simp
      with_reducible rfl
    rotate_left
    · simp only [Act.put, List.setIfInBounds_toArray, List.set_cons_zero, List.set_cons_succ, i64_w, i32_w]
      rfl
    refine take_ (i := 8) (N := some 26) (v := ?_) (a' := ?_) #[true, true, true, true, true, false, true, true, true, true, true, false, true, false, false, false, false, false] rfl rfl (take_ofW HT_.out HW_.out (by kernel_rfl)) (fun _ _ _ h => h) (Or.inl ⟨by rfl, ?_⟩) hHeld ?_ ?_
    rotate_left
    · rintro w' ⟨s0, s1, s2, s3, s4⟩
      go_simp
      with_reducible rfl
    rotate_left
    · simp only [Act.put, List.setIfInBounds_toArray, List.set_cons_zero, List.set_cons_succ, i64_w, i32_w]
      rfl
    refine pure_ (i := 11) (N := some 29) (v := ?_) (a' := ?_) #[true, true, true, true, true, false, true, true, true, true, true, true, true, false, false, false, false, false] rfl rfl (any_of HT_.out (by kernel_rfl)) (fun _ _ _ h => h) (Or.inl ⟨by rfl, ?_⟩) ?_ ?_
    rotate_left
    · intro w'
      go_simp
      with_reducible rfl
    rotate_left
    · simp only [Act.put, List.setIfInBounds_toArray, List.set_cons_zero, List.set_cons_succ, i64_w, i32_w]
      rfl
    refine take_ (i := 13) (N := some 31) (v := ?_) (a' := ?_) #[true, true, true, true, true, false, true, true, true, true, true, true, true, true, false, false, false, false] rfl rfl (take_ofW HT_.out HW_.out (by kernel_rfl)) (fun _ _ _ h => h) (Or.inl ⟨by rfl, ?_⟩) hHeld ?_ ?_
    rotate_left
    · rintro w' ⟨s0, s1, s2, s3, s4⟩
      go_simp
      with_reducible rfl
    rotate_left
    · simp only [Act.put, List.setIfInBounds_toArray, List.set_cons_zero, List.set_cons_succ, i64_w, i32_w]
      rfl
    refine one_ (i := 5) (N := some 23) #[true, true, true, true, true, true, true, true, true, true, true, true, true, true, false, false, false, false] rfl rfl (one_of HT_.out (by kernel_rfl)) (by decide) (fun K hK => ?_)
    refine goes_ Try.func143 (by kernel_rfl) rfl #[.agg #[.slice A0_0 l0_0.length c0_0], .agg #[.int .i64 a1_0, .int .i64 a1_1, .int .i64 a1_2, .int .i64 a1_3], .int .i64 a1_2, .slice A2 l2.length c2] (by rfl) rfl rfl (by (try simp only [List.map_toArray, List.map_cons, List.map_nil]); first | done | rfl | (simp only [List.length_drop, List.length_take]; rfl)) ?_
    with_reducible refine (spec_l2Write.calls k _ _ l0_0 a1_0 a1_1 a1_2 a1_3 a1_2 _ _ l2 t1242 _ ?side1 ?side2 ?side3 ?side4 A6.out).mono ?_
    (case side1 => repeat (first | exact (Kd.C_below HR0_0.out HB.out) | (with_reducible refine Kd.C_alloc ?_ _) | (with_reducible refine Kd.C_drewN ?_ _) | (with_reducible refine Kd.C_drew ?_)))
    (case side2 => exact HC0_0.out)
    (case side3 => repeat (first | exact (Kd.C_below HR2.out HB.out) | (with_reducible refine Kd.C_alloc ?_ _) | (with_reducible refine Kd.C_drewN ?_ _) | (with_reducible refine Kd.C_drew ?_)))
    (case side4 => exact HC2.out)
    rintro e w18 ⟨v1243, rfl, ho0, hb⟩
    refine ⟨_, rfl, ?_⟩
    have n0_ := Aside0.mk (Kd.S_lower ho0 (below_size (by repeat (first | (with_reducible first | exact HB.out | apply below_alloc | apply pw_below_drewN | apply below_drew1 | refine below_set ?_ GE1237.out | refine below_set ?_ GE1238.out | refine below_set ?_ GE1239.out | refine below_set ?_ GE1240.out) | exact HB.out))))
    have n1_ := Aside0.mk (blk_below (g := gb1237) (o := .cells #[.slice A0_0 l0_0.length c0_0] 26 (0, 0)) (by (with_reducible repeat (first | refine blk_drewN ?_ _ | refine blk_drew ?_ | refine blk_alloc ?_ _)); exact BK1237.out) hb)
    have n2_ := Aside0.mk (blk_below (g := gb1238) (o := .cells #[.int .i64 a1_0, .int .i64 a1_1, .int .i64 a1_2, .int .i64 a1_3] 48 (0, 0)) (by (with_reducible repeat (first | refine blk_drewN ?_ _ | refine blk_drew ?_ | refine blk_alloc ?_ _)); exact BK1238.out) hb)
    have n3_ := Aside0.mk (blk_below (g := gb1239) (o := .cells #[.slice none 0 0] 26 (0, 0)) (by (with_reducible repeat (first | refine blk_drewN ?_ _ | refine blk_drew ?_ | refine blk_alloc ?_ _)); exact BK1239.out) hb)
    have n4_ := Aside0.mk (blk_below (g := gb1240) (o := .cells #[.int .i64 0, .int .i64 0, .int .i64 0, .int .i64 0] 48 (0, 0)) (by (with_reducible repeat (first | refine blk_drewN ?_ _ | refine blk_drew ?_ | refine blk_alloc ?_ _)); exact BK1240.out) hb)
    have n5_ := Aside0.mk (below_step (by repeat (first | (with_reducible first | exact HB.out | apply below_alloc | apply pw_below_drewN | apply below_drew1 | refine below_set ?_ GE1237.out | refine below_set ?_ GE1238.out | refine below_set ?_ GE1239.out | refine below_set ?_ GE1240.out) | exact HB.out)) hb)
    clear BK1237
    clear BK1238
    clear BK1239
    clear BK1240
    clear HB
    have HO1244 := n0_
    have BK1237 := n1_
    have BK1238 := n2_
    have BK1239 := n3_
    have BK1240 := n4_
    have HB := n5_
    clear n0_ n1_ n2_ n3_ n4_ n5_
    (try clear hb)
    (try clear hb2)
    (try clear hk)
    (try clear hi)
    (try clear ho0)
    refine hK.out _ _ ⟨(blk_cell BK1237.out 0).trans rfl, (blk_cell BK1238.out 0).trans rfl, (blk_cell BK1238.out 1).trans rfl, (blk_cell BK1238.out 2).trans rfl, (blk_cell BK1238.out 3).trans rfl⟩ (fun hHeld => ?_)
    clear hK K
    refine norm_ (a' := ?_) ?_ ?_
    rotate_left
    · show Act.put _ (some 23) _ = _
      simp only [Act.put, List.setIfInBounds_toArray, List.set_cons_zero, List.set_cons_succ, i64_w, i32_w]
      rfl
    refine one_ (i := 14) (N := some 32) #[true, true, true, true, true, true, true, true, true, true, true, true, true, true, true, false, false, false] rfl rfl (one_of HT_.out (by kernel_rfl)) (by decide) (fun K hK => ?_)
    refine goes_ Try.func100 (by kernel_rfl) rfl #[.agg #[.int .i64 a1_0, .int .i64 a1_1, .int .i64 a1_2, .int .i64 a1_3], .int .i64 0, .int .i64 (wrap64 (a1_2 + (l2.length : Int))), .int .i64 a1_3] (by rfl) rfl rfl (by (try simp only [List.map_toArray, List.map_cons, List.map_nil]); first | done | rfl | (simp only [List.length_drop, List.length_take]; rfl)) ?_
    with_reducible refine (spec_l2Slice.calls a1_0 a1_1 a1_2 a1_3 0 (wrap64 (a1_2 + (l2.length : Int))) a1_3 t1245 t1246 t1247 t1248 _ A7.out).mono ?_
    rintro e w19 ⟨rfl, hb⟩
    refine ⟨_, rfl, ?_⟩
    have n0_ := Aside0.mk (Kd.S_below (by (with_reducible repeat (first | apply Kd.S_alloc | apply Kd.S_drewN | apply Kd.S_drew)); exact HO1244.out) hb)
    have n1_ := Aside0.mk (blk_below (g := gb1237) (o := .cells #[.slice A0_0 l0_0.length c0_0] 26 (0, 0)) (by (with_reducible repeat (first | refine blk_drewN ?_ _ | refine blk_drew ?_ | refine blk_alloc ?_ _)); exact BK1237.out) hb)
    have n2_ := Aside0.mk (blk_below (g := gb1238) (o := .cells #[.int .i64 a1_0, .int .i64 a1_1, .int .i64 a1_2, .int .i64 a1_3] 48 (0, 0)) (by (with_reducible repeat (first | refine blk_drewN ?_ _ | refine blk_drew ?_ | refine blk_alloc ?_ _)); exact BK1238.out) hb)
    have n3_ := Aside0.mk (blk_below (g := gb1239) (o := .cells #[.slice none 0 0] 26 (0, 0)) (by (with_reducible repeat (first | refine blk_drewN ?_ _ | refine blk_drew ?_ | refine blk_alloc ?_ _)); exact BK1239.out) hb)
    have n4_ := Aside0.mk (blk_below (g := gb1240) (o := .cells #[.int .i64 0, .int .i64 0, .int .i64 0, .int .i64 0] 48 (0, 0)) (by (with_reducible repeat (first | refine blk_drewN ?_ _ | refine blk_drew ?_ | refine blk_alloc ?_ _)); exact BK1240.out) hb)
    have n5_ := Aside0.mk (below_step (by repeat (first | (with_reducible first | exact HB.out | apply below_alloc | apply pw_below_drewN | apply below_drew1 | refine below_set ?_ GE1237.out | refine below_set ?_ GE1238.out | refine below_set ?_ GE1239.out | refine below_set ?_ GE1240.out) | exact HB.out)) hb)
    clear HO1244
    clear BK1237
    clear BK1238
    clear BK1239
    clear BK1240
    clear HB
    have HO1244 := n0_
    have BK1237 := n1_
    have BK1238 := n2_
    have BK1239 := n3_
    have BK1240 := n4_
    have HB := n5_
    clear n0_ n1_ n2_ n3_ n4_ n5_
    (try clear hb)
    (try clear hb2)
    (try clear hk)
    (try clear hi)
    obtain ⟨Ao20, co20, eo20⟩ := Kd.S_slice HO1244.out
    (first | subst eo20 | (injection eo20 with f1_ f2_ f3_; have f4_ := f1_.symm; have f5_ := f3_.symm; clear f1_ f2_ f3_; subst f4_; subst f5_))
    refine hK.out _ _ ⟨(blk_cell BK1237.out 0).trans rfl, (blk_cell BK1238.out 0).trans rfl, (blk_cell BK1238.out 1).trans rfl, (blk_cell BK1238.out 2).trans rfl, (blk_cell BK1238.out 3).trans rfl⟩ (fun hHeld => ?_)
    clear hK K
    refine norm_ (a' := ?_) ?_ ?_
    rotate_left
    · show Act.put _ (some 32) _ = _
      simp only [Act.put, List.setIfInBounds_toArray, List.set_cons_zero, List.set_cons_succ, i64_w, i32_w]
      rfl
    refine one_ (i := 15) (N := none) #[true, true, true, true, true, true, true, true, true, true, true, true, true, true, true, true, false, false] rfl rfl (one_of HT_.out (by kernel_rfl)) (by decide) (fun K hK => ?_)
    have hs21 : w19.cell? ⟨gb1239, 0, none⟩ = some (.slice none 0 0) := (blk_cell BK1239.out 0).trans rfl
    have hfs21 := blk_frozen BK1239.out 0
    have hns21_0 := NB1237_1239.out
    have hns21_1 := NB1238_1239.out
    have hns21_3 := NB1240_1239.out
    have hms21_0 := NB1239_1237.out
    have hms21_1 := NB1239_1238.out
    have hms21_3 := NB1239_1240.out
    refine skip_ (w1 := ?_) (by rfl) rfl ?_ ?_
    rotate_left
    · go_simp
      rfl
    refine hK.out _ _ ⟨((cell_far (p := ⟨gb1239, _, none⟩) NB1237_1239.out _).trans (hHeld.1)), ((cell_far (p := ⟨gb1239, _, none⟩) NB1238_1239.out _).trans (hHeld.2.1)), ((cell_far (p := ⟨gb1239, _, none⟩) NB1238_1239.out _).trans (hHeld.2.2.1)), ((cell_far (p := ⟨gb1239, _, none⟩) NB1238_1239.out _).trans (hHeld.2.2.2.1)), ((cell_far (p := ⟨gb1239, _, none⟩) NB1238_1239.out _).trans (hHeld.2.2.2.2))⟩ (fun hHeld => ?_)
    clear hK K
    refine one_ (i := 16) (N := none) #[true, true, true, true, true, true, true, true, true, true, true, true, true, true, true, true, true, false] rfl rfl (one_of HT_.out (by kernel_rfl)) (by decide) (fun K hK => ?_)
    have hs22 : w19.cell? ⟨gb1240, 0, none⟩ = some (.int .i64 0) := (blk_cell BK1240.out 0).trans rfl
    have hfs22 := blk_frozen BK1240.out 0
    have hns22_0 := NB1237_1240.out
    have hns22_1 := NB1238_1240.out
    have hns22_2 := NB1239_1240.out
    have hms22_0 := NB1240_1237.out
    have hms22_1 := NB1240_1238.out
    have hms22_2 := NB1240_1239.out
    have hs23 : w19.cell? ⟨gb1240, 1, none⟩ = some (.int .i64 0) := (blk_cell BK1240.out 1).trans rfl
    have hfs23 := blk_frozen BK1240.out 1
    have hns23_0 := NB1237_1240.out
    have hns23_1 := NB1238_1240.out
    have hns23_2 := NB1239_1240.out
    have hms23_0 := NB1240_1237.out
    have hms23_1 := NB1240_1238.out
    have hms23_2 := NB1240_1239.out
    have hs24 : w19.cell? ⟨gb1240, 2, none⟩ = some (.int .i64 0) := (blk_cell BK1240.out 2).trans rfl
    have hfs24 := blk_frozen BK1240.out 2
    have hns24_0 := NB1237_1240.out
    have hns24_1 := NB1238_1240.out
    have hns24_2 := NB1239_1240.out
    have hms24_0 := NB1240_1237.out
    have hms24_1 := NB1240_1238.out
    have hms24_2 := NB1240_1239.out
    have hs25 : w19.cell? ⟨gb1240, 3, none⟩ = some (.int .i64 0) := (blk_cell BK1240.out 3).trans rfl
    have hfs25 := blk_frozen BK1240.out 3
    have hns25_0 := NB1237_1240.out
    have hns25_1 := NB1238_1240.out
    have hns25_2 := NB1239_1240.out
    have hms25_0 := NB1240_1237.out
    have hms25_1 := NB1240_1238.out
    have hms25_2 := NB1240_1239.out
    refine skip_ (w1 := ?_) (by rfl) rfl ?_ ?_
    rotate_left
    · go_simp
      rfl
    refine hK.out _ _ ⟨((cell_far (p := ⟨gb1240, _, none⟩) NB1237_1240.out _).trans (((cell_far (p := ⟨gb1240, _, none⟩) NB1237_1240.out _).trans (((cell_far (p := ⟨gb1240, _, none⟩) NB1237_1240.out _).trans (((cell_far (p := ⟨gb1240, _, none⟩) NB1237_1240.out _).trans (hHeld.1)))))))), ((cell_far (p := ⟨gb1240, _, none⟩) NB1238_1240.out _).trans (((cell_far (p := ⟨gb1240, _, none⟩) NB1238_1240.out _).trans (((cell_far (p := ⟨gb1240, _, none⟩) NB1238_1240.out _).trans (((cell_far (p := ⟨gb1240, _, none⟩) NB1238_1240.out _).trans (hHeld.2.1)))))))), ((cell_far (p := ⟨gb1240, _, none⟩) NB1238_1240.out _).trans (((cell_far (p := ⟨gb1240, _, none⟩) NB1238_1240.out _).trans (((cell_far (p := ⟨gb1240, _, none⟩) NB1238_1240.out _).trans (((cell_far (p := ⟨gb1240, _, none⟩) NB1238_1240.out _).trans (hHeld.2.2.1)))))))), ((cell_far (p := ⟨gb1240, _, none⟩) NB1238_1240.out _).trans (((cell_far (p := ⟨gb1240, _, none⟩) NB1238_1240.out _).trans (((cell_far (p := ⟨gb1240, _, none⟩) NB1238_1240.out _).trans (((cell_far (p := ⟨gb1240, _, none⟩) NB1238_1240.out _).trans (hHeld.2.2.2.1)))))))), ((cell_far (p := ⟨gb1240, _, none⟩) NB1238_1240.out _).trans (((cell_far (p := ⟨gb1240, _, none⟩) NB1238_1240.out _).trans (((cell_far (p := ⟨gb1240, _, none⟩) NB1238_1240.out _).trans (((cell_far (p := ⟨gb1240, _, none⟩) NB1238_1240.out _).trans (hHeld.2.2.2.2))))))))⟩ (fun hHeld => ?_)
    clear hK K
    refine pure_ (i := 17) (N := some 8) (v := ?_) (a' := ?_) #[true, true, true, true, true, true, true, true, true, true, true, true, true, true, true, true, true, true] rfl rfl (any_of HT_.out (by kernel_rfl)) (fun _ _ _ h => h) (Or.inl ⟨by rfl, ?_⟩) ?_ ?_
    rotate_left
    · intro w'
      go_simp
      with_reducible rfl
    rotate_left
    · simp only [Act.put, List.setIfInBounds_toArray, List.set_cons_zero, List.set_cons_succ, i64_w, i32_w]
      rfl
    refine done_ (done_of HT_.out (by kernel_rfl)) ?_
    try go_wp2
    refine bodyPost_ret (results_list (rs := [.cell 6 26, .cell 7 48, .tmp 8]) rfl (by simp) (.cell gb1239 26 #[.slice Ao20 t1242.length co20] (0, 0) _ rfl (by (with_reducible repeat (first | refine blk_drewN ?_ _ | refine blk_drew ?_ | refine blk_alloc ?_ _)); refine blk_far ?_ NB1239_1240.out _; (with_reducible repeat (first | refine blk_drewN ?_ _ | refine blk_drew ?_ | refine blk_alloc ?_ _)); refine blk_far ?_ NB1239_1240.out _; (with_reducible repeat (first | refine blk_drewN ?_ _ | refine blk_drew ?_ | refine blk_alloc ?_ _)); refine blk_far ?_ NB1239_1240.out _; (with_reducible repeat (first | refine blk_drewN ?_ _ | refine blk_drew ?_ | refine blk_alloc ?_ _)); refine blk_far ?_ NB1239_1240.out _; (with_reducible repeat (first | refine blk_drewN ?_ _ | refine blk_drew ?_ | refine blk_alloc ?_ _)); refine blk_put (cs := #[.slice none 0 0]) ?_ 0 _ rfl; (with_reducible repeat (first | refine blk_drewN ?_ _ | refine blk_drew ?_ | refine blk_alloc ?_ _)); exact BK1239.out) Try.underlying26 rfl (by kernel_rfl) (.cell gb1240 48 #[.int .i64 t1245, .int .i64 t1246, .int .i64 t1247, .int .i64 t1248] (0, 0) _ rfl (by (with_reducible repeat (first | refine blk_drewN ?_ _ | refine blk_drew ?_ | refine blk_alloc ?_ _)); refine blk_put (cs := #[.int .i64 t1245, .int .i64 t1246, .int .i64 t1247, .int .i64 0]) ?_ 3 _ rfl; (with_reducible repeat (first | refine blk_drewN ?_ _ | refine blk_drew ?_ | refine blk_alloc ?_ _)); refine blk_put (cs := #[.int .i64 t1245, .int .i64 t1246, .int .i64 0, .int .i64 0]) ?_ 2 _ rfl; (with_reducible repeat (first | refine blk_drewN ?_ _ | refine blk_drew ?_ | refine blk_alloc ?_ _)); refine blk_put (cs := #[.int .i64 t1245, .int .i64 0, .int .i64 0, .int .i64 0]) ?_ 1 _ rfl; (with_reducible repeat (first | refine blk_drewN ?_ _ | refine blk_drew ?_ | refine blk_alloc ?_ _)); refine blk_put (cs := #[.int .i64 0, .int .i64 0, .int .i64 0, .int .i64 0]) ?_ 0 _ rfl; (with_reducible repeat (first | refine blk_drewN ?_ _ | refine blk_drew ?_ | refine blk_alloc ?_ _)); refine blk_far ?_ NB1240_1239.out _; (with_reducible repeat (first | refine blk_drewN ?_ _ | refine blk_drew ?_ | refine blk_alloc ?_ _)); exact BK1240.out) Try.underlying48 rfl (by kernel_rfl) (.tmp .nil)))) rfl ?_
    exact ⟨_, by first | rfl | (simp [errW_none, errW_some] <;> rfl) | (simp [*, errW_none, errW_some] <;> rfl), by (with_reducible repeat (first | apply Kd.S_alloc | apply Kd.S_drewN | apply Kd.S_drew)); exact Kd.S_mono (Kd.S_far (p := ⟨gb1240, 3, none⟩) (Kd.S_far (p := ⟨gb1240, 2, none⟩) (Kd.S_far (p := ⟨gb1240, 1, none⟩) (Kd.S_far (p := ⟨gb1240, 0, none⟩) (Kd.S_far (p := ⟨gb1239, 0, none⟩) (Kd.S_types (Kd.S_types HO1244.out BK1239.out (by decide)) BK1240.out (by decide)) (fun _ hk => hk.1.2) (.slice Ao20 t1242.length co20)) (fun _ hk => hk.2) (.int .i64 t1245)) (fun _ hk => hk.2) (.int .i64 t1246)) (fun _ hk => hk.2) (.int .i64 t1247)) (fun _ hk => hk.2) (.int .i64 t1248)) (fun _ hk => trivial), by repeat (first | (with_reducible first | exact HB.out | apply below_alloc | apply pw_below_drewN | apply below_drew1 | refine below_set ?_ GE1237.out | refine below_set ?_ GE1238.out | refine below_set ?_ GE1239.out | refine below_set ?_ GE1240.out) | exact HB.out)⟩
  · rw [if_neg c5] at H
    have c5b0 : decide ((l2.length : Int) ≤ t1241) = false := decide_eq_false c5
    clear c5
    have HC26 := Aside0.mk H
    clear H
    go_enter Try.func151, Try.ntmps151
    go_upto_region 3 with (first | ((with_reducible refine gate_dst (N := 3) rfl ?_); (try (refine gate_guard (by rfl) ?_; dsimp only)); refine box_event ?hg (N := 3) ?hd (cs := #[.slice A0_0 l0_0.length c0_0]) (t := 26) ?hr ?_; (case hd => rfl); (case hg => rfl); (case hr => first | (go_simp; done) | (go_simp; rfl)); intro gb1237 hg w27 hbox hb; have n0_ := Aside0.mk (below_step (by repeat (first | (with_reducible first | exact HB.out | apply below_alloc | apply pw_below_drewN | apply below_drew1) | exact HB.out)) hb); have n1_ := Aside0.mk (hbox); have n2_ := Aside0.mk ((by rw [hg]; exact (below_size (by repeat (first | (with_reducible first | exact HB.out | apply below_alloc | apply pw_below_drewN | apply below_drew1) | exact HB.out))) : w.heap.size ≤ gb1237)); have n3_ := Aside0.mk ((by rw [hg]; exact (below_size (by repeat (first | (with_reducible first | exact HB.out | apply below_alloc | apply pw_below_drewN | apply below_drew1) | exact HB.out))) : w.heap.size ≤ gb1237)); clear HB; have HB := n0_; have BK1237 := n1_; have GW1237 := n2_; have GE1237 := n3_; clear n0_ n1_ n2_ n3_; clear hb hbox hg) | ((with_reducible refine gate_dst (N := 4) rfl ?_); (try (refine gate_guard (by rfl) ?_; dsimp only)); refine box_event ?hg (N := 4) ?hd (cs := #[.int .i64 a1_0, .int .i64 a1_1, .int .i64 a1_2, .int .i64 a1_3]) (t := 48) ?hr ?_; (case hd => rfl); (case hg => rfl); (case hr => first | (go_simp; done) | (go_simp; rfl)); intro gb1238 hg w28 hbox hb; have n0_ := Aside0.mk (blk_below (g := gb1237) (o := .cells #[.slice A0_0 l0_0.length c0_0] 26 (0, 0)) (by (with_reducible repeat (first | refine blk_drewN ?_ _ | refine blk_drew ?_ | refine blk_alloc ?_ _)); exact BK1237.out) hb); have n1_ := Aside0.mk (below_step (by repeat (first | (with_reducible first | exact HB.out | apply below_alloc | apply pw_below_drewN | apply below_drew1 | refine below_set ?_ GE1237.out) | exact HB.out)) hb); have n2_ := Aside0.mk (hbox); have n3_ := Aside0.mk ((by rw [hg]; exact (below_size (by repeat (first | (with_reducible first | exact HB.out | apply below_alloc | apply pw_below_drewN | apply below_drew1 | refine below_set ?_ GE1237.out) | exact HB.out))) : w.heap.size ≤ gb1238)); have n4_ := Aside0.mk ((by rw [hg]; exact (below_size (by repeat (first | (with_reducible first | exact HB.out | apply below_alloc | apply pw_below_drewN | apply below_drew1 | refine below_set ?_ GE1237.out) | exact HB.out))) : w.heap.size ≤ gb1238)); have n5_ := Aside0.mk ((by rw [hg]; exact Nat.ne_of_lt (blk_lt (g := gb1237) (o := .cells #[.slice A0_0 l0_0.length c0_0] 26 (0, 0)) (by (with_reducible repeat (first | refine blk_drewN ?_ _ | refine blk_drew ?_ | refine blk_alloc ?_ _)); exact BK1237.out)) : gb1237 ≠ gb1238)); have n6_ := Aside0.mk ((by rw [hg]; exact Nat.ne_of_gt (blk_lt (g := gb1237) (o := .cells #[.slice A0_0 l0_0.length c0_0] 26 (0, 0)) (by (with_reducible repeat (first | refine blk_drewN ?_ _ | refine blk_drew ?_ | refine blk_alloc ?_ _)); exact BK1237.out)) : gb1238 ≠ gb1237)); clear BK1237; clear HB; have BK1237 := n0_; have HB := n1_; have BK1238 := n2_; have GW1238 := n3_; have GE1238 := n4_; have NB1237_1238 := n5_; have NB1238_1237 := n6_; clear n0_ n1_ n2_ n3_ n4_ n5_ n6_; clear hb hbox hg) | ((with_reducible refine gate_dst (N := 6) rfl ?_); (try (refine gate_guard (by rfl) ?_; dsimp only)); refine box_event ?hg (N := 6) ?hd (cs := #[.slice none 0 0]) (t := 26) ?hr ?_; (case hd => rfl); (case hg => rfl); (case hr => first | (go_simp; done) | (go_simp; rfl)); intro gb1239 hg w29 hbox hb; have n0_ := Aside0.mk (blk_below (g := gb1237) (o := .cells #[.slice A0_0 l0_0.length c0_0] 26 (0, 0)) (by (with_reducible repeat (first | refine blk_drewN ?_ _ | refine blk_drew ?_ | refine blk_alloc ?_ _)); exact BK1237.out) hb); have n1_ := Aside0.mk (blk_below (g := gb1238) (o := .cells #[.int .i64 a1_0, .int .i64 a1_1, .int .i64 a1_2, .int .i64 a1_3] 48 (0, 0)) (by (with_reducible repeat (first | refine blk_drewN ?_ _ | refine blk_drew ?_ | refine blk_alloc ?_ _)); exact BK1238.out) hb); have n2_ := Aside0.mk (below_step (by repeat (first | (with_reducible first | exact HB.out | apply below_alloc | apply pw_below_drewN | apply below_drew1 | refine below_set ?_ GE1237.out | refine below_set ?_ GE1238.out) | exact HB.out)) hb); have n3_ := Aside0.mk (hbox); have n4_ := Aside0.mk ((by rw [hg]; exact (below_size (by repeat (first | (with_reducible first | exact HB.out | apply below_alloc | apply pw_below_drewN | apply below_drew1 | refine below_set ?_ GE1237.out | refine below_set ?_ GE1238.out) | exact HB.out))) : w.heap.size ≤ gb1239)); have n5_ := Aside0.mk ((by rw [hg]; exact (below_size (by repeat (first | (with_reducible first | exact HB.out | apply below_alloc | apply pw_below_drewN | apply below_drew1 | refine below_set ?_ GE1237.out | refine below_set ?_ GE1238.out) | exact HB.out))) : w.heap.size ≤ gb1239)); have n6_ := Aside0.mk ((by rw [hg]; exact Nat.ne_of_lt (blk_lt (g := gb1237) (o := .cells #[.slice A0_0 l0_0.length c0_0] 26 (0, 0)) (by (with_reducible repeat (first | refine blk_drewN ?_ _ | refine blk_drew ?_ | refine blk_alloc ?_ _)); exact BK1237.out)) : gb1237 ≠ gb1239)); have n7_ := Aside0.mk ((by rw [hg]; exact Nat.ne_of_gt (blk_lt (g := gb1237) (o := .cells #[.slice A0_0 l0_0.length c0_0] 26 (0, 0)) (by (with_reducible repeat (first | refine blk_drewN ?_ _ | refine blk_drew ?_ | refine blk_alloc ?_ _)); exact BK1237.out)) : gb1239 ≠ gb1237)); have n8_ := Aside0.mk ((by rw [hg]; exact Nat.ne_of_lt (blk_lt (g := gb1238) (o := .cells #[.int .i64 a1_0, .int .i64 a1_1, .int .i64 a1_2, .int .i64 a1_3] 48 (0, 0)) (by (with_reducible repeat (first | refine blk_drewN ?_ _ | refine blk_drew ?_ | refine blk_alloc ?_ _)); exact BK1238.out)) : gb1238 ≠ gb1239)); have n9_ := Aside0.mk ((by rw [hg]; exact Nat.ne_of_gt (blk_lt (g := gb1238) (o := .cells #[.int .i64 a1_0, .int .i64 a1_1, .int .i64 a1_2, .int .i64 a1_3] 48 (0, 0)) (by (with_reducible repeat (first | refine blk_drewN ?_ _ | refine blk_drew ?_ | refine blk_alloc ?_ _)); exact BK1238.out)) : gb1239 ≠ gb1238)); clear BK1237; clear BK1238; clear HB; have BK1237 := n0_; have BK1238 := n1_; have HB := n2_; have BK1239 := n3_; have GW1239 := n4_; have GE1239 := n5_; have NB1237_1239 := n6_; have NB1239_1237 := n7_; have NB1238_1239 := n8_; have NB1239_1238 := n9_; clear n0_ n1_ n2_ n3_ n4_ n5_ n6_ n7_ n8_ n9_; clear hb hbox hg) | ((with_reducible refine gate_dst (N := 7) rfl ?_); (try (refine gate_guard (by rfl) ?_; dsimp only)); refine box_event ?hg (N := 7) ?hd (cs := #[.int .i64 0, .int .i64 0, .int .i64 0, .int .i64 0]) (t := 48) ?hr ?_; (case hd => rfl); (case hg => rfl); (case hr => first | (go_simp; done) | (go_simp; rfl)); intro gb1240 hg w30 hbox hb; have n0_ := Aside0.mk (blk_below (g := gb1237) (o := .cells #[.slice A0_0 l0_0.length c0_0] 26 (0, 0)) (by (with_reducible repeat (first | refine blk_drewN ?_ _ | refine blk_drew ?_ | refine blk_alloc ?_ _)); exact BK1237.out) hb); have n1_ := Aside0.mk (blk_below (g := gb1238) (o := .cells #[.int .i64 a1_0, .int .i64 a1_1, .int .i64 a1_2, .int .i64 a1_3] 48 (0, 0)) (by (with_reducible repeat (first | refine blk_drewN ?_ _ | refine blk_drew ?_ | refine blk_alloc ?_ _)); exact BK1238.out) hb); have n2_ := Aside0.mk (blk_below (g := gb1239) (o := .cells #[.slice none 0 0] 26 (0, 0)) (by (with_reducible repeat (first | refine blk_drewN ?_ _ | refine blk_drew ?_ | refine blk_alloc ?_ _)); exact BK1239.out) hb); have n3_ := Aside0.mk (below_step (by repeat (first | (with_reducible first | exact HB.out | apply below_alloc | apply pw_below_drewN | apply below_drew1 | refine below_set ?_ GE1237.out | refine below_set ?_ GE1238.out | refine below_set ?_ GE1239.out) | exact HB.out)) hb); have n4_ := Aside0.mk (hbox); have n5_ := Aside0.mk ((by rw [hg]; exact (below_size (by repeat (first | (with_reducible first | exact HB.out | apply below_alloc | apply pw_below_drewN | apply below_drew1 | refine below_set ?_ GE1237.out | refine below_set ?_ GE1238.out | refine below_set ?_ GE1239.out) | exact HB.out))) : w.heap.size ≤ gb1240)); have n6_ := Aside0.mk ((by rw [hg]; exact (below_size (by repeat (first | (with_reducible first | exact HB.out | apply below_alloc | apply pw_below_drewN | apply below_drew1 | refine below_set ?_ GE1237.out | refine below_set ?_ GE1238.out | refine below_set ?_ GE1239.out) | exact HB.out))) : w.heap.size ≤ gb1240)); have n7_ := Aside0.mk ((by rw [hg]; exact Nat.ne_of_lt (blk_lt (g := gb1237) (o := .cells #[.slice A0_0 l0_0.length c0_0] 26 (0, 0)) (by (with_reducible repeat (first | refine blk_drewN ?_ _ | refine blk_drew ?_ | refine blk_alloc ?_ _)); exact BK1237.out)) : gb1237 ≠ gb1240)); have n8_ := Aside0.mk ((by rw [hg]; exact Nat.ne_of_gt (blk_lt (g := gb1237) (o := .cells #[.slice A0_0 l0_0.length c0_0] 26 (0, 0)) (by (with_reducible repeat (first | refine blk_drewN ?_ _ | refine blk_drew ?_ | refine blk_alloc ?_ _)); exact BK1237.out)) : gb1240 ≠ gb1237)); have n9_ := Aside0.mk ((by rw [hg]; exact Nat.ne_of_lt (blk_lt (g := gb1238) (o := .cells #[.int .i64 a1_0, .int .i64 a1_1, .int .i64 a1_2, .int .i64 a1_3] 48 (0, 0)) (by (with_reducible repeat (first | refine blk_drewN ?_ _ | refine blk_drew ?_ | refine blk_alloc ?_ _)); exact BK1238.out)) : gb1238 ≠ gb1240)); have n10_ := Aside0.mk ((by rw [hg]; exact Nat.ne_of_gt (blk_lt (g := gb1238) (o := .cells #[.int .i64 a1_0, .int .i64 a1_1, .int .i64 a1_2, .int .i64 a1_3] 48 (0, 0)) (by (with_reducible repeat (first | refine blk_drewN ?_ _ | refine blk_drew ?_ | refine blk_alloc ?_ _)); exact BK1238.out)) : gb1240 ≠ gb1238)); have n11_ := Aside0.mk ((by rw [hg]; exact Nat.ne_of_lt (blk_lt (g := gb1239) (o := .cells #[.slice none 0 0] 26 (0, 0)) (by (with_reducible repeat (first | refine blk_drewN ?_ _ | refine blk_drew ?_ | refine blk_alloc ?_ _)); exact BK1239.out)) : gb1239 ≠ gb1240)); have n12_ := Aside0.mk ((by rw [hg]; exact Nat.ne_of_gt (blk_lt (g := gb1239) (o := .cells #[.slice none 0 0] 26 (0, 0)) (by (with_reducible repeat (first | refine blk_drewN ?_ _ | refine blk_drew ?_ | refine blk_alloc ?_ _)); exact BK1239.out)) : gb1240 ≠ gb1239)); clear BK1237; clear BK1238; clear BK1239; clear HB; have BK1237 := n0_; have BK1238 := n1_; have BK1239 := n2_; have HB := n3_; have BK1240 := n4_; have GW1240 := n5_; have GE1240 := n6_; have NB1237_1240 := n7_; have NB1240_1237 := n8_; have NB1238_1240 := n9_; have NB1240_1238 := n10_; have NB1239_1240 := n11_; have NB1240_1239 := n12_; clear n0_ n1_ n2_ n3_ n4_ n5_ n6_ n7_ n8_ n9_ n10_ n11_ n12_; clear hb hbox hg; have hnb31 := NB1238_1237.out; have hnc31 := NB1237_1238.out; have hnb32 := NB1238_1239.out; have hnc32 := NB1239_1238.out; have hnb33 := NB1238_1240.out; have hnc33 := NB1240_1238.out; have hcz34_0 : w30.cell? ⟨gb1238, 0, none⟩ = some (.int .i64 a1_0) := (blk_cell BK1238.out 0).trans rfl; have hcz34_1 : w30.cell? ⟨gb1238, 1, none⟩ = some (.int .i64 a1_1) := (blk_cell BK1238.out 1).trans rfl; have hcz34_2 : w30.cell? ⟨gb1238, 2, none⟩ = some (.int .i64 a1_2) := (blk_cell BK1238.out 2).trans rfl; have hcz34_3 : w30.cell? ⟨gb1238, 3, none⟩ = some (.int .i64 a1_3) := (blk_cell BK1238.out 3).trans rfl; have hfz34_0 := blk_frozen BK1238.out 0; have hfz34_1 := blk_frozen BK1238.out 1; have hfz34_2 := blk_frozen BK1238.out 2; have hfz34_3 := blk_frozen BK1238.out 3) | ((with_reducible refine gate_callee (f := 159) rfl ?_); refine goesL_ (some 16) rfl rfl Try.func159 (by kernel_rfl) rfl #[.agg #[.int .i64 a1_0, .int .i64 a1_1, .int .i64 a1_2, .int .i64 a1_3]] rfl (by (try simp only [List.map_toArray, List.map_cons, List.map_nil]); first | done | rfl | (simp only [List.length_drop, List.length_take]; rfl)) ?_; (with_reducible refine (spec_l2Room.calls a1_0 a1_1 a1_2 a1_3 t1241 _ A4.out).mono ?_); rintro e w35 ⟨rfl, hb⟩; refine ⟨_, rfl, ?_⟩; have n0_ := Aside0.mk (blk_below (g := gb1237) (o := .cells #[.slice A0_0 l0_0.length c0_0] 26 (0, 0)) (by (with_reducible repeat (first | refine blk_drewN ?_ _ | refine blk_drew ?_ | refine blk_alloc ?_ _)); exact BK1237.out) hb); have n1_ := Aside0.mk (blk_below (g := gb1238) (o := .cells #[.int .i64 a1_0, .int .i64 a1_1, .int .i64 a1_2, .int .i64 a1_3] 48 (0, 0)) (by (with_reducible repeat (first | refine blk_drewN ?_ _ | refine blk_drew ?_ | refine blk_alloc ?_ _)); exact BK1238.out) hb); have n2_ := Aside0.mk (blk_below (g := gb1239) (o := .cells #[.slice none 0 0] 26 (0, 0)) (by (with_reducible repeat (first | refine blk_drewN ?_ _ | refine blk_drew ?_ | refine blk_alloc ?_ _)); exact BK1239.out) hb); have n3_ := Aside0.mk (blk_below (g := gb1240) (o := .cells #[.int .i64 0, .int .i64 0, .int .i64 0, .int .i64 0] 48 (0, 0)) (by (with_reducible repeat (first | refine blk_drewN ?_ _ | refine blk_drew ?_ | refine blk_alloc ?_ _)); exact BK1240.out) hb); have n4_ := Aside0.mk (below_step (by repeat (first | (with_reducible first | exact HB.out | apply below_alloc | apply pw_below_drewN | apply below_drew1 | refine below_set ?_ GE1237.out | refine below_set ?_ GE1238.out | refine below_set ?_ GE1239.out | refine below_set ?_ GE1240.out) | exact HB.out)) hb); clear BK1237; clear BK1238; clear BK1239; clear BK1240; clear HB; have BK1237 := n0_; have BK1238 := n1_; have BK1239 := n2_; have BK1240 := n3_; have HB := n4_; clear n0_ n1_ n2_ n3_ n4_; (try clear hb); (try clear hb2); (try clear hk); (try clear hi)))
    (try simp only [Act.put, List.setIfInBounds_toArray, List.set_cons_zero, List.set_cons_succ])
    go_cut [44] (fun v44 wc => ∃ (kq : Nat) (x44_25 : Bool), v44 = .bool x44_25 ∧ Aside0 (spec_l2Append.j0 kq l2 x44_25 l0_0 a1_0 a1_1 a1_2 a1_3 = some (r1, r2, r3, r4, r5, r6)) ∧ Aside0 (kq ≤ k) ∧ Aside0 (wc.heap[gb1237]? = some (.cells #[(.slice A0_0 l0_0.length c0_0)] 26 (0, 0))) ∧ Aside0 (wc.heap[gb1238]? = some (.cells #[.int .i64 a1_0, .int .i64 a1_1, .int .i64 a1_2, .int .i64 a1_3] 48 (0, 0))) ∧ Aside0 (wc.heap[gb1239]? = some (.cells #[(.slice none 0 0)] 26 (0, 0))) ∧ Aside0 (wc.heap[gb1240]? = some (.cells #[.int .i64 0, .int .i64 0, .int .i64 0, .int .i64 0] 48 (0, 0))) ∧ Aside0 (Below w.heap.size w wc))
    case first =>
      have H := HC26.out
      clear HC26
      by_cases c36 : (l2.length : Int) > (wrap64 (64 - a1_2))
      · rw [if_pos c36] at H
        have c36b0 : decide ((wrap64 (64 - a1_2)) < (l2.length : Int)) = true := decide_eq_true c36
        clear c36
        (first | rw [c36b0] | (simp only [i64_w, i32_w]; rw [c36b0]) | skip)
        have H' := Aside0.mk H
        clear H
        have hnb37 := NB1238_1237.out
        have hnc37 := NB1237_1238.out
        have hnb38 := NB1238_1239.out
        have hnc38 := NB1239_1238.out
        have hnb39 := NB1238_1240.out
        have hnc39 := NB1240_1238.out
        have hcz40_0 : w35.cell? ⟨gb1238, 0, none⟩ = some (.int .i64 a1_0) := (blk_cell BK1238.out 0).trans rfl
        have hcz40_1 : w35.cell? ⟨gb1238, 1, none⟩ = some (.int .i64 a1_1) := (blk_cell BK1238.out 1).trans rfl
        have hcz40_2 : w35.cell? ⟨gb1238, 2, none⟩ = some (.int .i64 a1_2) := (blk_cell BK1238.out 2).trans rfl
        have hcz40_3 : w35.cell? ⟨gb1238, 3, none⟩ = some (.int .i64 a1_3) := (blk_cell BK1238.out 3).trans rfl
        have hfz40_0 := blk_frozen BK1238.out 0
        have hfz40_1 := blk_frozen BK1238.out 1
        have hfz40_2 := blk_frozen BK1238.out 2
        have hfz40_3 := blk_frozen BK1238.out 3
        go_wp2
        go_meet
        case rel => exact ⟨_, (true), (by first | rfl | (simp; done) | (simp [*]; done)), H', ⟨by first | omega | exact Nat.le_refl _⟩, ⟨by (with_reducible repeat (first | refine blk_drewN ?_ _ | refine blk_drew ?_ | refine blk_alloc ?_ _)); exact BK1237.out⟩, ⟨by (with_reducible repeat (first | refine blk_drewN ?_ _ | refine blk_drew ?_ | refine blk_alloc ?_ _)); exact BK1238.out⟩, ⟨by (with_reducible repeat (first | refine blk_drewN ?_ _ | refine blk_drew ?_ | refine blk_alloc ?_ _)); exact BK1239.out⟩, ⟨by (with_reducible repeat (first | refine blk_drewN ?_ _ | refine blk_drew ?_ | refine blk_alloc ?_ _)); exact BK1240.out⟩, ⟨by repeat (first | (with_reducible first | exact HB.out | apply below_alloc | apply pw_below_drewN | apply below_drew1 | refine below_set ?_ GE1237.out | refine below_set ?_ GE1238.out | refine below_set ?_ GE1239.out | refine below_set ?_ GE1240.out) | exact HB.out)⟩⟩
      · rw [if_neg c36] at H
        have c36b0 : decide ((wrap64 (64 - a1_2)) < (l2.length : Int)) = false := decide_eq_false c36
        clear c36
        (first | rw [c36b0] | (simp only [i64_w, i32_w]; rw [c36b0]) | skip)
        have H' := Aside0.mk H
        clear H
        have hnb41 := NB1238_1237.out
        have hnc41 := NB1237_1238.out
        have hnb42 := NB1238_1239.out
        have hnc42 := NB1239_1238.out
        have hnb43 := NB1238_1240.out
        have hnc43 := NB1240_1238.out
        have hcz44_0 : w35.cell? ⟨gb1238, 0, none⟩ = some (.int .i64 a1_0) := (blk_cell BK1238.out 0).trans rfl
        have hcz44_1 : w35.cell? ⟨gb1238, 1, none⟩ = some (.int .i64 a1_1) := (blk_cell BK1238.out 1).trans rfl
        have hcz44_2 : w35.cell? ⟨gb1238, 2, none⟩ = some (.int .i64 a1_2) := (blk_cell BK1238.out 2).trans rfl
        have hcz44_3 : w35.cell? ⟨gb1238, 3, none⟩ = some (.int .i64 a1_3) := (blk_cell BK1238.out 3).trans rfl
        have hfz44_0 := blk_frozen BK1238.out 0
        have hfz44_1 := blk_frozen BK1238.out 1
        have hfz44_2 := blk_frozen BK1238.out 2
        have hfz44_3 := blk_frozen BK1238.out 3
        have hnb45 := NB1237_1239.out
        have hnc45 := NB1239_1237.out
        have hnb46 := NB1237_1240.out
        have hnc46 := NB1240_1237.out
        have hcz47_0 : w35.cell? ⟨gb1237, 0, none⟩ = some (.slice A0_0 l0_0.length c0_0) := (blk_cell BK1237.out 0).trans rfl
        have hfz47_0 := blk_frozen BK1237.out 0
        go_wp2
        go_meet
        case rel => exact ⟨_, (((l0_0.length : Int) == 16)), (by first | rfl | (simp; done) | (simp [*]; done)), H', ⟨by first | omega | exact Nat.le_refl _⟩, ⟨by (with_reducible repeat (first | refine blk_drewN ?_ _ | refine blk_drew ?_ | refine blk_alloc ?_ _)); exact BK1237.out⟩, ⟨by (with_reducible repeat (first | refine blk_drewN ?_ _ | refine blk_drew ?_ | refine blk_alloc ?_ _)); exact BK1238.out⟩, ⟨by (with_reducible repeat (first | refine blk_drewN ?_ _ | refine blk_drew ?_ | refine blk_alloc ?_ _)); exact BK1239.out⟩, ⟨by (with_reducible repeat (first | refine blk_drewN ?_ _ | refine blk_drew ?_ | refine blk_alloc ?_ _)); exact BK1240.out⟩, ⟨by repeat (first | (with_reducible first | exact HB.out | apply below_alloc | apply pw_below_drewN | apply below_drew1 | refine below_set ?_ GE1237.out | refine below_set ?_ GE1238.out | refine below_set ?_ GE1239.out | refine below_set ?_ GE1240.out) | exact HB.out)⟩⟩
    case rest =>
      clear HC26
      try clear c1
      try clear c2
      try clear p2
      try clear c3
      try clear c4
      try clear c5
      try clear c5b0
      try clear p6
      try clear c10
      try clear c12
      try clear c13
      try clear c14
      try clear c15
      try clear c31
      try clear c32
      try clear c33
      try clear c36
      try clear c36b0
      try clear c37
      try clear c38
      try clear c39
      try clear c41
      try clear c42
      try clear c43
      try clear c45
      try clear c46
      try clear hcz15_0
      try clear hcz15_1
      try clear hcz15_2
      try clear hcz15_3
      try clear hcz34_0
      try clear hcz34_1
      try clear hcz34_2
      try clear hcz34_3
      try clear hcz40_0
      try clear hcz40_1
      try clear hcz40_2
      try clear hcz40_3
      try clear hcz44_0
      try clear hcz44_1
      try clear hcz44_2
      try clear hcz44_3
      try clear hcz47_0
      try clear hfz15_0
      try clear hfz15_1
      try clear hfz15_2
      try clear hfz15_3
      try clear hfz34_0
      try clear hfz34_1
      try clear hfz34_2
      try clear hfz34_3
      try clear hfz40_0
      try clear hfz40_1
      try clear hfz40_2
      try clear hfz40_3
      try clear hfz44_0
      try clear hfz44_1
      try clear hfz44_2
      try clear hfz44_3
      try clear hfz47_0
      obtain ⟨kq, x44_25, rfl, HA, HJ25, BK1237, BK1238, BK1239, BK1240, HB⟩ := hcut
      cases kq with
      | zero => exact absurd HA.out (by simp [spec_l2Append.j0])
      | succ kj25 =>
        have H := HA.out
        clear HA
        simp only [spec_l2Append.j0] at H
        by_cases c48 : x44_25 = true
        · subst c48
          have H1 : (some (([] : List (List Int)), 0, 0, 0, 0, false)) = some (r1, r2, r3, r4, r5, r6) := by rw [if_pos rfl] at H; exact H
          clear H
          have H := H1
          clear H1
          simp only [Option.some.injEq, Prod.mk.injEq] at H
          obtain ⟨rfl, rfl, rfl, rfl, rfl, rfl⟩ := H
          have hnb49 := NB1239_1237.out
          have hnc49 := NB1237_1239.out
          have hnb50 := NB1239_1238.out
          have hnc50 := NB1238_1239.out
          have hnb51 := NB1239_1240.out
          have hnc51 := NB1240_1239.out
          have hcz52_0 : wc.cell? ⟨gb1239, 0, none⟩ = some (.slice none 0 0) := (blk_cell BK1239.out 0).trans rfl
          have hfz52_0 := blk_frozen BK1239.out 0
          have hnb53 := NB1240_1237.out
          have hnc53 := NB1237_1240.out
          have hnb54 := NB1240_1238.out
          have hnc54 := NB1238_1240.out
          have hcz55_0 : wc.cell? ⟨gb1240, 0, none⟩ = some (.int .i64 0) := (blk_cell BK1240.out 0).trans rfl
          have hcz55_1 : wc.cell? ⟨gb1240, 1, none⟩ = some (.int .i64 0) := (blk_cell BK1240.out 1).trans rfl
          have hcz55_2 : wc.cell? ⟨gb1240, 2, none⟩ = some (.int .i64 0) := (blk_cell BK1240.out 2).trans rfl
          have hcz55_3 : wc.cell? ⟨gb1240, 3, none⟩ = some (.int .i64 0) := (blk_cell BK1240.out 3).trans rfl
          have hfz55_0 := blk_frozen BK1240.out 0
          have hfz55_1 := blk_frozen BK1240.out 1
          have hfz55_2 := blk_frozen BK1240.out 2
          have hfz55_3 := blk_frozen BK1240.out 3
          go_wp2
          refine bodyPost_ret (results_list (rs := [.cell 6 26, .cell 7 48, .tmp 8]) rfl (by simp) (.cell gb1239 26 #[.slice none 0 0] (0, 0) _ rfl (by (with_reducible repeat (first | refine blk_drewN ?_ _ | refine blk_drew ?_ | refine blk_alloc ?_ _)); refine blk_far ?_ NB1239_1240.out _; (with_reducible repeat (first | refine blk_drewN ?_ _ | refine blk_drew ?_ | refine blk_alloc ?_ _)); refine blk_far ?_ NB1239_1240.out _; (with_reducible repeat (first | refine blk_drewN ?_ _ | refine blk_drew ?_ | refine blk_alloc ?_ _)); refine blk_far ?_ NB1239_1240.out _; (with_reducible repeat (first | refine blk_drewN ?_ _ | refine blk_drew ?_ | refine blk_alloc ?_ _)); refine blk_far ?_ NB1239_1240.out _; (with_reducible repeat (first | refine blk_drewN ?_ _ | refine blk_drew ?_ | refine blk_alloc ?_ _)); refine blk_put (cs := #[.slice none 0 0]) ?_ 0 _ rfl; (with_reducible repeat (first | refine blk_drewN ?_ _ | refine blk_drew ?_ | refine blk_alloc ?_ _)); exact BK1239.out) Try.underlying26 rfl (by kernel_rfl) (.cell gb1240 48 #[.int .i64 0, .int .i64 0, .int .i64 0, .int .i64 0] (0, 0) _ rfl (by (with_reducible repeat (first | refine blk_drewN ?_ _ | refine blk_drew ?_ | refine blk_alloc ?_ _)); refine blk_put (cs := #[.int .i64 0, .int .i64 0, .int .i64 0, .int .i64 0]) ?_ 3 _ rfl; (with_reducible repeat (first | refine blk_drewN ?_ _ | refine blk_drew ?_ | refine blk_alloc ?_ _)); refine blk_put (cs := #[.int .i64 0, .int .i64 0, .int .i64 0, .int .i64 0]) ?_ 2 _ rfl; (with_reducible repeat (first | refine blk_drewN ?_ _ | refine blk_drew ?_ | refine blk_alloc ?_ _)); refine blk_put (cs := #[.int .i64 0, .int .i64 0, .int .i64 0, .int .i64 0]) ?_ 1 _ rfl; (with_reducible repeat (first | refine blk_drewN ?_ _ | refine blk_drew ?_ | refine blk_alloc ?_ _)); refine blk_put (cs := #[.int .i64 0, .int .i64 0, .int .i64 0, .int .i64 0]) ?_ 0 _ rfl; (with_reducible repeat (first | refine blk_drewN ?_ _ | refine blk_drew ?_ | refine blk_alloc ?_ _)); refine blk_far ?_ NB1240_1239.out _; (with_reducible repeat (first | refine blk_drewN ?_ _ | refine blk_drew ?_ | refine blk_alloc ?_ _)); exact BK1240.out) Try.underlying48 rfl (by kernel_rfl) (.tmp .nil)))) rfl ?_
          exact ⟨_, by first | rfl | (simp [errW_none, errW_some] <;> rfl) | (simp [*, errW_none, errW_some] <;> rfl), by first | exact Kd.S_nil _ _ _ _ _ | exact Kd.N_nil _ _ _ _ _ | exact Kd.V_nil _ _ _ _ _ | exact Kd.Q_nil _ _ _ _ _ | exact Kd.R_nil _ _ _ _ _, by repeat (first | (with_reducible first | exact HB.out | apply below_alloc | apply pw_below_drewN | apply below_drew1 | refine below_set ?_ GE1237.out | refine below_set ?_ GE1238.out | refine below_set ?_ GE1239.out | refine below_set ?_ GE1240.out) | exact HB.out)⟩
        · replace c48 := Bool.eq_false_iff.mpr c48
          subst c48
          have H1 : ((spec_l2Bytes.f kj25 l0_0 a1_0 a1_1 a1_2 a1_3).bind fun t1249 => (if t1249.length + l2.length < 140737488355328 then (spec_l2Append.l0 kj25 (wrap64 (a1_2 + (l2.length : Int))) (t1249 ++ l2) l0_0 a1_0 a1_1 a1_2 a1_3) else (none))) = some (r1, r2, r3, r4, r5, r6) := by rw [if_neg (show ¬ (false = true) by decide)] at H; exact H
          clear H
          have H := H1
          clear H1
          replace H := Option.bind_eq_some_iff.mp H
          obtain ⟨t1249, A560, H⟩ := H
          replace H : (if t1249.length + l2.length < 140737488355328 then (spec_l2Append.l0 kj25 (wrap64 (a1_2 + (l2.length : Int))) (t1249 ++ l2) l0_0 a1_0 a1_1 a1_2 a1_3) else (none)) = some (r1, r2, r3, r4, r5, r6) := H
          have A56 := Aside0.mk A560
          clear A560
          by_cases c57 : t1249.length + l2.length < 140737488355328
          · rw [if_pos c57] at H
            have LMc57 := Aside0.mk c57
            clear c57
            obtain ⟨y1252, hy1252⟩ : ∃ y_ : List Int, y_ = (t1249 ++ l2) := ⟨_, rfl⟩
            replace H : (spec_l2Append.l0 kj25 (wrap64 (a1_2 + (l2.length : Int))) y1252 l0_0 a1_0 a1_1 a1_2 a1_3) = some (r1, r2, r3, r4, r5, r6) := by first | (rw [hy1252]; with_reducible exact H) | (have H2_ := (Option.bind_some _ _).symm.trans H; rw [hy1252]; with_reducible exact H2_) | (have H2_ := (Option.bind_some _ _).symm.trans H; with_reducible exact H2_) | with_reducible exact H | (rw [hy1252]; exact H) | exact H
            have Ny1252 := Aside0.mk hy1252
            clear hy1252
            have H' := Aside0.mk H
            clear H
            have hnb58 := NB1238_1237.out
            have hnc58 := NB1237_1238.out
            have hnb59 := NB1238_1239.out
            have hnc59 := NB1239_1238.out
            have hnb60 := NB1238_1240.out
            have hnc60 := NB1240_1238.out
            have hcz61_0 : wc.cell? ⟨gb1238, 0, none⟩ = some (.int .i64 a1_0) := (blk_cell BK1238.out 0).trans rfl
            have hcz61_1 : wc.cell? ⟨gb1238, 1, none⟩ = some (.int .i64 a1_1) := (blk_cell BK1238.out 1).trans rfl
            have hcz61_2 : wc.cell? ⟨gb1238, 2, none⟩ = some (.int .i64 a1_2) := (blk_cell BK1238.out 2).trans rfl
            have hcz61_3 : wc.cell? ⟨gb1238, 3, none⟩ = some (.int .i64 a1_3) := (blk_cell BK1238.out 3).trans rfl
            have hfz61_0 := blk_frozen BK1238.out 0
            have hfz61_1 := blk_frozen BK1238.out 1
            have hfz61_2 := blk_frozen BK1238.out 2
            have hfz61_3 := blk_frozen BK1238.out 3
            have hnb62 := NB1237_1239.out
            have hnc62 := NB1239_1237.out
            have hnb63 := NB1237_1240.out
            have hnc63 := NB1240_1237.out
            have hcz64_0 : wc.cell? ⟨gb1237, 0, none⟩ = some (.slice A0_0 l0_0.length c0_0) := (blk_cell BK1237.out 0).trans rfl
            have hfz64_0 := blk_frozen BK1237.out 0
            go_wp2_with (first | ((with_reducible refine gate_callee (f := 142) rfl ?_); refine goesL_ (some 54) rfl rfl Try.func142 (by kernel_rfl) rfl #[.agg #[.slice A0_0 l0_0.length c0_0], .agg #[.int .i64 a1_0, .int .i64 a1_1, .int .i64 a1_2, .int .i64 a1_3]] rfl (by (try simp only [List.map_toArray, List.map_cons, List.map_nil]); first | done | rfl | (simp only [List.length_drop, List.length_take]; rfl)) ?_; (with_reducible refine (spec_l2Bytes.calls kj25 _ _ l0_0 a1_0 a1_1 a1_2 a1_3 t1249 _ ?side1 ?side2 A56.out).mono ?_); (case side1 => repeat (first | exact (Kd.C_below HR0_0.out HB.out) | (with_reducible refine Kd.C_alloc ?_ _) | (with_reducible refine Kd.C_drewN ?_ _) | (with_reducible refine Kd.C_drew ?_))); (case side2 => exact HC0_0.out); rintro e w65 ⟨v1250, rfl, ho0, hb⟩; refine ⟨_, rfl, ?_⟩; have n0_ := Aside0.mk (Kd.R_lower ho0 (below_size (by repeat (first | (with_reducible first | exact HB.out | apply below_alloc | apply pw_below_drewN | apply below_drew1 | refine below_set ?_ GE1237.out | refine below_set ?_ GE1238.out | refine below_set ?_ GE1239.out | refine below_set ?_ GE1240.out) | exact HB.out)))); have n1_ := Aside0.mk (blk_below (g := gb1237) (o := .cells #[.slice A0_0 l0_0.length c0_0] 26 (0, 0)) (by (with_reducible repeat (first | refine blk_drewN ?_ _ | refine blk_drew ?_ | refine blk_alloc ?_ _)); exact BK1237.out) hb); have n2_ := Aside0.mk (blk_below (g := gb1238) (o := .cells #[.int .i64 a1_0, .int .i64 a1_1, .int .i64 a1_2, .int .i64 a1_3] 48 (0, 0)) (by (with_reducible repeat (first | refine blk_drewN ?_ _ | refine blk_drew ?_ | refine blk_alloc ?_ _)); exact BK1238.out) hb); have n3_ := Aside0.mk (blk_below (g := gb1239) (o := .cells #[.slice none 0 0] 26 (0, 0)) (by (with_reducible repeat (first | refine blk_drewN ?_ _ | refine blk_drew ?_ | refine blk_alloc ?_ _)); exact BK1239.out) hb); have n4_ := Aside0.mk (blk_below (g := gb1240) (o := .cells #[.int .i64 0, .int .i64 0, .int .i64 0, .int .i64 0] 48 (0, 0)) (by (with_reducible repeat (first | refine blk_drewN ?_ _ | refine blk_drew ?_ | refine blk_alloc ?_ _)); exact BK1240.out) hb); have n5_ := Aside0.mk (below_step (by repeat (first | (with_reducible first | exact HB.out | apply below_alloc | apply pw_below_drewN | apply below_drew1 | refine below_set ?_ GE1237.out | refine below_set ?_ GE1238.out | refine below_set ?_ GE1239.out | refine below_set ?_ GE1240.out) | exact HB.out)) hb); clear BK1237; clear BK1238; clear BK1239; clear BK1240; clear HB; have HO1251 := n0_; have BK1237 := n1_; have BK1238 := n2_; have BK1239 := n3_; have BK1240 := n4_; have HB := n5_; clear n0_ n1_ n2_ n3_ n4_ n5_; (try clear hb); (try clear hb2); (try clear hk); (try clear hi); (try clear ho0)) | ((with_reducible refine gate_builtin (b := .append) (xs := #[.tmp 54, .tmp 55]) rfl ?_); (try (refine gate_guard (by rfl) ?_; dsimp only)); at_builtin; refine Kd.R_append_rows (Kd.int .u8) (w0 := w) w.heap.size rfl (.tmp 54) (.tmp 55) 119 5 (.int .u8 0) 1 rfl Try.underlying119 info5 rfl (by decide) (by omega) v1250 t1249 l2 _ _ _ (fun _ => True) (fun _ => False) rfl rfl ?aO ?aR (fun _ _ h => h) (fun _ h => h.elim) ?aF ?aB ?aS ?aL ?_; (case aR => repeat (first | exact (Kd.C_below HR2.out HB.out) | (with_reducible refine Kd.C_alloc ?_ _) | (with_reducible refine Kd.C_drewN ?_ _) | (with_reducible refine Kd.C_drew ?_))); (case aB => exact (by repeat (first | (with_reducible first | exact HB.out | apply below_alloc | apply pw_below_drewN | apply below_drew1 | refine below_set ?_ GE1237.out | refine below_set ?_ GE1238.out | refine below_set ?_ GE1239.out | refine below_set ?_ GE1240.out) | exact HB.out))); (case aF => exact (fun _ _ => trivial)); (case aO => exact (by (with_reducible repeat (first | apply Kd.R_alloc | apply Kd.R_drewN | apply Kd.R_drew)); exact HO1251.out)); (case aS => exact (below_size (by repeat (first | (with_reducible first | exact HB.out | apply below_alloc | apply pw_below_drewN | apply below_drew1 | refine below_set ?_ GE1237.out | refine below_set ?_ GE1238.out | refine below_set ?_ GE1239.out | refine below_set ?_ GE1240.out) | exact HB.out)))); (case aL => have := LMc57.out; omega); intro v1253 w66 ho hb hg hat; rw [← Ny1252.out] at ho; have n0_ := Aside0.mk (blk_grown (g := gb1237) (o := .cells #[.slice A0_0 l0_0.length c0_0] 26 (0, 0)) (by (with_reducible repeat (first | refine blk_drewN ?_ _ | refine blk_drew ?_ | refine blk_alloc ?_ _)); exact BK1237.out) hg (Kd.R_ne HO1251.out BK1237.out (by decide))); have n1_ := Aside0.mk (blk_grown (g := gb1238) (o := .cells #[.int .i64 a1_0, .int .i64 a1_1, .int .i64 a1_2, .int .i64 a1_3] 48 (0, 0)) (by (with_reducible repeat (first | refine blk_drewN ?_ _ | refine blk_drew ?_ | refine blk_alloc ?_ _)); exact BK1238.out) hg (Kd.R_ne HO1251.out BK1238.out (by decide))); have n2_ := Aside0.mk (blk_grown (g := gb1239) (o := .cells #[.slice none 0 0] 26 (0, 0)) (by (with_reducible repeat (first | refine blk_drewN ?_ _ | refine blk_drew ?_ | refine blk_alloc ?_ _)); exact BK1239.out) hg (Kd.R_ne HO1251.out BK1239.out (by decide))); have n3_ := Aside0.mk (blk_grown (g := gb1240) (o := .cells #[.int .i64 0, .int .i64 0, .int .i64 0, .int .i64 0] 48 (0, 0)) (by (with_reducible repeat (first | refine blk_drewN ?_ _ | refine blk_drew ?_ | refine blk_alloc ?_ _)); exact BK1240.out) hg (Kd.R_ne HO1251.out BK1240.out (by decide))); have n4_ := Aside0.mk (hb); have n5_ := Aside0.mk (ho); clear BK1237; clear BK1238; clear BK1239; clear BK1240; clear HB; clear HO1251; have BK1237 := n0_; have BK1238 := n1_; have BK1239 := n2_; have BK1240 := n3_; have HB := n4_; have HO1254 := n5_; clear n0_ n1_ n2_ n3_ n4_ n5_; clear ho hb hg hat))
            go_loopg [10] kj25 (fun kq v10 w' => ∃ (x10_2 : List Int), Aside0 (spec_l2Append.l0 kq (wrap64 (a1_2 + (l2.length : Int))) x10_2 l0_0 a1_0 a1_1 a1_2 a1_3 = some (r1, r2, r3, r4, r5, r6)) ∧ Aside0 (kq ≤ kj25) ∧ Aside0 (Kd.R (Kd.int .u8) 5 w' w.heap.size (fun _ => True) v10 x10_2) ∧ Aside0 (w'.heap[gb1237]? = some (.cells #[(.slice A0_0 l0_0.length c0_0)] 26 (0, 0))) ∧ Aside0 (w'.heap[gb1238]? = some (.cells #[.int .i64 a1_0, .int .i64 a1_1, .int .i64 a1_2, .int .i64 a1_3] 48 (0, 0))) ∧ Aside0 (w'.heap[gb1239]? = some (.cells #[(.slice none 0 0)] 26 (0, 0))) ∧ Aside0 (w'.heap[gb1240]? = some (.cells #[.int .i64 0, .int .i64 0, .int .i64 0, .int .i64 0] 48 (0, 0))) ∧ Aside0 (Below w.heap.size w w'))
            case atStart => exact ⟨(y1252), H', ⟨Nat.le_refl _⟩, ⟨by (with_reducible repeat (first | apply Kd.R_alloc | apply Kd.R_drewN | apply Kd.R_drew)); exact HO1254.out⟩, ⟨by (with_reducible repeat (first | refine blk_drewN ?_ _ | refine blk_drew ?_ | refine blk_alloc ?_ _)); exact BK1237.out⟩, ⟨by (with_reducible repeat (first | refine blk_drewN ?_ _ | refine blk_drew ?_ | refine blk_alloc ?_ _)); exact BK1238.out⟩, ⟨by (with_reducible repeat (first | refine blk_drewN ?_ _ | refine blk_drew ?_ | refine blk_alloc ?_ _)); exact BK1239.out⟩, ⟨by (with_reducible repeat (first | refine blk_drewN ?_ _ | refine blk_drew ?_ | refine blk_alloc ?_ _)); exact BK1240.out⟩, ⟨by repeat (first | (with_reducible first | exact HB.out | apply below_alloc | apply pw_below_drewN | apply below_drew1 | refine below_set ?_ GE1237.out | refine below_set ?_ GE1238.out | refine below_set ?_ GE1239.out | refine below_set ?_ GE1240.out) | exact HB.out)⟩⟩
            case round =>
              clear H'
              try clear c1
              try clear c2
              try clear p2
              try clear c3
              try clear c4
              try clear c5
              try clear c5b0
              try clear c6
              try clear p6
              try clear c10
              try clear c12
              try clear c13
              try clear c14
              try clear c15
              try clear c31
              try clear c32
              try clear c33
              try clear c36
              try clear c36b0
              try clear c37
              try clear c38
              try clear c39
              try clear c41
              try clear c42
              try clear c43
              try clear c45
              try clear c46
              try clear c48
              try clear c49
              try clear c50
              try clear c51
              try clear c53
              try clear c54
              try clear c57
              try clear c58
              try clear c59
              try clear c60
              try clear c62
              try clear c63
              try clear p64
              try clear hcz15_0
              try clear hcz15_1
              try clear hcz15_2
              try clear hcz15_3
              try clear hcz34_0
              try clear hcz34_1
              try clear hcz34_2
              try clear hcz34_3
              try clear hcz40_0
              try clear hcz40_1
              try clear hcz40_2
              try clear hcz40_3
              try clear hcz44_0
              try clear hcz44_1
              try clear hcz44_2
              try clear hcz44_3
              try clear hcz47_0
              try clear hcz52_0
              try clear hcz55_0
              try clear hcz55_1
              try clear hcz55_2
              try clear hcz55_3
              try clear hcz61_0
              try clear hcz61_1
              try clear hcz61_2
              try clear hcz61_3
              try clear hcz64_0
              try clear hfz15_0
              try clear hfz15_1
              try clear hfz15_2
              try clear hfz15_3
              try clear hfz34_0
              try clear hfz34_1
              try clear hfz34_2
              try clear hfz34_3
              try clear hfz40_0
              try clear hfz40_1
              try clear hfz40_2
              try clear hfz40_3
              try clear hfz44_0
              try clear hfz44_1
              try clear hfz44_2
              try clear hfz44_3
              try clear hfz47_0
              try clear hfz52_0
              try clear hfz55_0
              try clear hfz55_1
              try clear hfz55_2
              try clear hfz55_3
              try clear hfz61_0
              try clear hfz61_1
              try clear hfz61_2
              try clear hfz61_3
              try clear hfz64_0
              try clear p2
              try clear p6
              obtain ⟨x10_2, HA, HK2, HO_10, BK1237, BK1238, BK1239, BK1240, HB⟩ := hrel
              cases gk with
              | zero => exact absurd HA.out (by simp [spec_l2Append.l0])
              | succ k2 =>
                have H := HA.out
                clear HA
                simp only [spec_l2Append.l0] at H
                replace H := Option.bind_eq_some_iff.mp H
                obtain ⟨t1255, A670, H⟩ := H
                replace H : ((spec_l1Least.f t1255 64).bind fun t1256 => (if (x10_2.length : Int) < t1256 then (if x10_2.length < 140737488355328 then (spec_l2Append.l0 k2 (wrap64 (a1_2 + (l2.length : Int))) (x10_2 ++ [0]) l0_0 a1_0 a1_1 a1_2 a1_3) else (none)) else ((spec_l2New.f k2 l0_0 x10_2 (wrap64 (a1_2 + (l2.length : Int)))).bind fun bt1260 => (some (bt1260.1, bt1260.2.1, bt1260.2.2.1, bt1260.2.2.2.1, bt1260.2.2.2.2, true))))) = some (r1, r2, r3, r4, r5, r6) := H
                have A67 := Aside0.mk A670
                clear A670
                replace H := Option.bind_eq_some_iff.mp H
                obtain ⟨t1256, A680, H⟩ := H
                replace H : (if (x10_2.length : Int) < t1256 then (if x10_2.length < 140737488355328 then (spec_l2Append.l0 k2 (wrap64 (a1_2 + (l2.length : Int))) (x10_2 ++ [0]) l0_0 a1_0 a1_1 a1_2 a1_3) else (none)) else ((spec_l2New.f k2 l0_0 x10_2 (wrap64 (a1_2 + (l2.length : Int)))).bind fun bt1260 => (some (bt1260.1, bt1260.2.1, bt1260.2.2.1, bt1260.2.2.2.1, bt1260.2.2.2.2, true)))) = some (r1, r2, r3, r4, r5, r6) := H
                have A68 := Aside0.mk A680
                clear A680
                by_cases c69 : (x10_2.length : Int) < t1256
                · rw [if_pos c69] at H
                  have c69b0 : decide ((x10_2.length : Int) < t1256) = true := decide_eq_true c69
                  clear c69
                  by_cases c70 : x10_2.length < 140737488355328
                  · rw [if_pos c70] at H
                    have LMc70 := Aside0.mk c70
                    clear c70
                    obtain ⟨y1257, hy1257⟩ : ∃ y_ : List Int, y_ = (x10_2 ++ [0]) := ⟨_, rfl⟩
                    replace H : (spec_l2Append.l0 k2 (wrap64 (a1_2 + (l2.length : Int))) y1257 l0_0 a1_0 a1_1 a1_2 a1_3) = some (r1, r2, r3, r4, r5, r6) := by first | (rw [hy1257]; with_reducible exact H) | (have H2_ := (Option.bind_some _ _).symm.trans H; rw [hy1257]; with_reducible exact H2_) | (have H2_ := (Option.bind_some _ _).symm.trans H; with_reducible exact H2_) | with_reducible exact H | (rw [hy1257]; exact H) | exact H
                    have Ny1257 := Aside0.mk hy1257
                    clear hy1257
                    have H' := Aside0.mk H
                    clear H
                    obtain ⟨Ao71, co71, eo71⟩ := Kd.R_slice HO_10.out
                    subst eo71
                    have hnb72 := NB1238_1237.out
                    have hnc72 := NB1237_1238.out
                    have hnb73 := NB1238_1239.out
                    have hnc73 := NB1239_1238.out
                    have hnb74 := NB1238_1240.out
                    have hnc74 := NB1240_1238.out
                    have hcz75_0 : wr.cell? ⟨gb1238, 0, none⟩ = some (.int .i64 a1_0) := (blk_cell BK1238.out 0).trans rfl
                    have hcz75_1 : wr.cell? ⟨gb1238, 1, none⟩ = some (.int .i64 a1_1) := (blk_cell BK1238.out 1).trans rfl
                    have hcz75_2 : wr.cell? ⟨gb1238, 2, none⟩ = some (.int .i64 a1_2) := (blk_cell BK1238.out 2).trans rfl
                    have hcz75_3 : wr.cell? ⟨gb1238, 3, none⟩ = some (.int .i64 a1_3) := (blk_cell BK1238.out 3).trans rfl
                    have hfz75_0 := blk_frozen BK1238.out 0
                    have hfz75_1 := blk_frozen BK1238.out 1
                    have hfz75_2 := blk_frozen BK1238.out 2
                    have hfz75_3 := blk_frozen BK1238.out 3
                    go_wp2_with (first | ((with_reducible refine gate_callee (f := 160) rfl ?_); refine goesL_ (some 63) rfl rfl Try.func160 (by kernel_rfl) rfl #[.int .i64 (wrap64 (2 * a1_3)), .int .i64 (wrap64 (a1_2 + (l2.length : Int)))] rfl (by (try simp only [List.map_toArray, List.map_cons, List.map_nil]); first | done | rfl | (simp only [List.length_drop, List.length_take]; rfl)) ?_; (with_reducible refine (spec_l1Most.calls (wrap64 (2 * a1_3)) (wrap64 (a1_2 + (l2.length : Int))) t1255 _ A67.out).mono ?_); rintro e w' ⟨rfl, ⟨nd, rfl⟩⟩; refine ⟨_, rfl, ?_⟩) | ((with_reducible refine gate_callee (f := 157) rfl ?_); refine goesL_ (some 64) rfl rfl Try.func157 (by kernel_rfl) rfl #[.int .i64 t1255, .int .i64 64] rfl (by (try simp only [List.map_toArray, List.map_cons, List.map_nil]); first | done | rfl | (simp only [List.length_drop, List.length_take]; rfl)) ?_; (with_reducible refine (spec_l1Least.calls t1255 64 t1256 _ A68.out).mono ?_); rintro e w' ⟨rfl, ⟨nd, rfl⟩⟩; refine ⟨_, rfl, ?_⟩) | ((with_reducible refine gate_builtin (b := .append) (xs := #[.tmp 66, .tmp 67]) rfl ?_); (try (refine gate_guard (by rfl) ?_; dsimp only)); at_builtin; refine Kd.R_append (Kd.int .u8) (w0 := w) w.heap.size rfl (.tmp 66) (.tmp 67) 119 5 (.int .u8 0) 1 rfl Try.underlying119 info5 rfl (by decide) (by omega) (.slice Ao71 x10_2.length co71) x10_2 0 [.int .u8 0] (fun _ => True) (fun _ => False) rfl rfl ?aP (fun _ hk => hk.elim) ?aF ?aO ?aB ?aS ?aL ?_; (case aP => exact rfl); (case aB => exact (by repeat (first | (with_reducible first | exact HB.out | apply below_alloc | apply pw_below_drewN | apply below_drew1 | refine below_set ?_ GE1237.out | refine below_set ?_ GE1238.out | refine below_set ?_ GE1239.out | refine below_set ?_ GE1240.out) | exact HB.out))); (case aF => exact (fun _ _ => trivial)); (case aO => exact (by (with_reducible repeat (first | apply Kd.R_alloc | apply Kd.R_drewN | apply Kd.R_drew)); exact HO_10.out)); (case aS => exact (below_size (by repeat (first | (with_reducible first | exact HB.out | apply below_alloc | apply pw_below_drewN | apply below_drew1 | refine below_set ?_ GE1237.out | refine below_set ?_ GE1238.out | refine below_set ?_ GE1239.out | refine below_set ?_ GE1240.out) | exact HB.out)))); (case aL => have := LMc70.out; omega); intro v1258 w76 ho hb hg hat; rw [← Ny1257.out] at ho; have n0_ := Aside0.mk (blk_grown (g := gb1237) (o := .cells #[.slice A0_0 l0_0.length c0_0] 26 (0, 0)) (by (with_reducible repeat (first | refine blk_drewN ?_ _ | refine blk_drew ?_ | refine blk_alloc ?_ _)); exact BK1237.out) hg (Kd.R_ne HO_10.out BK1237.out (by decide))); have n1_ := Aside0.mk (blk_grown (g := gb1238) (o := .cells #[.int .i64 a1_0, .int .i64 a1_1, .int .i64 a1_2, .int .i64 a1_3] 48 (0, 0)) (by (with_reducible repeat (first | refine blk_drewN ?_ _ | refine blk_drew ?_ | refine blk_alloc ?_ _)); exact BK1238.out) hg (Kd.R_ne HO_10.out BK1238.out (by decide))); have n2_ := Aside0.mk (blk_grown (g := gb1239) (o := .cells #[.slice none 0 0] 26 (0, 0)) (by (with_reducible repeat (first | refine blk_drewN ?_ _ | refine blk_drew ?_ | refine blk_alloc ?_ _)); exact BK1239.out) hg (Kd.R_ne HO_10.out BK1239.out (by decide))); have n3_ := Aside0.mk (blk_grown (g := gb1240) (o := .cells #[.int .i64 0, .int .i64 0, .int .i64 0, .int .i64 0] 48 (0, 0)) (by (with_reducible repeat (first | refine blk_drewN ?_ _ | refine blk_drew ?_ | refine blk_alloc ?_ _)); exact BK1240.out) hg (Kd.R_ne HO_10.out BK1240.out (by decide))); have n4_ := Aside0.mk (hb); have n5_ := Aside0.mk (ho); clear BK1237; clear BK1238; clear BK1239; clear BK1240; clear HB; clear HO_10; have BK1237 := n0_; have BK1238 := n1_; have BK1239 := n2_; have BK1240 := n3_; have HB := n4_; have HO1259 := n5_; clear n0_ n1_ n2_ n3_ n4_ n5_; clear ho hb hg hat))
                    go_roundg k2
                    case measure => have := HJ25.out; have := HK2.out; omega
                    case rel => exact ⟨(y1257), H', ⟨by have := HJ25.out; have := HK2.out; omega⟩, ⟨by (with_reducible repeat (first | apply Kd.R_alloc | apply Kd.R_drewN | apply Kd.R_drew)); exact HO1259.out⟩, ⟨by (with_reducible repeat (first | refine blk_drewN ?_ _ | refine blk_drew ?_ | refine blk_alloc ?_ _)); exact BK1237.out⟩, ⟨by (with_reducible repeat (first | refine blk_drewN ?_ _ | refine blk_drew ?_ | refine blk_alloc ?_ _)); exact BK1238.out⟩, ⟨by (with_reducible repeat (first | refine blk_drewN ?_ _ | refine blk_drew ?_ | refine blk_alloc ?_ _)); exact BK1239.out⟩, ⟨by (with_reducible repeat (first | refine blk_drewN ?_ _ | refine blk_drew ?_ | refine blk_alloc ?_ _)); exact BK1240.out⟩, ⟨by repeat (first | (with_reducible first | exact HB.out | apply below_alloc | apply pw_below_drewN | apply below_drew1 | refine below_set ?_ GE1237.out | refine below_set ?_ GE1238.out | refine below_set ?_ GE1239.out | refine below_set ?_ GE1240.out) | exact HB.out)⟩⟩
                  · rw [if_neg c70] at H
                    exact absurd H (by simp)
                · rw [if_neg c69] at H
                  have c69b0 : decide ((x10_2.length : Int) < t1256) = false := decide_eq_false c69
                  clear c69
                  replace H := Option.bind_eq_some_iff.mp H
                  obtain ⟨⟨t1260, t1263, t1264, t1265, t1266⟩, A770, H⟩ := H
                  replace H : (some (t1260, t1263, t1264, t1265, t1266, true)) = some (r1, r2, r3, r4, r5, r6) := H
                  have A77 := Aside0.mk A770
                  clear A770
                  simp only [Option.some.injEq, Prod.mk.injEq] at H
                  obtain ⟨rfl, rfl, rfl, rfl, rfl, rfl⟩ := H
                  obtain ⟨Ao78, co78, eo78⟩ := Kd.R_slice HO_10.out
                  subst eo78
                  have hnb79 := NB1238_1237.out
                  have hnc79 := NB1237_1238.out
                  have hnb80 := NB1238_1239.out
                  have hnc80 := NB1239_1238.out
                  have hnb81 := NB1238_1240.out
                  have hnc81 := NB1240_1238.out
                  have hcz82_0 : wr.cell? ⟨gb1238, 0, none⟩ = some (.int .i64 a1_0) := (blk_cell BK1238.out 0).trans rfl
                  have hcz82_1 : wr.cell? ⟨gb1238, 1, none⟩ = some (.int .i64 a1_1) := (blk_cell BK1238.out 1).trans rfl
                  have hcz82_2 : wr.cell? ⟨gb1238, 2, none⟩ = some (.int .i64 a1_2) := (blk_cell BK1238.out 2).trans rfl
                  have hcz82_3 : wr.cell? ⟨gb1238, 3, none⟩ = some (.int .i64 a1_3) := (blk_cell BK1238.out 3).trans rfl
                  have hfz82_0 := blk_frozen BK1238.out 0
                  have hfz82_1 := blk_frozen BK1238.out 1
                  have hfz82_2 := blk_frozen BK1238.out 2
                  have hfz82_3 := blk_frozen BK1238.out 3
                  try go_wp2_with (first | ((with_reducible refine gate_callee (f := 160) rfl ?_); refine goesL_ (some 63) rfl rfl Try.func160 (by kernel_rfl) rfl #[.int .i64 (wrap64 (2 * a1_3)), .int .i64 (wrap64 (a1_2 + (l2.length : Int)))] rfl (by (try simp only [List.map_toArray, List.map_cons, List.map_nil]); first | done | rfl | (simp only [List.length_drop, List.length_take]; rfl)) ?_; (with_reducible refine (spec_l1Most.calls (wrap64 (2 * a1_3)) (wrap64 (a1_2 + (l2.length : Int))) t1255 _ A67.out).mono ?_); rintro e w' ⟨rfl, ⟨nd, rfl⟩⟩; refine ⟨_, rfl, ?_⟩; (try (rw [drewN_self wr]; generalize hq_ : World.drewN wr _ = wr; have n0_ : Aside0 (Kd.R (Kd.int .u8) 5 wr w.heap.size (fun _ => True) (.slice Ao78 x10_2.length co78) x10_2) := ⟨by rw [← hq_]; exact (by (with_reducible repeat (first | apply Kd.R_alloc | apply Kd.R_drewN | apply Kd.R_drew)); exact HO_10.out)⟩; have n1_ : Aside0 (wr.heap[gb1237]? = some (.cells #[.slice A0_0 l0_0.length c0_0] 26 (0, 0))) := ⟨by rw [← hq_]; exact (by (with_reducible repeat (first | refine blk_drewN ?_ _ | refine blk_drew ?_ | refine blk_alloc ?_ _)); exact BK1237.out)⟩; have n2_ : Aside0 (wr.heap[gb1238]? = some (.cells #[.int .i64 a1_0, .int .i64 a1_1, .int .i64 a1_2, .int .i64 a1_3] 48 (0, 0))) := ⟨by rw [← hq_]; exact (by (with_reducible repeat (first | refine blk_drewN ?_ _ | refine blk_drew ?_ | refine blk_alloc ?_ _)); exact BK1238.out)⟩; have n3_ : Aside0 (wr.heap[gb1239]? = some (.cells #[.slice none 0 0] 26 (0, 0))) := ⟨by rw [← hq_]; exact (by (with_reducible repeat (first | refine blk_drewN ?_ _ | refine blk_drew ?_ | refine blk_alloc ?_ _)); exact BK1239.out)⟩; have n4_ : Aside0 (wr.heap[gb1240]? = some (.cells #[.int .i64 0, .int .i64 0, .int .i64 0, .int .i64 0] 48 (0, 0))) := ⟨by rw [← hq_]; exact (by (with_reducible repeat (first | refine blk_drewN ?_ _ | refine blk_drew ?_ | refine blk_alloc ?_ _)); exact BK1240.out)⟩; have n5_ : Aside0 (Below w.heap.size w wr) := ⟨by rw [← hq_]; exact (by repeat (first | (with_reducible first | exact HB.out | apply below_alloc | apply pw_below_drewN | apply below_drew1 | refine below_set ?_ GE1237.out | refine below_set ?_ GE1238.out | refine below_set ?_ GE1239.out | refine below_set ?_ GE1240.out) | exact HB.out))⟩; clear HO_10 BK1237 BK1238 BK1239 BK1240 HB hq_; have HO_10 := n0_; have BK1237 := n1_; have BK1238 := n2_; have BK1239 := n3_; have BK1240 := n4_; have HB := n5_; clear n0_ n1_ n2_ n3_ n4_ n5_))) | ((with_reducible refine gate_callee (f := 157) rfl ?_); refine goesL_ (some 64) rfl rfl Try.func157 (by kernel_rfl) rfl #[.int .i64 t1255, .int .i64 64] rfl (by (try simp only [List.map_toArray, List.map_cons, List.map_nil]); first | done | rfl | (simp only [List.length_drop, List.length_take]; rfl)) ?_; (with_reducible refine (spec_l1Least.calls t1255 64 t1256 _ A68.out).mono ?_); rintro e w' ⟨rfl, ⟨nd, rfl⟩⟩; refine ⟨_, rfl, ?_⟩; (try (rw [drewN_self wr]; generalize hq_ : World.drewN wr _ = wr; have n0_ : Aside0 (Kd.R (Kd.int .u8) 5 wr w.heap.size (fun _ => True) (.slice Ao78 x10_2.length co78) x10_2) := ⟨by rw [← hq_]; exact (by (with_reducible repeat (first | apply Kd.R_alloc | apply Kd.R_drewN | apply Kd.R_drew)); exact HO_10.out)⟩; have n1_ : Aside0 (wr.heap[gb1237]? = some (.cells #[.slice A0_0 l0_0.length c0_0] 26 (0, 0))) := ⟨by rw [← hq_]; exact (by (with_reducible repeat (first | refine blk_drewN ?_ _ | refine blk_drew ?_ | refine blk_alloc ?_ _)); exact BK1237.out)⟩; have n2_ : Aside0 (wr.heap[gb1238]? = some (.cells #[.int .i64 a1_0, .int .i64 a1_1, .int .i64 a1_2, .int .i64 a1_3] 48 (0, 0))) := ⟨by rw [← hq_]; exact (by (with_reducible repeat (first | refine blk_drewN ?_ _ | refine blk_drew ?_ | refine blk_alloc ?_ _)); exact BK1238.out)⟩; have n3_ : Aside0 (wr.heap[gb1239]? = some (.cells #[.slice none 0 0] 26 (0, 0))) := ⟨by rw [← hq_]; exact (by (with_reducible repeat (first | refine blk_drewN ?_ _ | refine blk_drew ?_ | refine blk_alloc ?_ _)); exact BK1239.out)⟩; have n4_ : Aside0 (wr.heap[gb1240]? = some (.cells #[.int .i64 0, .int .i64 0, .int .i64 0, .int .i64 0] 48 (0, 0))) := ⟨by rw [← hq_]; exact (by (with_reducible repeat (first | refine blk_drewN ?_ _ | refine blk_drew ?_ | refine blk_alloc ?_ _)); exact BK1240.out)⟩; have n5_ : Aside0 (Below w.heap.size w wr) := ⟨by rw [← hq_]; exact (by repeat (first | (with_reducible first | exact HB.out | apply below_alloc | apply pw_below_drewN | apply below_drew1 | refine below_set ?_ GE1237.out | refine below_set ?_ GE1238.out | refine below_set ?_ GE1239.out | refine below_set ?_ GE1240.out) | exact HB.out))⟩; clear HO_10 BK1237 BK1238 BK1239 BK1240 HB hq_; have HO_10 := n0_; have BK1237 := n1_; have BK1238 := n2_; have BK1239 := n3_; have BK1240 := n4_; have HB := n5_; clear n0_ n1_ n2_ n3_ n4_ n5_)); have hnb83 := NB1237_1239.out; have hnc83 := NB1239_1237.out; have hnb84 := NB1237_1240.out; have hnc84 := NB1240_1237.out; have hcz85_0 : wr.cell? ⟨gb1237, 0, none⟩ = some (.slice A0_0 l0_0.length c0_0) := (blk_cell BK1237.out 0).trans rfl; have hfz85_0 := blk_frozen BK1237.out 0) | ((with_reducible refine gate_callee (f := 153) rfl ?_); refine goesL_ (some 73) rfl rfl Try.func153 (by kernel_rfl) rfl #[.agg #[.slice A0_0 l0_0.length c0_0], .slice Ao78 x10_2.length co78, .int .i64 (wrap64 (a1_2 + (l2.length : Int)))] rfl (by (try simp only [List.map_toArray, List.map_cons, List.map_nil]); first | done | rfl | (simp only [List.length_drop, List.length_take]; rfl)) ?_; (with_reducible refine (spec_l2New.calls k2 _ _ l0_0 _ _ x10_2 (wrap64 (a1_2 + (l2.length : Int))) t1260 t1263 t1264 t1265 t1266 _ ?side1 ?side2 ?side3 ?side4 A77.out).mono ?_); (case side1 => repeat (first | exact (Kd.C_below HR0_0.out HB.out) | (with_reducible refine Kd.C_alloc ?_ _) | (with_reducible refine Kd.C_drewN ?_ _) | (with_reducible refine Kd.C_drew ?_))); (case side2 => exact HC0_0.out); (case side3 => repeat (first | exact (Kd.R_reads' HO_10.out).2.2 | (with_reducible refine Kd.C_alloc ?_ _) | (with_reducible refine Kd.C_drewN ?_ _) | (with_reducible refine Kd.C_drew ?_))); (case side4 => exact (Kd.R_reads' HO_10.out).2.1); rintro e w86 ⟨v1261, rfl, ho0, hb⟩; refine ⟨_, rfl, ?_⟩; have n0_ := Aside0.mk (Kd.R_below (by (with_reducible repeat (first | apply Kd.R_alloc | apply Kd.R_drewN | apply Kd.R_drew)); exact HO_10.out) hb); have n1_ := Aside0.mk (Kd.S_lower (Kd.S_new' ho0 (Kd.R_lt (by (with_reducible repeat (first | apply Kd.R_alloc | apply Kd.R_drewN | apply Kd.R_drew)); exact HO_10.out))) (below_size (by repeat (first | (with_reducible first | exact HB.out | apply below_alloc | apply pw_below_drewN | apply below_drew1 | refine below_set ?_ GE1237.out | refine below_set ?_ GE1238.out | refine below_set ?_ GE1239.out | refine below_set ?_ GE1240.out) | exact HB.out)))); have n2_ := Aside0.mk (blk_below (g := gb1237) (o := .cells #[.slice A0_0 l0_0.length c0_0] 26 (0, 0)) (by (with_reducible repeat (first | refine blk_drewN ?_ _ | refine blk_drew ?_ | refine blk_alloc ?_ _)); exact BK1237.out) hb); have n3_ := Aside0.mk (blk_below (g := gb1238) (o := .cells #[.int .i64 a1_0, .int .i64 a1_1, .int .i64 a1_2, .int .i64 a1_3] 48 (0, 0)) (by (with_reducible repeat (first | refine blk_drewN ?_ _ | refine blk_drew ?_ | refine blk_alloc ?_ _)); exact BK1238.out) hb); have n4_ := Aside0.mk (blk_below (g := gb1239) (o := .cells #[.slice none 0 0] 26 (0, 0)) (by (with_reducible repeat (first | refine blk_drewN ?_ _ | refine blk_drew ?_ | refine blk_alloc ?_ _)); exact BK1239.out) hb); have n5_ := Aside0.mk (blk_below (g := gb1240) (o := .cells #[.int .i64 0, .int .i64 0, .int .i64 0, .int .i64 0] 48 (0, 0)) (by (with_reducible repeat (first | refine blk_drewN ?_ _ | refine blk_drew ?_ | refine blk_alloc ?_ _)); exact BK1240.out) hb); have n6_ := Aside0.mk (below_step (by repeat (first | (with_reducible first | exact HB.out | apply below_alloc | apply pw_below_drewN | apply below_drew1 | refine below_set ?_ GE1237.out | refine below_set ?_ GE1238.out | refine below_set ?_ GE1239.out | refine below_set ?_ GE1240.out) | exact HB.out)) hb); clear HO_10; clear BK1237; clear BK1238; clear BK1239; clear BK1240; clear HB; have HO_10 := n0_; have HO1262 := n1_; have BK1237 := n2_; have BK1238 := n3_; have BK1239 := n4_; have BK1240 := n5_; have HB := n6_; clear n0_ n1_ n2_ n3_ n4_ n5_ n6_; (try clear hb); (try clear hb2); (try clear hk); (try clear hi); (try clear ho0)) | ((with_reducible refine gate_dst (N := 11) rfl ?_); (try (refine gate_guard (by rfl) ?_; dsimp only)); refine box_event ?hg (N := 11) ?hd (cs := #[.slice none 0 0]) (t := 26) ?hr ?_; (case hd => rfl); (case hg => rfl); (case hr => first | (go_simp; done) | (go_simp; rfl)); intro gb1267 hg w87 hbox hb; have n0_ := Aside0.mk (Kd.R_below (by (with_reducible repeat (first | apply Kd.R_alloc | apply Kd.R_drewN | apply Kd.R_drew)); exact HO_10.out) hb); have n1_ := Aside0.mk (Kd.S_below (by (with_reducible repeat (first | apply Kd.S_alloc | apply Kd.S_drewN | apply Kd.S_drew)); exact HO1262.out) hb); have n2_ := Aside0.mk (blk_below (g := gb1237) (o := .cells #[.slice A0_0 l0_0.length c0_0] 26 (0, 0)) (by (with_reducible repeat (first | refine blk_drewN ?_ _ | refine blk_drew ?_ | refine blk_alloc ?_ _)); exact BK1237.out) hb); have n3_ := Aside0.mk (blk_below (g := gb1238) (o := .cells #[.int .i64 a1_0, .int .i64 a1_1, .int .i64 a1_2, .int .i64 a1_3] 48 (0, 0)) (by (with_reducible repeat (first | refine blk_drewN ?_ _ | refine blk_drew ?_ | refine blk_alloc ?_ _)); exact BK1238.out) hb); have n4_ := Aside0.mk (blk_below (g := gb1239) (o := .cells #[.slice none 0 0] 26 (0, 0)) (by (with_reducible repeat (first | refine blk_drewN ?_ _ | refine blk_drew ?_ | refine blk_alloc ?_ _)); exact BK1239.out) hb); have n5_ := Aside0.mk (blk_below (g := gb1240) (o := .cells #[.int .i64 0, .int .i64 0, .int .i64 0, .int .i64 0] 48 (0, 0)) (by (with_reducible repeat (first | refine blk_drewN ?_ _ | refine blk_drew ?_ | refine blk_alloc ?_ _)); exact BK1240.out) hb); have n6_ := Aside0.mk (below_step (by repeat (first | (with_reducible first | exact HB.out | apply below_alloc | apply pw_below_drewN | apply below_drew1 | refine below_set ?_ GE1237.out | refine below_set ?_ GE1238.out | refine below_set ?_ GE1239.out | refine below_set ?_ GE1240.out) | exact HB.out)) hb); have n7_ := Aside0.mk (hbox); have n8_ := Aside0.mk ((by rw [hg]; exact (below_size (by repeat (first | (with_reducible first | exact HB.out | apply below_alloc | apply pw_below_drewN | apply below_drew1 | refine below_set ?_ GE1237.out | refine below_set ?_ GE1238.out | refine below_set ?_ GE1239.out | refine below_set ?_ GE1240.out) | exact HB.out))) : w.heap.size ≤ gb1267)); have n9_ := Aside0.mk ((by rw [hg]; exact (below_size (by repeat (first | (with_reducible first | exact HB.out | apply below_alloc | apply pw_below_drewN | apply below_drew1 | refine below_set ?_ GE1237.out | refine below_set ?_ GE1238.out | refine below_set ?_ GE1239.out | refine below_set ?_ GE1240.out) | exact HB.out))) : w.heap.size ≤ gb1267)); have n10_ := Aside0.mk ((by rw [hg]; exact Nat.ne_of_lt (blk_lt (g := gb1237) (o := .cells #[.slice A0_0 l0_0.length c0_0] 26 (0, 0)) (by (with_reducible repeat (first | refine blk_drewN ?_ _ | refine blk_drew ?_ | refine blk_alloc ?_ _)); exact BK1237.out)) : gb1237 ≠ gb1267)); have n11_ := Aside0.mk ((by rw [hg]; exact Nat.ne_of_gt (blk_lt (g := gb1237) (o := .cells #[.slice A0_0 l0_0.length c0_0] 26 (0, 0)) (by (with_reducible repeat (first | refine blk_drewN ?_ _ | refine blk_drew ?_ | refine blk_alloc ?_ _)); exact BK1237.out)) : gb1267 ≠ gb1237)); have n12_ := Aside0.mk ((by rw [hg]; exact Nat.ne_of_lt (blk_lt (g := gb1238) (o := .cells #[.int .i64 a1_0, .int .i64 a1_1, .int .i64 a1_2, .int .i64 a1_3] 48 (0, 0)) (by (with_reducible repeat (first | refine blk_drewN ?_ _ | refine blk_drew ?_ | refine blk_alloc ?_ _)); exact BK1238.out)) : gb1238 ≠ gb1267)); have n13_ := Aside0.mk ((by rw [hg]; exact Nat.ne_of_gt (blk_lt (g := gb1238) (o := .cells #[.int .i64 a1_0, .int .i64 a1_1, .int .i64 a1_2, .int .i64 a1_3] 48 (0, 0)) (by (with_reducible repeat (first | refine blk_drewN ?_ _ | refine blk_drew ?_ | refine blk_alloc ?_ _)); exact BK1238.out)) : gb1267 ≠ gb1238)); have n14_ := Aside0.mk ((by rw [hg]; exact Nat.ne_of_lt (blk_lt (g := gb1239) (o := .cells #[.slice none 0 0] 26 (0, 0)) (by (with_reducible repeat (first | refine blk_drewN ?_ _ | refine blk_drew ?_ | refine blk_alloc ?_ _)); exact BK1239.out)) : gb1239 ≠ gb1267)); have n15_ := Aside0.mk ((by rw [hg]; exact Nat.ne_of_gt (blk_lt (g := gb1239) (o := .cells #[.slice none 0 0] 26 (0, 0)) (by (with_reducible repeat (first | refine blk_drewN ?_ _ | refine blk_drew ?_ | refine blk_alloc ?_ _)); exact BK1239.out)) : gb1267 ≠ gb1239)); have n16_ := Aside0.mk ((by rw [hg]; exact Nat.ne_of_lt (blk_lt (g := gb1240) (o := .cells #[.int .i64 0, .int .i64 0, .int .i64 0, .int .i64 0] 48 (0, 0)) (by (with_reducible repeat (first | refine blk_drewN ?_ _ | refine blk_drew ?_ | refine blk_alloc ?_ _)); exact BK1240.out)) : gb1240 ≠ gb1267)); have n17_ := Aside0.mk ((by rw [hg]; exact Nat.ne_of_gt (blk_lt (g := gb1240) (o := .cells #[.int .i64 0, .int .i64 0, .int .i64 0, .int .i64 0] 48 (0, 0)) (by (with_reducible repeat (first | refine blk_drewN ?_ _ | refine blk_drew ?_ | refine blk_alloc ?_ _)); exact BK1240.out)) : gb1267 ≠ gb1240)); clear HO_10; clear HO1262; clear BK1237; clear BK1238; clear BK1239; clear BK1240; clear HB; have HO_10 := n0_; have HO1262 := n1_; have BK1237 := n2_; have BK1238 := n3_; have BK1239 := n4_; have BK1240 := n5_; have HB := n6_; have BK1267 := n7_; have GW1267 := n8_; have GE1267 := n9_; have NB1237_1267 := n10_; have NB1267_1237 := n11_; have NB1238_1267 := n12_; have NB1267_1238 := n13_; have NB1239_1267 := n14_; have NB1267_1239 := n15_; have NB1240_1267 := n16_; have NB1267_1240 := n17_; clear n0_ n1_ n2_ n3_ n4_ n5_ n6_ n7_ n8_ n9_ n10_ n11_ n12_ n13_ n14_ n15_ n16_ n17_; clear hb hbox hg) | ((with_reducible refine gate_dst (N := 12) rfl ?_); (try (refine gate_guard (by rfl) ?_; dsimp only)); refine box_event ?hg (N := 12) ?hd (cs := #[.int .i64 0, .int .i64 0, .int .i64 0, .int .i64 0]) (t := 48) ?hr ?_; (case hd => rfl); (case hg => rfl); (case hr => first | (go_simp; done) | (go_simp; rfl)); intro gb1268 hg w88 hbox hb; have n0_ := Aside0.mk (Kd.R_below (by (with_reducible repeat (first | apply Kd.R_alloc | apply Kd.R_drewN | apply Kd.R_drew)); exact HO_10.out) hb); have n1_ := Aside0.mk (Kd.S_below (by (with_reducible repeat (first | apply Kd.S_alloc | apply Kd.S_drewN | apply Kd.S_drew)); exact HO1262.out) hb); have n2_ := Aside0.mk (blk_below (g := gb1237) (o := .cells #[.slice A0_0 l0_0.length c0_0] 26 (0, 0)) (by (with_reducible repeat (first | refine blk_drewN ?_ _ | refine blk_drew ?_ | refine blk_alloc ?_ _)); exact BK1237.out) hb); have n3_ := Aside0.mk (blk_below (g := gb1238) (o := .cells #[.int .i64 a1_0, .int .i64 a1_1, .int .i64 a1_2, .int .i64 a1_3] 48 (0, 0)) (by (with_reducible repeat (first | refine blk_drewN ?_ _ | refine blk_drew ?_ | refine blk_alloc ?_ _)); exact BK1238.out) hb); have n4_ := Aside0.mk (blk_below (g := gb1239) (o := .cells #[.slice none 0 0] 26 (0, 0)) (by (with_reducible repeat (first | refine blk_drewN ?_ _ | refine blk_drew ?_ | refine blk_alloc ?_ _)); exact BK1239.out) hb); have n5_ := Aside0.mk (blk_below (g := gb1240) (o := .cells #[.int .i64 0, .int .i64 0, .int .i64 0, .int .i64 0] 48 (0, 0)) (by (with_reducible repeat (first | refine blk_drewN ?_ _ | refine blk_drew ?_ | refine blk_alloc ?_ _)); exact BK1240.out) hb); have n6_ := Aside0.mk (blk_below (g := gb1267) (o := .cells #[.slice none 0 0] 26 (0, 0)) (by (with_reducible repeat (first | refine blk_drewN ?_ _ | refine blk_drew ?_ | refine blk_alloc ?_ _)); exact BK1267.out) hb); have n7_ := Aside0.mk (below_step (by repeat (first | (with_reducible first | exact HB.out | apply below_alloc | apply pw_below_drewN | apply below_drew1 | refine below_set ?_ GE1237.out | refine below_set ?_ GE1238.out | refine below_set ?_ GE1239.out | refine below_set ?_ GE1240.out | refine below_set ?_ GE1267.out) | exact HB.out)) hb); have n8_ := Aside0.mk (hbox); have n9_ := Aside0.mk ((by rw [hg]; exact (below_size (by repeat (first | (with_reducible first | exact HB.out | apply below_alloc | apply pw_below_drewN | apply below_drew1 | refine below_set ?_ GE1237.out | refine below_set ?_ GE1238.out | refine below_set ?_ GE1239.out | refine below_set ?_ GE1240.out | refine below_set ?_ GE1267.out) | exact HB.out))) : w.heap.size ≤ gb1268)); have n10_ := Aside0.mk ((by rw [hg]; exact (below_size (by repeat (first | (with_reducible first | exact HB.out | apply below_alloc | apply pw_below_drewN | apply below_drew1 | refine below_set ?_ GE1237.out | refine below_set ?_ GE1238.out | refine below_set ?_ GE1239.out | refine below_set ?_ GE1240.out | refine below_set ?_ GE1267.out) | exact HB.out))) : w.heap.size ≤ gb1268)); have n11_ := Aside0.mk ((by rw [hg]; exact Nat.ne_of_lt (blk_lt (g := gb1237) (o := .cells #[.slice A0_0 l0_0.length c0_0] 26 (0, 0)) (by (with_reducible repeat (first | refine blk_drewN ?_ _ | refine blk_drew ?_ | refine blk_alloc ?_ _)); exact BK1237.out)) : gb1237 ≠ gb1268)); have n12_ := Aside0.mk ((by rw [hg]; exact Nat.ne_of_gt (blk_lt (g := gb1237) (o := .cells #[.slice A0_0 l0_0.length c0_0] 26 (0, 0)) (by (with_reducible repeat (first | refine blk_drewN ?_ _ | refine blk_drew ?_ | refine blk_alloc ?_ _)); exact BK1237.out)) : gb1268 ≠ gb1237)); have n13_ := Aside0.mk ((by rw [hg]; exact Nat.ne_of_lt (blk_lt (g := gb1238) (o := .cells #[.int .i64 a1_0, .int .i64 a1_1, .int .i64 a1_2, .int .i64 a1_3] 48 (0, 0)) (by (with_reducible repeat (first | refine blk_drewN ?_ _ | refine blk_drew ?_ | refine blk_alloc ?_ _)); exact BK1238.out)) : gb1238 ≠ gb1268)); have n14_ := Aside0.mk ((by rw [hg]; exact Nat.ne_of_gt (blk_lt (g := gb1238) (o := .cells #[.int .i64 a1_0, .int .i64 a1_1, .int .i64 a1_2, .int .i64 a1_3] 48 (0, 0)) (by (with_reducible repeat (first | refine blk_drewN ?_ _ | refine blk_drew ?_ | refine blk_alloc ?_ _)); exact BK1238.out)) : gb1268 ≠ gb1238)); have n15_ := Aside0.mk ((by rw [hg]; exact Nat.ne_of_lt (blk_lt (g := gb1239) (o := .cells #[.slice none 0 0] 26 (0, 0)) (by (with_reducible repeat (first | refine blk_drewN ?_ _ | refine blk_drew ?_ | refine blk_alloc ?_ _)); exact BK1239.out)) : gb1239 ≠ gb1268)); have n16_ := Aside0.mk ((by rw [hg]; exact Nat.ne_of_gt (blk_lt (g := gb1239) (o := .cells #[.slice none 0 0] 26 (0, 0)) (by (with_reducible repeat (first | refine blk_drewN ?_ _ | refine blk_drew ?_ | refine blk_alloc ?_ _)); exact BK1239.out)) : gb1268 ≠ gb1239)); have n17_ := Aside0.mk ((by rw [hg]; exact Nat.ne_of_lt (blk_lt (g := gb1240) (o := .cells #[.int .i64 0, .int .i64 0, .int .i64 0, .int .i64 0] 48 (0, 0)) (by (with_reducible repeat (first | refine blk_drewN ?_ _ | refine blk_drew ?_ | refine blk_alloc ?_ _)); exact BK1240.out)) : gb1240 ≠ gb1268)); have n18_ := Aside0.mk ((by rw [hg]; exact Nat.ne_of_gt (blk_lt (g := gb1240) (o := .cells #[.int .i64 0, .int .i64 0, .int .i64 0, .int .i64 0] 48 (0, 0)) (by (with_reducible repeat (first | refine blk_drewN ?_ _ | refine blk_drew ?_ | refine blk_alloc ?_ _)); exact BK1240.out)) : gb1268 ≠ gb1240)); have n19_ := Aside0.mk ((by rw [hg]; exact Nat.ne_of_lt (blk_lt (g := gb1267) (o := .cells #[.slice none 0 0] 26 (0, 0)) (by (with_reducible repeat (first | refine blk_drewN ?_ _ | refine blk_drew ?_ | refine blk_alloc ?_ _)); exact BK1267.out)) : gb1267 ≠ gb1268)); have n20_ := Aside0.mk ((by rw [hg]; exact Nat.ne_of_gt (blk_lt (g := gb1267) (o := .cells #[.slice none 0 0] 26 (0, 0)) (by (with_reducible repeat (first | refine blk_drewN ?_ _ | refine blk_drew ?_ | refine blk_alloc ?_ _)); exact BK1267.out)) : gb1268 ≠ gb1267)); clear HO_10; clear HO1262; clear BK1237; clear BK1238; clear BK1239; clear BK1240; clear BK1267; clear HB; have HO_10 := n0_; have HO1262 := n1_; have BK1237 := n2_; have BK1238 := n3_; have BK1239 := n4_; have BK1240 := n5_; have BK1267 := n6_; have HB := n7_; have BK1268 := n8_; have GW1268 := n9_; have GE1268 := n10_; have NB1237_1268 := n11_; have NB1268_1237 := n12_; have NB1238_1268 := n13_; have NB1268_1238 := n14_; have NB1239_1268 := n15_; have NB1268_1239 := n16_; have NB1240_1268 := n17_; have NB1268_1240 := n18_; have NB1267_1268 := n19_; have NB1268_1267 := n20_; clear n0_ n1_ n2_ n3_ n4_ n5_ n6_ n7_ n8_ n9_ n10_ n11_ n12_ n13_ n14_ n15_ n16_ n17_ n18_ n19_ n20_; clear hb hbox hg; obtain ⟨Ao89, co89, eo89⟩ := Kd.S_slice HO1262.out; subst eo89; have hnb90 := NB1267_1237.out; have hnc90 := NB1237_1267.out; have hnb91 := NB1267_1238.out; have hnc91 := NB1238_1267.out; have hnb92 := NB1267_1239.out; have hnc92 := NB1239_1267.out; have hnb93 := NB1267_1240.out; have hnc93 := NB1240_1267.out; have hnb94 := NB1267_1268.out; have hnc94 := NB1268_1267.out; have hcz95_0 : w88.cell? ⟨gb1267, 0, none⟩ = some (.slice none 0 0) := (blk_cell BK1267.out 0).trans rfl; have hfz95_0 := blk_frozen BK1267.out 0; have hnb96 := NB1268_1237.out; have hnc96 := NB1237_1268.out; have hnb97 := NB1268_1238.out; have hnc97 := NB1238_1268.out; have hnb98 := NB1268_1239.out; have hnc98 := NB1239_1268.out; have hnb99 := NB1268_1240.out; have hnc99 := NB1240_1268.out; have hcz100_0 : w88.cell? ⟨gb1268, 0, none⟩ = some (.int .i64 0) := (blk_cell BK1268.out 0).trans rfl; have hcz100_1 : w88.cell? ⟨gb1268, 1, none⟩ = some (.int .i64 0) := (blk_cell BK1268.out 1).trans rfl; have hcz100_2 : w88.cell? ⟨gb1268, 2, none⟩ = some (.int .i64 0) := (blk_cell BK1268.out 2).trans rfl; have hcz100_3 : w88.cell? ⟨gb1268, 3, none⟩ = some (.int .i64 0) := (blk_cell BK1268.out 3).trans rfl; have hfz100_0 := blk_frozen BK1268.out 0; have hfz100_1 := blk_frozen BK1268.out 1; have hfz100_2 := blk_frozen BK1268.out 2; have hfz100_3 := blk_frozen BK1268.out 3))
                  have n0_ : Aside0 (Kd.R (Kd.int .u8) 5 (((((w88.setCell ⟨gb1267, 0, none⟩ (.slice Ao89 t1260.length co89)).setCell ⟨gb1268, 0, none⟩ (.int .i64 t1263)).setCell ⟨gb1268, 1, none⟩ (.int .i64 t1264)).setCell ⟨gb1268, 2, none⟩ (.int .i64 t1265)).setCell ⟨gb1268, 3, none⟩ (.int .i64 t1266)) w.heap.size (fun _ => True) (.slice Ao78 x10_2.length co78) x10_2) := ⟨by (with_reducible repeat (first | apply Kd.R_alloc | apply Kd.R_drewN | apply Kd.R_drew)); exact Kd.R_mono (Kd.R_far (p := ⟨gb1268, 3, none⟩) (Kd.R_far (p := ⟨gb1268, 2, none⟩) (Kd.R_far (p := ⟨gb1268, 1, none⟩) (Kd.R_far (p := ⟨gb1268, 0, none⟩) (Kd.R_far (p := ⟨gb1267, 0, none⟩) (Kd.R_types (Kd.R_types HO_10.out BK1267.out (by decide)) BK1268.out (by decide)) (fun _ hk => hk.1.2) (.slice Ao89 t1260.length co89)) (fun _ hk => hk.2) (.int .i64 t1263)) (fun _ hk => hk.2) (.int .i64 t1264)) (fun _ hk => hk.2) (.int .i64 t1265)) (fun _ hk => hk.2) (.int .i64 t1266)) (fun _ hk => trivial)⟩
                  have n1_ : Aside0 (Kd.S (Kd.slice 5 (Kd.int .u8)) 119 (((((w88.setCell ⟨gb1267, 0, none⟩ (.slice Ao89 t1260.length co89)).setCell ⟨gb1268, 0, none⟩ (.int .i64 t1263)).setCell ⟨gb1268, 1, none⟩ (.int .i64 t1264)).setCell ⟨gb1268, 2, none⟩ (.int .i64 t1265)).setCell ⟨gb1268, 3, none⟩ (.int .i64 t1266)) w.heap.size (fun k_ => some k_ ≠ (.slice Ao78 x10_2.length co78 : Value).ownBlock) (.slice Ao89 t1260.length co89) t1260) := ⟨by (with_reducible repeat (first | apply Kd.S_alloc | apply Kd.S_drewN | apply Kd.S_drew)); exact Kd.S_mono (Kd.S_far (p := ⟨gb1268, 3, none⟩) (Kd.S_far (p := ⟨gb1268, 2, none⟩) (Kd.S_far (p := ⟨gb1268, 1, none⟩) (Kd.S_far (p := ⟨gb1268, 0, none⟩) (Kd.S_far (p := ⟨gb1267, 0, none⟩) (Kd.S_types (Kd.S_types HO1262.out BK1267.out (by decide)) BK1268.out (by decide)) (fun _ hk => hk.1.2) (.slice Ao89 t1260.length co89)) (fun _ hk => hk.2) (.int .i64 t1263)) (fun _ hk => hk.2) (.int .i64 t1264)) (fun _ hk => hk.2) (.int .i64 t1265)) (fun _ hk => hk.2) (.int .i64 t1266)) (fun _ hk => hk.1.1.2)⟩
                  have n2_ : Aside0 ((((((w88.setCell ⟨gb1267, 0, none⟩ (.slice Ao89 t1260.length co89)).setCell ⟨gb1268, 0, none⟩ (.int .i64 t1263)).setCell ⟨gb1268, 1, none⟩ (.int .i64 t1264)).setCell ⟨gb1268, 2, none⟩ (.int .i64 t1265)).setCell ⟨gb1268, 3, none⟩ (.int .i64 t1266)).heap[gb1237]? = some (.cells #[.slice A0_0 l0_0.length c0_0] 26 (0, 0))) := ⟨by (with_reducible repeat (first | refine blk_drewN ?_ _ | refine blk_drew ?_ | refine blk_alloc ?_ _)); refine blk_far ?_ NB1237_1268.out _; (with_reducible repeat (first | refine blk_drewN ?_ _ | refine blk_drew ?_ | refine blk_alloc ?_ _)); refine blk_far ?_ NB1237_1268.out _; (with_reducible repeat (first | refine blk_drewN ?_ _ | refine blk_drew ?_ | refine blk_alloc ?_ _)); refine blk_far ?_ NB1237_1268.out _; (with_reducible repeat (first | refine blk_drewN ?_ _ | refine blk_drew ?_ | refine blk_alloc ?_ _)); refine blk_far ?_ NB1237_1268.out _; (with_reducible repeat (first | refine blk_drewN ?_ _ | refine blk_drew ?_ | refine blk_alloc ?_ _)); refine blk_far ?_ NB1237_1267.out _; (with_reducible repeat (first | refine blk_drewN ?_ _ | refine blk_drew ?_ | refine blk_alloc ?_ _)); exact BK1237.out⟩
                  have n3_ : Aside0 ((((((w88.setCell ⟨gb1267, 0, none⟩ (.slice Ao89 t1260.length co89)).setCell ⟨gb1268, 0, none⟩ (.int .i64 t1263)).setCell ⟨gb1268, 1, none⟩ (.int .i64 t1264)).setCell ⟨gb1268, 2, none⟩ (.int .i64 t1265)).setCell ⟨gb1268, 3, none⟩ (.int .i64 t1266)).heap[gb1238]? = some (.cells #[.int .i64 a1_0, .int .i64 a1_1, .int .i64 a1_2, .int .i64 a1_3] 48 (0, 0))) := ⟨by (with_reducible repeat (first | refine blk_drewN ?_ _ | refine blk_drew ?_ | refine blk_alloc ?_ _)); refine blk_far ?_ NB1238_1268.out _; (with_reducible repeat (first | refine blk_drewN ?_ _ | refine blk_drew ?_ | refine blk_alloc ?_ _)); refine blk_far ?_ NB1238_1268.out _; (with_reducible repeat (first | refine blk_drewN ?_ _ | refine blk_drew ?_ | refine blk_alloc ?_ _)); refine blk_far ?_ NB1238_1268.out _; (with_reducible repeat (first | refine blk_drewN ?_ _ | refine blk_drew ?_ | refine blk_alloc ?_ _)); refine blk_far ?_ NB1238_1268.out _; (with_reducible repeat (first | refine blk_drewN ?_ _ | refine blk_drew ?_ | refine blk_alloc ?_ _)); refine blk_far ?_ NB1238_1267.out _; (with_reducible repeat (first | refine blk_drewN ?_ _ | refine blk_drew ?_ | refine blk_alloc ?_ _)); exact BK1238.out⟩
                  have n4_ : Aside0 ((((((w88.setCell ⟨gb1267, 0, none⟩ (.slice Ao89 t1260.length co89)).setCell ⟨gb1268, 0, none⟩ (.int .i64 t1263)).setCell ⟨gb1268, 1, none⟩ (.int .i64 t1264)).setCell ⟨gb1268, 2, none⟩ (.int .i64 t1265)).setCell ⟨gb1268, 3, none⟩ (.int .i64 t1266)).heap[gb1239]? = some (.cells #[.slice none 0 0] 26 (0, 0))) := ⟨by (with_reducible repeat (first | refine blk_drewN ?_ _ | refine blk_drew ?_ | refine blk_alloc ?_ _)); refine blk_far ?_ NB1239_1268.out _; (with_reducible repeat (first | refine blk_drewN ?_ _ | refine blk_drew ?_ | refine blk_alloc ?_ _)); refine blk_far ?_ NB1239_1268.out _; (with_reducible repeat (first | refine blk_drewN ?_ _ | refine blk_drew ?_ | refine blk_alloc ?_ _)); refine blk_far ?_ NB1239_1268.out _; (with_reducible repeat (first | refine blk_drewN ?_ _ | refine blk_drew ?_ | refine blk_alloc ?_ _)); refine blk_far ?_ NB1239_1268.out _; (with_reducible repeat (first | refine blk_drewN ?_ _ | refine blk_drew ?_ | refine blk_alloc ?_ _)); refine blk_far ?_ NB1239_1267.out _; (with_reducible repeat (first | refine blk_drewN ?_ _ | refine blk_drew ?_ | refine blk_alloc ?_ _)); exact BK1239.out⟩
                  have n5_ : Aside0 ((((((w88.setCell ⟨gb1267, 0, none⟩ (.slice Ao89 t1260.length co89)).setCell ⟨gb1268, 0, none⟩ (.int .i64 t1263)).setCell ⟨gb1268, 1, none⟩ (.int .i64 t1264)).setCell ⟨gb1268, 2, none⟩ (.int .i64 t1265)).setCell ⟨gb1268, 3, none⟩ (.int .i64 t1266)).heap[gb1240]? = some (.cells #[.int .i64 0, .int .i64 0, .int .i64 0, .int .i64 0] 48 (0, 0))) := ⟨by (with_reducible repeat (first | refine blk_drewN ?_ _ | refine blk_drew ?_ | refine blk_alloc ?_ _)); refine blk_far ?_ NB1240_1268.out _; (with_reducible repeat (first | refine blk_drewN ?_ _ | refine blk_drew ?_ | refine blk_alloc ?_ _)); refine blk_far ?_ NB1240_1268.out _; (with_reducible repeat (first | refine blk_drewN ?_ _ | refine blk_drew ?_ | refine blk_alloc ?_ _)); refine blk_far ?_ NB1240_1268.out _; (with_reducible repeat (first | refine blk_drewN ?_ _ | refine blk_drew ?_ | refine blk_alloc ?_ _)); refine blk_far ?_ NB1240_1268.out _; (with_reducible repeat (first | refine blk_drewN ?_ _ | refine blk_drew ?_ | refine blk_alloc ?_ _)); refine blk_far ?_ NB1240_1267.out _; (with_reducible repeat (first | refine blk_drewN ?_ _ | refine blk_drew ?_ | refine blk_alloc ?_ _)); exact BK1240.out⟩
                  have n6_ : Aside0 ((((((w88.setCell ⟨gb1267, 0, none⟩ (.slice Ao89 t1260.length co89)).setCell ⟨gb1268, 0, none⟩ (.int .i64 t1263)).setCell ⟨gb1268, 1, none⟩ (.int .i64 t1264)).setCell ⟨gb1268, 2, none⟩ (.int .i64 t1265)).setCell ⟨gb1268, 3, none⟩ (.int .i64 t1266)).heap[gb1267]? = some (.cells #[.slice Ao89 t1260.length co89] 26 (0, 0))) := ⟨by (with_reducible repeat (first | refine blk_drewN ?_ _ | refine blk_drew ?_ | refine blk_alloc ?_ _)); refine blk_far ?_ NB1267_1268.out _; (with_reducible repeat (first | refine blk_drewN ?_ _ | refine blk_drew ?_ | refine blk_alloc ?_ _)); refine blk_far ?_ NB1267_1268.out _; (with_reducible repeat (first | refine blk_drewN ?_ _ | refine blk_drew ?_ | refine blk_alloc ?_ _)); refine blk_far ?_ NB1267_1268.out _; (with_reducible repeat (first | refine blk_drewN ?_ _ | refine blk_drew ?_ | refine blk_alloc ?_ _)); refine blk_far ?_ NB1267_1268.out _; (with_reducible repeat (first | refine blk_drewN ?_ _ | refine blk_drew ?_ | refine blk_alloc ?_ _)); refine blk_put (cs := #[.slice none 0 0]) ?_ 0 _ rfl; (with_reducible repeat (first | refine blk_drewN ?_ _ | refine blk_drew ?_ | refine blk_alloc ?_ _)); exact BK1267.out⟩
                  have n7_ : Aside0 ((((((w88.setCell ⟨gb1267, 0, none⟩ (.slice Ao89 t1260.length co89)).setCell ⟨gb1268, 0, none⟩ (.int .i64 t1263)).setCell ⟨gb1268, 1, none⟩ (.int .i64 t1264)).setCell ⟨gb1268, 2, none⟩ (.int .i64 t1265)).setCell ⟨gb1268, 3, none⟩ (.int .i64 t1266)).heap[gb1268]? = some (.cells #[.int .i64 t1263, .int .i64 t1264, .int .i64 t1265, .int .i64 t1266] 48 (0, 0))) := ⟨by (with_reducible repeat (first | refine blk_drewN ?_ _ | refine blk_drew ?_ | refine blk_alloc ?_ _)); refine blk_put (cs := #[.int .i64 t1263, .int .i64 t1264, .int .i64 t1265, .int .i64 0]) ?_ 3 _ rfl; (with_reducible repeat (first | refine blk_drewN ?_ _ | refine blk_drew ?_ | refine blk_alloc ?_ _)); refine blk_put (cs := #[.int .i64 t1263, .int .i64 t1264, .int .i64 0, .int .i64 0]) ?_ 2 _ rfl; (with_reducible repeat (first | refine blk_drewN ?_ _ | refine blk_drew ?_ | refine blk_alloc ?_ _)); refine blk_put (cs := #[.int .i64 t1263, .int .i64 0, .int .i64 0, .int .i64 0]) ?_ 1 _ rfl; (with_reducible repeat (first | refine blk_drewN ?_ _ | refine blk_drew ?_ | refine blk_alloc ?_ _)); refine blk_put (cs := #[.int .i64 0, .int .i64 0, .int .i64 0, .int .i64 0]) ?_ 0 _ rfl; (with_reducible repeat (first | refine blk_drewN ?_ _ | refine blk_drew ?_ | refine blk_alloc ?_ _)); refine blk_far ?_ NB1268_1267.out _; (with_reducible repeat (first | refine blk_drewN ?_ _ | refine blk_drew ?_ | refine blk_alloc ?_ _)); exact BK1268.out⟩
                  have n8_ : Aside0 (Below w.heap.size w (((((w88.setCell ⟨gb1267, 0, none⟩ (.slice Ao89 t1260.length co89)).setCell ⟨gb1268, 0, none⟩ (.int .i64 t1263)).setCell ⟨gb1268, 1, none⟩ (.int .i64 t1264)).setCell ⟨gb1268, 2, none⟩ (.int .i64 t1265)).setCell ⟨gb1268, 3, none⟩ (.int .i64 t1266))) := ⟨by repeat (first | (with_reducible first | exact HB.out | apply below_alloc | apply pw_below_drewN | apply below_drew1 | refine below_set ?_ GE1237.out | refine below_set ?_ GE1238.out | refine below_set ?_ GE1239.out | refine below_set ?_ GE1240.out | refine below_set ?_ GE1267.out | refine below_set ?_ GE1268.out) | exact HB.out)⟩
                  (try clear HO_10)
                  (try clear HO1262)
                  (try clear BK1237)
                  (try clear BK1238)
                  (try clear BK1239)
                  (try clear BK1240)
                  (try clear BK1267)
                  (try clear BK1268)
                  (try clear HB)
                  generalize (((((w88.setCell ⟨gb1267, 0, none⟩ (.slice Ao89 t1260.length co89)).setCell ⟨gb1268, 0, none⟩ (.int .i64 t1263)).setCell ⟨gb1268, 1, none⟩ (.int .i64 t1264)).setCell ⟨gb1268, 2, none⟩ (.int .i64 t1265)).setCell ⟨gb1268, 3, none⟩ (.int .i64 t1266)) = w101 at n0_ n1_ n2_ n3_ n4_ n5_ n6_ n7_ n8_ ⊢
                  have HO_10 := n0_
                  have HO1262 := n1_
                  have BK1237 := n2_
                  have BK1238 := n3_
                  have BK1239 := n4_
                  have BK1240 := n5_
                  have BK1267 := n6_
                  have BK1268 := n7_
                  have HB := n8_
                  clear n0_ n1_ n2_ n3_ n4_ n5_ n6_ n7_ n8_
                  have n0_ := Aside0.mk (Kd.R_drew HO_10.out)
                  have n1_ := Aside0.mk (Kd.S_drew HO1262.out)
                  have n2_ := Aside0.mk (blk_drew BK1237.out)
                  have n3_ := Aside0.mk (blk_drew BK1238.out)
                  have n4_ := Aside0.mk (blk_drew BK1239.out)
                  have n5_ := Aside0.mk (blk_drew BK1240.out)
                  have n6_ := Aside0.mk (blk_drew BK1267.out)
                  have n7_ := Aside0.mk (blk_drew BK1268.out)
                  have n8_ := Aside0.mk (below_drew1 HB.out)
                  clear HO_10
                  clear HO1262
                  clear BK1237
                  clear BK1238
                  clear BK1239
                  clear BK1240
                  clear BK1267
                  clear BK1268
                  clear HB
                  have HO_10 := n0_
                  have HO1262 := n1_
                  have BK1237 := n2_
                  have BK1238 := n3_
                  have BK1239 := n4_
                  have BK1240 := n5_
                  have BK1267 := n6_
                  have BK1268 := n7_
                  have HB := n8_
                  clear n0_ n1_ n2_ n3_ n4_ n5_ n6_ n7_ n8_
                  refine start_ (n := 5) (S := fun w' => w'.cell? ⟨gb1267, 0, none⟩ = some (.slice Ao89 t1260.length co89) ∧ w'.cell? ⟨gb1268, 0, none⟩ = some (.int .i64 t1263) ∧ w'.cell? ⟨gb1268, 1, none⟩ = some (.int .i64 t1264) ∧ w'.cell? ⟨gb1268, 2, none⟩ = some (.int .i64 t1265) ∧ w'.cell? ⟨gb1268, 3, none⟩ = some (.int .i64 t1266)) (ds := []) #[false, false, false, false, false] (by kernel_rfl) rfl rfl ⟨(blk_cell BK1267.out 0).trans rfl, (blk_cell BK1268.out 0).trans rfl, (blk_cell BK1268.out 1).trans rfl, (blk_cell BK1268.out 2).trans rfl, (blk_cell BK1268.out 3).trans rfl⟩ (fun hHeld => ?_)
                  generalize w101.drew = w102 at HO_10 HO1262 BK1237 BK1238 BK1239 BK1240 BK1267 BK1268 HB hHeld ⊢
                  refine take_ (i := 0) (N := some 76) (v := ?_) (a' := ?_) #[true, false, false, false, false] rfl rfl (by kernel_rfl) (fun _ _ _ h => h) (Or.inl ⟨by rfl, ?_⟩) hHeld ?_ ?_
                  rotate_left
                  · rintro w' ⟨s0, s1, s2, s3, s4⟩
                    go_simp
                    with_reducible rfl
                  rotate_left
                  · simp only [Act.put, List.setIfInBounds_toArray, List.set_cons_zero, List.set_cons_succ, i64_w, i32_w]
                    rfl
                  refine take_ (i := 1) (N := some 77) (v := ?_) (a' := ?_) #[true, true, false, false, false] rfl rfl (by kernel_rfl) (fun _ _ _ h => h) (Or.inl ⟨by rfl, ?_⟩) hHeld ?_ ?_
                  rotate_left
                  · rintro w' ⟨s0, s1, s2, s3, s4⟩
                    go_simp
                    with_reducible rfl
                  rotate_left
                  · simp only [Act.put, List.setIfInBounds_toArray, List.set_cons_zero, List.set_cons_succ, i64_w, i32_w]
                    rfl
                  refine one_ (i := 2) (N := none) #[true, true, true, false, false] rfl rfl (by kernel_rfl) (by decide) (fun K hK => ?_)
                  have hs103 : w102.cell? ⟨gb1239, 0, none⟩ = some (.slice none 0 0) := (blk_cell BK1239.out 0).trans rfl
                  have hfs103 := blk_frozen BK1239.out 0
                  have hns103_0 := NB1237_1239.out
                  have hns103_1 := NB1238_1239.out
                  have hns103_3 := NB1240_1239.out
                  have hns103_4 := NB1267_1239.out
                  have hns103_5 := NB1268_1239.out
                  have hms103_0 := NB1239_1237.out
                  have hms103_1 := NB1239_1238.out
                  have hms103_3 := NB1239_1240.out
                  have hms103_4 := NB1239_1267.out
                  have hms103_5 := NB1239_1268.out
                  refine skip_ (w1 := ?_) (by rfl) rfl ?_ ?_
                  rotate_left
                  · go_simp
                    rfl
                  refine hK.out _ _ ⟨((cell_far (p := ⟨gb1239, _, none⟩) NB1267_1239.out _).trans (hHeld.1)), ((cell_far (p := ⟨gb1239, _, none⟩) NB1268_1239.out _).trans (hHeld.2.1)), ((cell_far (p := ⟨gb1239, _, none⟩) NB1268_1239.out _).trans (hHeld.2.2.1)), ((cell_far (p := ⟨gb1239, _, none⟩) NB1268_1239.out _).trans (hHeld.2.2.2.1)), ((cell_far (p := ⟨gb1239, _, none⟩) NB1268_1239.out _).trans (hHeld.2.2.2.2))⟩ (fun hHeld => ?_)
                  clear hK K
                  refine one_ (i := 3) (N := none) #[true, true, true, true, false] rfl rfl (by kernel_rfl) (by decide) (fun K hK => ?_)
                  have hs104 : w102.cell? ⟨gb1240, 0, none⟩ = some (.int .i64 0) := (blk_cell BK1240.out 0).trans rfl
                  have hfs104 := blk_frozen BK1240.out 0
                  have hns104_0 := NB1237_1240.out
                  have hns104_1 := NB1238_1240.out
                  have hns104_2 := NB1239_1240.out
                  have hns104_4 := NB1267_1240.out
                  have hns104_5 := NB1268_1240.out
                  have hms104_0 := NB1240_1237.out
                  have hms104_1 := NB1240_1238.out
                  have hms104_2 := NB1240_1239.out
                  have hms104_4 := NB1240_1267.out
                  have hms104_5 := NB1240_1268.out
                  have hs105 : w102.cell? ⟨gb1240, 1, none⟩ = some (.int .i64 0) := (blk_cell BK1240.out 1).trans rfl
                  have hfs105 := blk_frozen BK1240.out 1
                  have hns105_0 := NB1237_1240.out
                  have hns105_1 := NB1238_1240.out
                  have hns105_2 := NB1239_1240.out
                  have hns105_4 := NB1267_1240.out
                  have hns105_5 := NB1268_1240.out
                  have hms105_0 := NB1240_1237.out
                  have hms105_1 := NB1240_1238.out
                  have hms105_2 := NB1240_1239.out
                  have hms105_4 := NB1240_1267.out
                  have hms105_5 := NB1240_1268.out
                  have hs106 : w102.cell? ⟨gb1240, 2, none⟩ = some (.int .i64 0) := (blk_cell BK1240.out 2).trans rfl
                  have hfs106 := blk_frozen BK1240.out 2
                  have hns106_0 := NB1237_1240.out
                  have hns106_1 := NB1238_1240.out
                  have hns106_2 := NB1239_1240.out
                  have hns106_4 := NB1267_1240.out
                  have hns106_5 := NB1268_1240.out
                  have hms106_0 := NB1240_1237.out
                  have hms106_1 := NB1240_1238.out
                  have hms106_2 := NB1240_1239.out
                  have hms106_4 := NB1240_1267.out
                  have hms106_5 := NB1240_1268.out
                  have hs107 : w102.cell? ⟨gb1240, 3, none⟩ = some (.int .i64 0) := (blk_cell BK1240.out 3).trans rfl
                  have hfs107 := blk_frozen BK1240.out 3
                  have hns107_0 := NB1237_1240.out
                  have hns107_1 := NB1238_1240.out
                  have hns107_2 := NB1239_1240.out
                  have hns107_4 := NB1267_1240.out
                  have hns107_5 := NB1268_1240.out
                  have hms107_0 := NB1240_1237.out
                  have hms107_1 := NB1240_1238.out
                  have hms107_2 := NB1240_1239.out
                  have hms107_4 := NB1240_1267.out
                  have hms107_5 := NB1240_1268.out
                  refine skip_ (w1 := ?_) (by rfl) rfl ?_ ?_
                  rotate_left
                  · go_simp
                    rfl
                  refine hK.out _ _ ⟨((cell_far (p := ⟨gb1240, _, none⟩) NB1267_1240.out _).trans (((cell_far (p := ⟨gb1240, _, none⟩) NB1267_1240.out _).trans (((cell_far (p := ⟨gb1240, _, none⟩) NB1267_1240.out _).trans (((cell_far (p := ⟨gb1240, _, none⟩) NB1267_1240.out _).trans (hHeld.1)))))))), ((cell_far (p := ⟨gb1240, _, none⟩) NB1268_1240.out _).trans (((cell_far (p := ⟨gb1240, _, none⟩) NB1268_1240.out _).trans (((cell_far (p := ⟨gb1240, _, none⟩) NB1268_1240.out _).trans (((cell_far (p := ⟨gb1240, _, none⟩) NB1268_1240.out _).trans (hHeld.2.1)))))))), ((cell_far (p := ⟨gb1240, _, none⟩) NB1268_1240.out _).trans (((cell_far (p := ⟨gb1240, _, none⟩) NB1268_1240.out _).trans (((cell_far (p := ⟨gb1240, _, none⟩) NB1268_1240.out _).trans (((cell_far (p := ⟨gb1240, _, none⟩) NB1268_1240.out _).trans (hHeld.2.2.1)))))))), ((cell_far (p := ⟨gb1240, _, none⟩) NB1268_1240.out _).trans (((cell_far (p := ⟨gb1240, _, none⟩) NB1268_1240.out _).trans (((cell_far (p := ⟨gb1240, _, none⟩) NB1268_1240.out _).trans (((cell_far (p := ⟨gb1240, _, none⟩) NB1268_1240.out _).trans (hHeld.2.2.2.1)))))))), ((cell_far (p := ⟨gb1240, _, none⟩) NB1268_1240.out _).trans (((cell_far (p := ⟨gb1240, _, none⟩) NB1268_1240.out _).trans (((cell_far (p := ⟨gb1240, _, none⟩) NB1268_1240.out _).trans (((cell_far (p := ⟨gb1240, _, none⟩) NB1268_1240.out _).trans (hHeld.2.2.2.2))))))))⟩ (fun hHeld => ?_)
                  clear hK K
                  refine pure_ (i := 4) (N := some 8) (v := ?_) (a' := ?_) #[true, true, true, true, true] rfl rfl (by kernel_rfl) (fun _ _ _ h => h) (Or.inl ⟨by rfl, ?_⟩) ?_ ?_
                  rotate_left
                  · intro w'
                    go_simp
                    with_reducible rfl
                  rotate_left
                  · simp only [Act.put, List.setIfInBounds_toArray, List.set_cons_zero, List.set_cons_succ, i64_w, i32_w]
                    rfl
                  refine done_ (by kernel_rfl) ?_
                  try go_wp2
                  refine bodyPost_ret (results_list (rs := [.cell 6 26, .cell 7 48, .tmp 8]) rfl (by simp) (.cell gb1239 26 #[.slice Ao89 t1260.length co89] (0, 0) _ rfl (by (with_reducible repeat (first | refine blk_drewN ?_ _ | refine blk_drew ?_ | refine blk_alloc ?_ _)); refine blk_far ?_ NB1239_1240.out _; (with_reducible repeat (first | refine blk_drewN ?_ _ | refine blk_drew ?_ | refine blk_alloc ?_ _)); refine blk_far ?_ NB1239_1240.out _; (with_reducible repeat (first | refine blk_drewN ?_ _ | refine blk_drew ?_ | refine blk_alloc ?_ _)); refine blk_far ?_ NB1239_1240.out _; (with_reducible repeat (first | refine blk_drewN ?_ _ | refine blk_drew ?_ | refine blk_alloc ?_ _)); refine blk_far ?_ NB1239_1240.out _; (with_reducible repeat (first | refine blk_drewN ?_ _ | refine blk_drew ?_ | refine blk_alloc ?_ _)); refine blk_put (cs := #[.slice none 0 0]) ?_ 0 _ rfl; (with_reducible repeat (first | refine blk_drewN ?_ _ | refine blk_drew ?_ | refine blk_alloc ?_ _)); exact BK1239.out) Try.underlying26 rfl (by kernel_rfl) (.cell gb1240 48 #[.int .i64 t1263, .int .i64 t1264, .int .i64 t1265, .int .i64 t1266] (0, 0) _ rfl (by (with_reducible repeat (first | refine blk_drewN ?_ _ | refine blk_drew ?_ | refine blk_alloc ?_ _)); refine blk_put (cs := #[.int .i64 t1263, .int .i64 t1264, .int .i64 t1265, .int .i64 0]) ?_ 3 _ rfl; (with_reducible repeat (first | refine blk_drewN ?_ _ | refine blk_drew ?_ | refine blk_alloc ?_ _)); refine blk_put (cs := #[.int .i64 t1263, .int .i64 t1264, .int .i64 0, .int .i64 0]) ?_ 2 _ rfl; (with_reducible repeat (first | refine blk_drewN ?_ _ | refine blk_drew ?_ | refine blk_alloc ?_ _)); refine blk_put (cs := #[.int .i64 t1263, .int .i64 0, .int .i64 0, .int .i64 0]) ?_ 1 _ rfl; (with_reducible repeat (first | refine blk_drewN ?_ _ | refine blk_drew ?_ | refine blk_alloc ?_ _)); refine blk_put (cs := #[.int .i64 0, .int .i64 0, .int .i64 0, .int .i64 0]) ?_ 0 _ rfl; (with_reducible repeat (first | refine blk_drewN ?_ _ | refine blk_drew ?_ | refine blk_alloc ?_ _)); refine blk_far ?_ NB1240_1239.out _; (with_reducible repeat (first | refine blk_drewN ?_ _ | refine blk_drew ?_ | refine blk_alloc ?_ _)); exact BK1240.out) Try.underlying48 rfl (by kernel_rfl) (.tmp .nil)))) rfl ?_
                  exact ⟨_, by first | rfl | (simp [errW_none, errW_some] <;> rfl) | (simp [*, errW_none, errW_some] <;> rfl), by (with_reducible repeat (first | apply Kd.S_alloc | apply Kd.S_drewN | apply Kd.S_drew)); exact Kd.S_mono (Kd.S_far (p := ⟨gb1240, 3, none⟩) (Kd.S_far (p := ⟨gb1240, 2, none⟩) (Kd.S_far (p := ⟨gb1240, 1, none⟩) (Kd.S_far (p := ⟨gb1240, 0, none⟩) (Kd.S_far (p := ⟨gb1239, 0, none⟩) (Kd.S_types (Kd.S_types HO1262.out BK1239.out (by decide)) BK1240.out (by decide)) (fun _ hk => hk.1.2) (.slice Ao89 t1260.length co89)) (fun _ hk => hk.2) (.int .i64 t1263)) (fun _ hk => hk.2) (.int .i64 t1264)) (fun _ hk => hk.2) (.int .i64 t1265)) (fun _ hk => hk.2) (.int .i64 t1266)) (fun _ hk => trivial), by repeat (first | (with_reducible first | exact HB.out | apply below_alloc | apply pw_below_drewN | apply below_drew1 | refine below_set ?_ GE1237.out | refine below_set ?_ GE1238.out | refine below_set ?_ GE1239.out | refine below_set ?_ GE1240.out | refine below_set ?_ GE1267.out | refine below_set ?_ GE1268.out) | exact HB.out)⟩
          · rw [if_neg c57] at H
            exact absurd H (by simp)

end Go.Proofs.Ytoomjghabiojkaa.P


/- l2Append: what it comes to. -/
namespace Go.Proofs.Ytoomjghabiojkaa.P
open Go.RowKit Go.Proofs.YtoomjghabiojkaaW.PrintWords Go.Proofs.YtoomjghabiojkaaW.PrintMore Go.Proofs.YtoomjghabiojkaaW.Mine
set_option linter.unusedVariables false
set_option linter.unusedSimpArgs false
def appendF (m : List (List Int)) (a s n c : Int) (l : List Int) : List (List Int) × Int × Int × Int × Int × Bool := if (appendP m a s n c l).2.2.2.2.2 = true then appendP m a s n c l else ([], 0, 0, 0, 0, false)
theorem room_eq {n c : Int} {l : List Int} (h1 : ¬ n + (l.length : Int) > 64) (hn : 0 ≤ n) : n + (l.length : Int) ≤ roomP n c l ∧ roomP n c l ≤ 64 := by
  unfold roomP mn mx
  split <;> split <;> omega
theorem growRow_eq {row : List Int} {s n : Int} {N : Nat} {l : List Int} (hs : 0 ≤ s) (hn : 0 ≤ n) (hr : s + n ≤ (row.length : Int)) (hN : n + (l.length : Int) ≤ N) :
    growRow row s n N l = (((row.drop s.toNat).take n.toNat) ++ l) ++ List.replicate (N - (n.toNat + l.length)) 0 := by
  have hl : ((row.drop s.toNat).take n.toNat).length = n.toNat := by simp; omega
  unfold growRow
  generalize (row.drop s.toNat).take n.toNat = E at hl ⊢
  rw [List.take_of_length_le (show E.length ≤ N by omega), List.take_of_length_le (show l.length ≤ N - n.toNat by omega)]
  unfold spl
  rw [List.take_zero, List.nil_append, Nat.zero_add, Nat.zero_add, hl, List.drop_replicate, List.take_left' hl, List.append_assoc]
  congr 1
  congr 1
  rw [List.drop_append, hl, List.drop_eq_nil_of_le (by omega), List.nil_append, List.drop_replicate]
  congr 1
  omega
theorem growRow_length {row : List Int} {s n : Int} {N : Nat} {l : List Int} (hs : 0 ≤ s) (hn : 0 ≤ n) (hr : s + n ≤ (row.length : Int)) (hN : n + (l.length : Int) ≤ N) : (growRow row s n N l).length = N := by
  rw [growRow_eq hs hn hr hN]
  simp
  omega
theorem mostA_f (a b : Int) : spec_l1Most.f a b = some (mx a b) := by
  unfold spec_l1Most.f mx
  by_cases h : a > b
  · rw [if_pos h, if_neg (by omega)]
  · rw [if_neg h]
    by_cases h2 : a < b
    · rw [if_pos h2]
    · rw [if_neg h2, show a = b by omega]
theorem leastA_f (a : Int) : spec_l1Least.f a 64 = some (mn 64 a) := by
  unfold spec_l1Least.f mn
  by_cases h : a < 64
  · rw [if_pos h, if_pos h]
  · rw [if_neg h, if_neg h]
theorem padA_ev (m : List (List Int)) (a s n c : Int) (l : List Int) (h : okM m) (hc : 0 ≤ c ∧ c ≤ 64) (hn : 0 ≤ n) (h64 : n + (l.length : Int) ≤ 64) (E : List Int) : ∀ (j i : Nat), E.length + i + j = (roomP n c l).toNat →
    Ev (fun q => spec_l2Append.l0 q (n + (l.length : Int)) (E ++ List.replicate i 0) m a s n c) (m ++ [E ++ List.replicate ((roomP n c l).toNat - E.length) 0], (m.length : Int), 0, n + (l.length : Int), ((E ++ List.replicate ((roomP n c l).toNat - E.length) (0 : Int)).length : Int), true) := by
  have hN := room_eq (c := c) (l := l) (n := n) (by omega) hn
  have hroom : mn 64 (mx (2 * c) (n + (l.length : Int))) = roomP n c l := rfl
  intro j
  induction j with
  | zero =>
    intro i hi
    have e1 : i = (roomP n c l).toNat - E.length := by omega
    subst e1
    have hn := l2New_f m (E ++ List.replicate ((roomP n c l).toNat - E.length) 0) (n + (l.length : Int)) h (by simp; omega)
    refine Ev.step (f := fun q => (spec_l2New.f q m (E ++ List.replicate ((roomP n c l).toNat - E.length) 0) (n + (l.length : Int))).bind fun t => some (t.1, t.2.1, t.2.2.1, t.2.2.2.1, t.2.2.2.2, true)) (fun q => ?_) (Ev.bind hn (Ev.now _))
    simp only [spec_l2Append.l0, mostA_f, leastA_f, Option.bind_some, wrap_ok (x := 2 * c) (by omega) (by omega), hroom]
    rw [if_neg (by simp; omega)]
  | succ j ih =>
    intro i hi
    refine Ev.step (f := fun q => spec_l2Append.l0 q (n + (l.length : Int)) (E ++ List.replicate (i + 1) 0) m a s n c) (fun q => ?_) (ih (i + 1) (by omega))
    simp only [spec_l2Append.l0, mostA_f, leastA_f, Option.bind_some, wrap_ok (x := 2 * c) (by omega) (by omega), hroom]
    rw [if_pos (by simp; omega), if_pos (by simp; omega), List.append_assoc, ← List.replicate_succ']
theorem l2Append_f (m : List (List Int)) (a s n c : Int) (l : List Int) (h : okM m) (hw : WinOk m a s n c) (hl : l.length ≤ 1048576) : Ev (fun k => spec_l2Append.f k m a s n c l) (appendF m a s n c l) := by
  have h1 := hw.s0; have h2 := hw.n0; have h3 := hw.s1; have h4 := hw.n1; have h5 := hw.c1; have h6 := hw.r1
  simp only [spec_l2Append.f, spec_l2Room.f, Option.bind_some, wrap_ok (x := c - n) (by omega) (by omega), wrap_ok (x := 64 - n) (by omega) (by omega)]
  by_cases hfit : n + (l.length : Int) ≤ c
  · have hP : appendF m a s n c l = (putRow m a (spl (rowB m a) (s.toNat + n.toNat) l), a, s, n + (l.length : Int), c, true) := by
      unfold appendF appendP
      rw [if_pos hfit, if_pos rfl, show (s + n).toNat = s.toNat + n.toNat by omega]
    rw [hP]
    simp only [if_pos (show (l.length : Int) ≤ c - n by omega)]
    refine Ev.bind (l2Write_f m a s n c n l h hw h2 (by omega)) ?_
    simp only [spec_l2Slice.f, Option.bind_some, Int.sub_zero, Int.add_zero, wrap_ok (x := n + (l.length : Int)) (by omega) (by omega), wrap_ok (x := c) (by omega) (by omega), wrap_ok (x := s) (by omega) (by omega)]
    exact Ev.now _
  · simp only [if_neg (show ¬ (l.length : Int) ≤ c - n by omega)]
    by_cases h64 : n + (l.length : Int) > 64
    · have hP : appendF m a s n c l = ([], 0, 0, 0, 0, false) := by
        unfold appendF appendP
        rw [if_neg hfit, if_pos (Or.inl h64), if_neg (by simp)]
      rw [hP]
      simp only [if_pos (show (l.length : Int) > 64 - n by omega)]
      refine Ev.step (fun k => ?_) (Ev.now _)
      simp only [spec_l2Append.j0, if_true]
    · simp only [if_neg (show ¬ (l.length : Int) > 64 - n by omega)]
      by_cases h16 : (m.length : Int) = 16
      · have hP : appendF m a s n c l = ([], 0, 0, 0, 0, false) := by
          unfold appendF appendP
          rw [if_neg hfit, if_pos (Or.inr h16), if_neg (by simp)]
        rw [hP, beq_iff_eq.2 h16]
        refine Ev.step (fun k => ?_) (Ev.now _)
        simp only [spec_l2Append.j0, if_true]
      · have hN := room_eq (c := c) h64 h2
        have hgl := growRow_length (N := (roomP n c l).toNat) h1 h2 (show s + n ≤ ((rowB m a).length : Int) by omega) (show n + (l.length : Int) ≤ ((roomP n c l).toNat : Int) by omega)
        have hge := growRow_eq (N := (roomP n c l).toNat) h1 h2 (show s + n ≤ ((rowB m a).length : Int) by omega) (show n + (l.length : Int) ≤ ((roomP n c l).toNat : Int) by omega)
        have hP : appendF m a s n c l = (m ++ [growRow (rowB m a) s n (roomP n c l).toNat l], (m.length : Int), 0, n + (l.length : Int), ((roomP n c l).toNat : Int), true) := by
          have hb : ¬ (n + (l.length : Int) > 64 ∨ (m.length : Int) = 16) := by rintro (h | h); exact h64 h; exact h16 h
          unfold appendF appendP
          rw [if_neg hfit, if_neg hb, if_pos rfl]
        rw [hP, beq_eq_false_iff_ne.2 h16]
        have hsl := seeB_length hw
        have hE : (seeB m a s n ++ l).length = n.toNat + l.length := by rw [List.length_append]; omega
        refine Ev.step (f := fun k => (spec_l2Bytes.f k m a s n c).bind fun t => if t.length + l.length < 140737488355328 then spec_l2Append.l0 k (wrap64 (n + (l.length : Int))) (t ++ l) m a s n c else none) (fun k => ?_) ?_
        · simp only [spec_l2Append.j0]
          rw [if_neg (by decide)]
        · refine Ev.bind (l2Bytes_f hw) ?_
          simp only [if_pos (show (seeB m a s n).length + l.length < 140737488355328 by omega), wrap_ok (x := n + (l.length : Int)) (by omega) (by omega)]
          have hp := padA_ev m a s n c l h ⟨hw.c0, h5⟩ h2 (by omega) (seeB m a s n ++ l) ((roomP n c l).toNat - (seeB m a s n ++ l).length) 0 (by omega)
          rw [List.replicate_zero, List.append_nil, hE] at hp
          have hsee : seeB m a s n = ((rowB m a).drop s.toNat).take n.toNat := rfl
          rw [← hsee] at hge
          rw [← hge, hgl] at hp
          exact hp
end Go.Proofs.Ytoomjghabiojkaa.P


/- make([]byte, n) as a plain row. -/
namespace Go.Proofs.Ytoomjghabiojkaa.P
open Go.RowKit Go.Proofs.YtoomjghabiojkaaW.PrintWords Go.Proofs.YtoomjghabiojkaaW.Mine
set_option linter.unusedVariables false
set_option linter.unusedSimpArgs false
section
variable {ops : Array Oper} {evs : List EvT} {W : World} {base : List Th} {mods : List Md} {aF : (Nat → Lt) → Act} {x y : Operand}
theorem R_made {g n m : Nat} {w : World} {ok : Nat → Prop} (hn : n ≤ g) (hm : m ≤ 1048576) (h : bx g (madeCells #[Value.int .u8 0] m) 5 w) (hk : ok g) : Kd.R (Kd.int .u8) 5 w n ok (.slice (some ⟨g, 0, none⟩) (List.replicate m (0 : Int)).length m) (List.replicate m (0 : Int)) :=
  Kd.R_of_own ⟨by rw [encs_length, Nat.mul_one], .inr ⟨g, m, _, rfl, hn, h, by simp, by unfold maxLen; omega, by rw [size_madeCells]; simp, by rw [Nat.mul_one, made_take]; rfl⟩⟩ (fun k hk' => by simp [Value.ownBlock] at hk'; subst hk'; exact hk)
theorem mkr {i : Nat} {d : Tmp} {o : Oper} (ho : ops.toList[i]? = some o) (n : Int) (h0 : 0 ≤ n) (h1 : n ≤ 1048576) (hop : o.op = .makeSlice 119 x y := by rfl) (hx : ∀ s, (aF s).eval x = .int .i64 n := by intro s; rfl) (hy : ∀ s, (aF s).eval y = .int .i64 n := by intro s; rfl) (hd : o.dst = some d := by rfl) (hw : ∀ s, Region.wanted o (yielded ops (aF s).tmps) = true := by intro s; rfl) :
    Sh Try.prog ops W base mods aF evs (evC i (some d) [] (fun s x => .slice x.A (List.replicate n.toNat (0 : Int)).length x.c) (fun s x => [rowR (Kd.int .u8) 5 W x.lo x.hi x.A x.c (List.replicate n.toNat (0 : Int))])) := by
  refine ⟨fun s x => ⟨rfl, rfl, rfl⟩, ⟨o, by rw [← Array.getElem?_toList]; exact ho, fun s w hst K hK => wanted_get (hw s) ?_⟩⟩
  obtain ⟨m, rfl⟩ := Int.eq_ofNat_of_zero_le h0
  have hinfo : (Try.prog.info? 5).map (fun i => (i.zero, i.size, i.bytes)) = some (some (.int .u8 0), 1, 1) := by kernel_rfl
  have hrun := print_make (P := Try.prog) 119 5 .u8 1 (by kernel_rfl) hinfo (by decide) m (by omega) w
  have he : (execOp (aF s).eval o).run Try.prog w = .ok (.value (.slice (some ⟨w.heap.size, 0, none⟩) m m)) (w.alloc (.cells (madeCells #[.int .u8 0] m) 5)) := by
    unfold execOp
    rw [hop]
    simp [hx s, hy s, hrun, Result.andThen]
  unfold Oper.wp
  rw [he]
  show K ((aF s).put o.dst _) _
  rw [hd]
  have hk := hK.out ⟨w.heap.size, w.heap.size + 1, some ⟨w.heap.size, 0, none⟩, m, none, 0, none, 0⟩ (w.alloc (.cells (madeCells #[.int .u8 0] m) 5)) ((Stk.nil w).cons (below_alloc (Below.refl _ _) _) _ (Nat.le_refl _) ⟨Nat.le_succ _, Nat.succ_le_of_lt (blk_lt (blk_new w _)), fun w' ha => ?_⟩)
  · simp only [Int.toNat_natCast, List.length_replicate] at hk
    exact hk
  · simp only [Int.toNat_natCast]
    exact R_made (Nat.le_trans hst.hb.size (Nat.le_refl _)) (by omega) ((ha w.heap.size (Nat.le_refl _) (Nat.lt_succ_self _)).trans (blk_new w _)) ⟨Nat.le_refl _, Nat.lt_succ_self _⟩
theorem rowcut_C {A : Option Addr} {n c m : Nat} {w : World} {xs : List Int} (h : n = xs.length ∧ n ≤ c ∧ (Kd.int .u8).C w A xs.length xs) (hm : m ≤ xs.length) : (Kd.int .u8).C w (cutA A m c) (xs.drop m).length (xs.drop m) := by
  have h2 := Kd.C_drop (m := m) (c := c) h.2.2 hm (by omega)
  rw [show m * (Kd.int .u8).sz = m from Nat.mul_one m] at h2
  exact h2
theorem rowcut_c {A : Option Addr} {n c m : Nat} {w : World} {xs : List Int} (h : n = xs.length ∧ n ≤ c ∧ (Kd.int .u8).C w A xs.length xs) : (xs.drop m).length ≤ c - m := by
  rw [List.length_drop]
  omega
theorem crd {i : Nat} {d : Tmp} {us : List Nat} {k : IntKind} {l : Int} {o : Oper} {X : (Nat → Lt) → Option Addr} {C : (Nat → Lt) → Nat} {xs : List Int} (ho : ops.toList[i]? = some o) (h0 : 0 ≤ l) (h1 : l ≤ xs.length) (hop : o.op = .slice 119 x (some y) none none := by rfl) (hx : ∀ s, (aF s).eval x = .slice (X s) xs.length (C s) := by intro s; rfl) (hy : ∀ s, (aF s).eval y = .int k l := by intro s; rfl)
    (hF : ∀ s, (X (only us s) = X s) ∧ (C (only us s) = C s) := by intro s; exact ⟨rfl, rfl⟩) (hw : ∀ s, Region.wanted o (yielded ops (aF s).tmps) = true := by intro s; rfl) :
    Sh Try.prog ops W base mods aF evs (evP i d us (fun s => .slice (cutA (X s) l.toNat (C s)) (xs.drop l.toNat).length (C s - l.toNat))) :=
  pu ho (fun s => by simp only [(hF s).1, (hF s).2]) hw (fun s w => by rw [List.length_drop]; exact run_cut_l slB (szB w) hop (hx s) (hy s) h0 (by omega))
end
end Go.Proofs.Ytoomjghabiojkaa.P


-- written by wip/gen_fn.py
namespace Go.Proofs.Ytoomjghabiojkaa.P
open Go.RowKit Go.Proofs.YtoomjghabiojkaaW.PrintWords Go.Proofs.YtoomjghabiojkaaW.PrintLast Go.Proofs.YtoomjghabiojkaaW.PrintMore Go.Proofs.YtoomjghabiojkaaW.Mine
open List (setIfInBounds_toArray set_cons_zero set_cons_succ)
attribute [local go_sem] max2_int min2_int max_two min_two max_three min_three max_four min_four
set_option linter.unusedVariables false
set_option linter.unusedSimpArgs false
set_option maxHeartbeats 8000000 in
set_option maxRecDepth 100000 in
theorem spec_l6Widen_w0 (A0_0 : Option Addr) (c0_0 : Nat) (l0_0 : List (List Int)) (a0_1 : Int) (a0_2 : Int) (a0_3 : Int) (a0_4 : Int) (a0_5 : Int) (a0_6 : Int) (a1_0 : Int) (w : World) (hr0_0 : Kd.C (Kd.slice 5 (Kd.int .u8)) w A0_0 l0_0.length l0_0) (hc0_0 : l0_0.length ≤ c0_0) (T0 : (decide (a1_0 > 64)) = true) :
    Calls Try.prog 123 #[.agg #[.slice A0_0 l0_0.length c0_0, .int .i64 a0_1, .int .i64 a0_2, .int .i64 a0_3, .int .i64 a0_4, .int .i64 a0_5, .int .i64 a0_6], .int .i64 a1_0] w fun e w' => ∃ v0_ : Value, e = .returned (.tuple #[.agg #[v0_, .int .i64 0, .int .i64 0, .int .i64 0, .int .i64 0, .int .i64 0, .int .i64 0], .bool false]) ∧ Kd.S (Kd.slice 5 (Kd.int .u8)) 119 w' w.heap.size (fun _ => True) v0_ [] ∧ Below w.heap.size w w' := by
  have HR0_0 := Aside0.mk hr0_0; have HC0_0 := Aside0.mk hc0_0; clear hr0_0 hc0_0
  have T0_ := Aside0.mk T0; clear T0; have T0 := T0_; clear T0_
  have HS0 : Aside0 (Stk w [] w) := ⟨Stk.nil w⟩
  go_enter Try.func123, Try.ntmps123
  refine reg (aF := ?_) (nw := ?_) [evB 0 2 [] 69 (fun s => #[.slice A0_0 l0_0.length c0_0, .int .i64 a0_1, .int .i64 a0_2, .int .i64 a0_3, .int .i64 a0_4, .int .i64 a0_5, .int .i64 a0_6]) 9999 [] (fun s => #[.slice A0_0 l0_0.length c0_0, .int .i64 a0_1, .int .i64 a0_2, .int .i64 a0_3, .int .i64 a0_4, .int .i64 a0_5, .int .i64 a0_6]), evB 1 4 [] 69 (fun s => #[.slice none 0 0, .int .i64 0, .int .i64 0, .int .i64 0, .int .i64 0, .int .i64 0, .int .i64 0]) 9999 [] (fun s => #[.slice none 0 0, .int .i64 0, .int .i64 0, .int .i64 0, .int .i64 0, .int .i64 0, .int .i64 0]), evP 2 5 [] (fun s => .bool false)] [] [] false 3 rfl rfl (by kernel_rfl) rfl (mf0) ?aF ?nw HS0.out ?hs ?_
  rotate_left 2
  case aF => intro s; simp only [putE, EvT.val, Act.put, setIfInBounds_toArray, set_cons_zero, set_cons_succ]; rfl
  case nw => intro s; simp only [thA, bsA, List.nil_append, List.cons_append, List.append_nil, if_true, if_false, Nat.reduceLT, set_cons_zero, set_cons_succ]; rfl
  case hs => exact ⟨bv rfl (fun s w => by go_simp; try rfl), bv rfl (fun s w => by go_simp; try rfl), pu rfl, trivial⟩
  intro s1 w1 h; have HS1 := Aside0.mk h; clear h HS0
  refine tl0 ?_
  refine wp_seq ?_
  refine reg0 (aF := ?_) [evP 0 10 [] (fun s => .int .i64 a1_0), evP 1 11 [] (fun s => .bool true)] [] false 2 rfl rfl (by kernel_rfl) rfl (fun _ => rfl) ?aF HS1.out ?hs ?_
  rotate_left 1
  case aF => intro s; simp only [putE, EvT.val, Act.put, setIfInBounds_toArray, set_cons_zero, set_cons_succ]; rfl
  case hs => exact ⟨pu rfl, pb (q := .gtr) T0.out rfl, trivial⟩
  intro s2 w2 h; have HS2 := Aside0.mk h; clear h HS1
  refine tl0 ?_
  refine wp_cond_true rfl ?_
  refine reg (aF := ?_) (nw := ?_) [evP 0 12 [] (fun s => .agg #[.slice none 0 0, .int .i64 0, .int .i64 0, .int .i64 0, .int .i64 0, .int .i64 0, .int .i64 0]), evS 1] [2] [⟨1, 1, [], fun s => boxT (s1 1).lo #[.slice none 0 0, .int .i64 0, .int .i64 0, .int .i64 0, .int .i64 0, .int .i64 0, .int .i64 0] 69⟩] false 3 rfl rfl (by kernel_rfl) rfl ((mf1 mf0)) ?aF ?nw HS2.out ?hs ?_
  rotate_left 2
  case aF => intro s; simp only [putE, EvT.val, Act.put, setIfInBounds_toArray, set_cons_zero, set_cons_succ]; rfl
  case nw => intro s; simp only [thA, bsA, List.nil_append, List.cons_append, List.append_nil, if_true, if_false, Nat.reduceLT, set_cons_zero, set_cons_succ]; rfl
  case hs => exact ⟨pu rfl (hr := fun s w => by go_simp; try rfl), sb rfl 0 1 0 (fun s => [.slice none 0 0, .int .i64 0, .int .i64 0, .int .i64 0, .int .i64 0, .int .i64 0, .int .i64 0]) rfl rfl (fun s w h hf => by have h0 := h 0 _ rfl; have f0 := hf 0; have h1 := h 1 _ rfl; have f1 := hf 1; have h2 := h 2 _ rfl; have f2 := hf 2; have h3 := h 3 _ rfl; have f3 := hf 3; have h4 := h 4 _ rfl; have f4 := hf 4; have h5 := h 5 _ rfl; have f5 := hf 5; have h6 := h 6 _ rfl; have f6 := hf 6; clear h hf; go_simp; try rfl), trivial⟩
  intro s3 w3 h; have HS3 := Aside0.mk h; clear h HS2
  refine tlP (v := .bool false) 5 rfl ?_
  simp only [Act.put, setIfInBounds_toArray, set_cons_zero, set_cons_succ]
  refine tl0 ?_
  refine wp_ret ?_
  try simp only [Exit.inBlock, Exit.then]
  refine bodyPost_ret (results_list (rs := [.cell 4 69, .tmp 5]) rfl (by simp) (.cell (s1 1).lo 69 #[.slice none 0 0, .int .i64 0, .int .i64 0, .int .i64 0, .int .i64 0, .int .i64 0, .int .i64 0] (0, 0) _ rfl (show bx (s1 1).lo #[.slice none 0 0, .int .i64 0, .int .i64 0, .int .i64 0, .int .i64 0, .int .i64 0, .int .i64 0] 69 _ from HS3.out.get 1 rfl) Try.underlying69 rfl (by kernel_rfl) (.tmp .nil))) rfl ?_
  exact ⟨_, by first | rfl | simp, Kd.S_nil _ _ _ _ _, HS3.out.hb⟩
set_option maxHeartbeats 8000000 in
set_option maxRecDepth 100000 in
theorem spec_l6Widen_w1 (A0_0 : Option Addr) (c0_0 : Nat) (l0_0 : List (List Int)) (a0_1 : Int) (a0_2 : Int) (a0_3 : Int) (a0_4 : Int) (a0_5 : Int) (a0_6 : Int) (a1_0 : Int) (r1_0 : List (List Int)) (r1_1 : Int) (r1_2 : Int) (r1_3 : Int) (r1_4 : Int) (w : World) (hr0_0 : Kd.C (Kd.slice 5 (Kd.int .u8)) w A0_0 l0_0.length l0_0) (hc0_0 : l0_0.length ≤ c0_0) (H1 : ∃ k, spec_l2Append.f k l0_0 a0_1 a0_2 a0_3 a0_4 (List.replicate a1_0.toNat (0 : Int)) = some (r1_0, r1_1, r1_2, r1_3, r1_4, false)) (T0 : (decide (a1_0 > 64)) = false) (F0 : 0 ≤ a1_0) (F1 : a1_0 ≤ 64) :
    Calls Try.prog 123 #[.agg #[.slice A0_0 l0_0.length c0_0, .int .i64 a0_1, .int .i64 a0_2, .int .i64 a0_3, .int .i64 a0_4, .int .i64 a0_5, .int .i64 a0_6], .int .i64 a1_0] w fun e w' => ∃ v0_ : Value, e = .returned (.tuple #[.agg #[v0_, .int .i64 0, .int .i64 0, .int .i64 0, .int .i64 0, .int .i64 0, .int .i64 0], .bool false]) ∧ Kd.S (Kd.slice 5 (Kd.int .u8)) 119 w' w.heap.size (fun _ => True) v0_ [] ∧ Below w.heap.size w w' := by
  have HR0_0 := Aside0.mk hr0_0; have HC0_0 := Aside0.mk hc0_0; clear hr0_0 hc0_0
  obtain ⟨k, H1_⟩ := H1; have H1 := Aside0.mk H1_; clear H1_
  have T0_ := Aside0.mk T0; clear T0; have T0 := T0_; clear T0_
  have HS0 : Aside0 (Stk w [] w) := ⟨Stk.nil w⟩
  go_enter Try.func123, Try.ntmps123
  refine reg (aF := ?_) (nw := ?_) [evB 0 2 [] 69 (fun s => #[.slice A0_0 l0_0.length c0_0, .int .i64 a0_1, .int .i64 a0_2, .int .i64 a0_3, .int .i64 a0_4, .int .i64 a0_5, .int .i64 a0_6]) 9999 [] (fun s => #[.slice A0_0 l0_0.length c0_0, .int .i64 a0_1, .int .i64 a0_2, .int .i64 a0_3, .int .i64 a0_4, .int .i64 a0_5, .int .i64 a0_6]), evB 1 4 [] 69 (fun s => #[.slice none 0 0, .int .i64 0, .int .i64 0, .int .i64 0, .int .i64 0, .int .i64 0, .int .i64 0]) 9999 [] (fun s => #[.slice none 0 0, .int .i64 0, .int .i64 0, .int .i64 0, .int .i64 0, .int .i64 0, .int .i64 0]), evP 2 5 [] (fun s => .bool false)] [] [] false 3 rfl rfl (by kernel_rfl) rfl (mf0) ?aF ?nw HS0.out ?hs ?_
  rotate_left 2
  case aF => intro s; simp only [putE, EvT.val, Act.put, setIfInBounds_toArray, set_cons_zero, set_cons_succ]; rfl
  case nw => intro s; simp only [thA, bsA, List.nil_append, List.cons_append, List.append_nil, if_true, if_false, Nat.reduceLT, set_cons_zero, set_cons_succ]; rfl
  case hs => exact ⟨bv rfl (fun s w => by go_simp; try rfl), bv rfl (fun s w => by go_simp; try rfl), pu rfl, trivial⟩
  intro s1 w1 h; have HS1 := Aside0.mk h; clear h HS0
  refine tl0 ?_
  refine wp_seq ?_
  refine reg0 (aF := ?_) [evP 0 10 [] (fun s => .int .i64 a1_0), evP 1 11 [] (fun s => .bool false)] [] false 2 rfl rfl (by kernel_rfl) rfl (fun _ => rfl) ?aF HS1.out ?hs ?_
  rotate_left 1
  case aF => intro s; simp only [putE, EvT.val, Act.put, setIfInBounds_toArray, set_cons_zero, set_cons_succ]; rfl
  case hs => exact ⟨pu rfl, pb (q := .gtr) T0.out rfl, trivial⟩
  intro s2 w2 h; have HS2 := Aside0.mk h; clear h HS1
  refine tl0 ?_
  refine wp_cond_false rfl ?_
  refine wp_skip ?_
  refine thN ?_
  refine reg (aF := ?_) (nw := ?_) [evP 0 14 [] (fun s => .pointer (some ⟨(s1 0).lo, 0, none⟩)), evL 1 15 [] (fun s => .agg #[.slice A0_0 l0_0.length c0_0]), evP 2 16 [] (fun s => .pointer (some ⟨(s1 0).lo, 1, none⟩)), evL 3 17 [] (fun s => .agg #[.int .i64 a0_1, .int .i64 a0_2, .int .i64 a0_3, .int .i64 a0_4]), evP 4 18 [] (fun s => .int .i64 a1_0), evC 5 (some 19) [] (fun s x => .slice x.A (List.replicate a1_0.toNat (0 : Int)).length x.c) (fun s x => [rowR (Kd.int .u8) 5 w x.lo x.hi x.A x.c (List.replicate a1_0.toNat (0 : Int))]), evC 6 (some 20) [5] (fun s x => .tuple #[.agg #[.slice x.A r1_0.length x.c], .agg #[.int .i64 r1_1, .int .i64 r1_2, .int .i64 r1_3, .int .i64 r1_4], .bool false]) (fun s x => [rowS (Kd.slice 5 (Kd.int .u8)) 119 w x.lo x.hi x.A x.c r1_0]), evP 7 13 [6] (fun s => .tuple #[.agg #[.slice (s 6).A r1_0.length (s 6).c], .agg #[.int .i64 r1_1, .int .i64 r1_2, .int .i64 r1_3, .int .i64 r1_4], .bool false]), evP 8 21 [6] (fun s => .agg #[.slice (s 6).A r1_0.length (s 6).c]), evP 9 22 [] (fun s => .agg #[.int .i64 r1_1, .int .i64 r1_2, .int .i64 r1_3, .int .i64 r1_4]), evP 10 23 [] (fun s => .bool false), evB 11 6 [] 26 (fun s => #[.slice none 0 0]) 13 [6] (fun s => #[.slice (s 6).A r1_0.length (s 6).c]), evB 12 7 [] 48 (fun s => #[.int .i64 0, .int .i64 0, .int .i64 0, .int .i64 0]) 14 [] (fun s => #[.int .i64 r1_1, .int .i64 r1_2, .int .i64 r1_3, .int .i64 r1_4]), evS 13, evS 14] [15] [] true 16 rfl rfl (by kernel_rfl) rfl (mf0) ?aF ?nw HS2.out ?hs ?_
  rotate_left 2
  case aF => intro s; simp only [putE, EvT.val, Act.put, setIfInBounds_toArray, set_cons_zero, set_cons_succ]; rfl
  case nw => intro s; simp only [thA, bsA, List.nil_append, List.cons_append, List.append_nil, if_true, if_false, Nat.reduceLT, set_cons_zero, set_cons_succ]; rfl
  case hs => exact ⟨pu rfl (hr := fun s w => by go_simp; try rfl), ld rfl 0 (fun s => rfl) (fun s w h => by have h0 := h 0 _ rfl; have h1 := h 1 _ rfl; have h2 := h 2 _ rfl; have h3 := h 3 _ rfl; have h4 := h 4 _ rfl; have h5 := h 5 _ rfl; have h6 := h 6 _ rfl; clear h; go_simp; try rfl), pu rfl (hr := fun s w => by go_simp; try rfl), ld rfl 0 (fun s => rfl) (fun s w h => by have h0 := h 0 _ rfl; have h1 := h 1 _ rfl; have h2 := h 2 _ rfl; have h3 := h 3 _ rfl; have h4 := h 4 _ rfl; have h5 := h 5 _ rfl; have h6 := h 6 _ rfl; clear h; go_simp; try rfl), pu rfl, mkr rfl a1_0 (by omega) (by omega), cl rfl (fun s => #[.agg #[.slice A0_0 l0_0.length c0_0], .agg #[.int .i64 a0_1, .int .i64 a0_2, .int .i64 a0_3, .int .i64 a0_4], .slice (s 5).A (List.replicate a1_0.toNat (0 : Int)).length (s 5).c]) Try.func151 (fun s w1 h => (spec_l2Append.calls _ _ _ _ _ _ _ _ _ _ _ _ _ _ _ _ _ _ (Kd.C_below HR0_0.out h.hb) HC0_0.out (Kd.R_reads' (h.get 0 rfl)).2.2 (Kd.R_reads' (h.get 0 rfl)).2.1 H1.out).mono (by rintro e w2 ⟨v0_, rfl, ho0, hb⟩; obtain ⟨x, rfl, hx⟩ := fin_S ho0 hb h.hb.size; exact ⟨x, rfl, hx⟩)), pu rfl, pu rfl, pu rfl, pu rfl, bv rfl (fun s w => by go_simp; try rfl), bv rfl (fun s w => by go_simp; try rfl), st rfl 11 0 (fun s => [.slice (s 6).A r1_0.length (s 6).c]) rfl (fun s w h hf => by have h0 := h 0 _ rfl; have f0 := hf 0; clear h hf; go_simp; try rfl), st rfl 12 0 (fun s => [.int .i64 r1_1, .int .i64 r1_2, .int .i64 r1_3, .int .i64 r1_4]) rfl (fun s w h hf => by have h0 := h 0 _ rfl; have f0 := hf 0; have h1 := h 1 _ rfl; have f1 := hf 1; have h2 := h 2 _ rfl; have f2 := hf 2; have h3 := h 3 _ rfl; have f3 := hf 3; clear h hf; go_simp; try rfl), trivial⟩
  intro s3 w3 h; have HS3 := Aside0.mk h; clear h HS2
  refine tlP (v := .bool false) 8 rfl ?_
  simp only [Act.put, setIfInBounds_toArray, set_cons_zero, set_cons_succ]
  refine tl0 ?_
  refine wp_seq ?_
  refine reg0 (aF := ?_) [evP 0 24 [] (fun s => .bool false), evP 1 25 [] (fun s => .bool true)] [] false 2 rfl rfl (by kernel_rfl) rfl (fun _ => rfl) ?aF HS3.out ?hs ?_
  rotate_left 1
  case aF => intro s; simp only [putE, EvT.val, Act.put, setIfInBounds_toArray, set_cons_zero, set_cons_succ]; rfl
  case hs => exact ⟨pu rfl, pu rfl, trivial⟩
  intro s4 w4 h; have HS4 := Aside0.mk h; clear h HS3
  refine tl0 ?_
  refine wp_cond_true rfl ?_
  refine reg (aF := ?_) (nw := ?_) [evP 0 26 [] (fun s => .agg #[.slice none 0 0, .int .i64 0, .int .i64 0, .int .i64 0, .int .i64 0, .int .i64 0, .int .i64 0]), evS 1] [2] [⟨5, 1, [], fun s => boxT (s1 1).lo #[.slice none 0 0, .int .i64 0, .int .i64 0, .int .i64 0, .int .i64 0, .int .i64 0, .int .i64 0] 69⟩] false 3 rfl rfl (by kernel_rfl) rfl ((mf1 mf0)) ?aF ?nw HS4.out ?hs ?_
  rotate_left 2
  case aF => intro s; simp only [putE, EvT.val, Act.put, setIfInBounds_toArray, set_cons_zero, set_cons_succ]; rfl
  case nw => intro s; simp only [thA, bsA, List.nil_append, List.cons_append, List.append_nil, if_true, if_false, Nat.reduceLT, set_cons_zero, set_cons_succ]; rfl
  case hs => exact ⟨pu rfl (hr := fun s w => by go_simp; try rfl), sb rfl 0 5 0 (fun s => [.slice none 0 0, .int .i64 0, .int .i64 0, .int .i64 0, .int .i64 0, .int .i64 0, .int .i64 0]) rfl rfl (fun s w h hf => by have h0 := h 0 _ rfl; have f0 := hf 0; have h1 := h 1 _ rfl; have f1 := hf 1; have h2 := h 2 _ rfl; have f2 := hf 2; have h3 := h 3 _ rfl; have f3 := hf 3; have h4 := h 4 _ rfl; have f4 := hf 4; have h5 := h 5 _ rfl; have f5 := hf 5; have h6 := h 6 _ rfl; have f6 := hf 6; clear h hf; go_simp; try rfl), trivial⟩
  intro s5 w5 h; have HS5 := Aside0.mk h; clear h HS4
  refine tlP (v := .bool false) 5 rfl ?_
  simp only [Act.put, setIfInBounds_toArray, set_cons_zero, set_cons_succ]
  refine tl0 ?_
  refine wp_ret ?_
  try simp only [Exit.inBlock, Exit.then]
  refine bodyPost_ret (results_list (rs := [.cell 4 69, .tmp 5]) rfl (by simp) (.cell (s1 1).lo 69 #[.slice none 0 0, .int .i64 0, .int .i64 0, .int .i64 0, .int .i64 0, .int .i64 0, .int .i64 0] (0, 0) _ rfl (show bx (s1 1).lo #[.slice none 0 0, .int .i64 0, .int .i64 0, .int .i64 0, .int .i64 0, .int .i64 0, .int .i64 0] 69 _ from HS5.out.get 5 rfl) Try.underlying69 rfl (by kernel_rfl) (.tmp .nil))) rfl ?_
  exact ⟨_, by first | rfl | simp, Kd.S_nil _ _ _ _ _, HS5.out.hb⟩
set_option maxHeartbeats 8000000 in
set_option maxRecDepth 100000 in
theorem spec_l6Widen_w2 (A0_0 : Option Addr) (c0_0 : Nat) (l0_0 : List (List Int)) (a0_1 : Int) (a0_2 : Int) (a0_3 : Int) (a0_4 : Int) (a0_5 : Int) (a0_6 : Int) (a1_0 : Int) (r1_0 : List (List Int)) (r1_1 : Int) (r1_2 : Int) (r1_3 : Int) (r1_4 : Int) (r2_0 : List Int) (r3_0 : List (List Int)) (w : World) (hr0_0 : Kd.C (Kd.slice 5 (Kd.int .u8)) w A0_0 l0_0.length l0_0) (hc0_0 : l0_0.length ≤ c0_0) (H1 : ∃ k, spec_l2Append.f k l0_0 a0_1 a0_2 a0_3 a0_4 (List.replicate a1_0.toNat (0 : Int)) = some (r1_0, r1_1, r1_2, r1_3, r1_4, true)) (H2 : ∃ k, spec_l2Bytes.f k l0_0 a0_1 a0_2 a0_3 a0_4 = some r2_0) (H3 : ∃ k, spec_l2Write.f k r1_0 r1_1 r1_2 r1_3 r1_4 (a0_6 + a1_0) (r2_0.drop a0_6.toNat) = some r3_0) (T0 : (decide (a1_0 > 64)) = false) (F0 : 0 ≤ a1_0) (F1 : a1_0 ≤ 64) (F2 : 0 ≤ a0_6) (F3 : a0_6 ≤ 64) (F4 : a0_6 ≤ (r2_0.length : Int)) :
    Calls Try.prog 123 #[.agg #[.slice A0_0 l0_0.length c0_0, .int .i64 a0_1, .int .i64 a0_2, .int .i64 a0_3, .int .i64 a0_4, .int .i64 a0_5, .int .i64 a0_6], .int .i64 a1_0] w fun e w' => ∃ v0_ : Value, e = .returned (.tuple #[.agg #[v0_, .int .i64 r1_1, .int .i64 r1_2, .int .i64 r1_3, .int .i64 r1_4, .int .i64 a0_5, .int .i64 (a0_6 + a1_0)], .bool true]) ∧ Kd.S (Kd.slice 5 (Kd.int .u8)) 119 w' w.heap.size (fun _ => True) v0_ r3_0 ∧ Below w.heap.size w w' := by
  have HR0_0 := Aside0.mk hr0_0; have HC0_0 := Aside0.mk hc0_0; clear hr0_0 hc0_0
  obtain ⟨k, H1_⟩ := H1; have H1 := Aside0.mk H1_; clear H1_
  obtain ⟨k, H2_⟩ := H2; have H2 := Aside0.mk H2_; clear H2_
  obtain ⟨k, H3_⟩ := H3; have H3 := Aside0.mk H3_; clear H3_
  have T0_ := Aside0.mk T0; clear T0; have T0 := T0_; clear T0_
  have HS0 : Aside0 (Stk w [] w) := ⟨Stk.nil w⟩
  go_enter Try.func123, Try.ntmps123
  refine reg (aF := ?_) (nw := ?_) [evB 0 2 [] 69 (fun s => #[.slice A0_0 l0_0.length c0_0, .int .i64 a0_1, .int .i64 a0_2, .int .i64 a0_3, .int .i64 a0_4, .int .i64 a0_5, .int .i64 a0_6]) 9999 [] (fun s => #[.slice A0_0 l0_0.length c0_0, .int .i64 a0_1, .int .i64 a0_2, .int .i64 a0_3, .int .i64 a0_4, .int .i64 a0_5, .int .i64 a0_6]), evB 1 4 [] 69 (fun s => #[.slice none 0 0, .int .i64 0, .int .i64 0, .int .i64 0, .int .i64 0, .int .i64 0, .int .i64 0]) 9999 [] (fun s => #[.slice none 0 0, .int .i64 0, .int .i64 0, .int .i64 0, .int .i64 0, .int .i64 0, .int .i64 0]), evP 2 5 [] (fun s => .bool false)] [] [] false 3 rfl rfl (by kernel_rfl) rfl (mf0) ?aF ?nw HS0.out ?hs ?_
  rotate_left 2
  case aF => intro s; simp only [putE, EvT.val, Act.put, setIfInBounds_toArray, set_cons_zero, set_cons_succ]; rfl
  case nw => intro s; simp only [thA, bsA, List.nil_append, List.cons_append, List.append_nil, if_true, if_false, Nat.reduceLT, set_cons_zero, set_cons_succ]; rfl
  case hs => exact ⟨bv rfl (fun s w => by go_simp; try rfl), bv rfl (fun s w => by go_simp; try rfl), pu rfl, trivial⟩
  intro s1 w1 h; have HS1 := Aside0.mk h; clear h HS0
  refine tl0 ?_
  refine wp_seq ?_
  refine reg0 (aF := ?_) [evP 0 10 [] (fun s => .int .i64 a1_0), evP 1 11 [] (fun s => .bool false)] [] false 2 rfl rfl (by kernel_rfl) rfl (fun _ => rfl) ?aF HS1.out ?hs ?_
  rotate_left 1
  case aF => intro s; simp only [putE, EvT.val, Act.put, setIfInBounds_toArray, set_cons_zero, set_cons_succ]; rfl
  case hs => exact ⟨pu rfl, pb (q := .gtr) T0.out rfl, trivial⟩
  intro s2 w2 h; have HS2 := Aside0.mk h; clear h HS1
  refine tl0 ?_
  refine wp_cond_false rfl ?_
  refine wp_skip ?_
  refine thN ?_
  refine reg (aF := ?_) (nw := ?_) [evP 0 14 [] (fun s => .pointer (some ⟨(s1 0).lo, 0, none⟩)), evL 1 15 [] (fun s => .agg #[.slice A0_0 l0_0.length c0_0]), evP 2 16 [] (fun s => .pointer (some ⟨(s1 0).lo, 1, none⟩)), evL 3 17 [] (fun s => .agg #[.int .i64 a0_1, .int .i64 a0_2, .int .i64 a0_3, .int .i64 a0_4]), evP 4 18 [] (fun s => .int .i64 a1_0), evC 5 (some 19) [] (fun s x => .slice x.A (List.replicate a1_0.toNat (0 : Int)).length x.c) (fun s x => [rowR (Kd.int .u8) 5 w x.lo x.hi x.A x.c (List.replicate a1_0.toNat (0 : Int))]), evC 6 (some 20) [5] (fun s x => .tuple #[.agg #[.slice x.A r1_0.length x.c], .agg #[.int .i64 r1_1, .int .i64 r1_2, .int .i64 r1_3, .int .i64 r1_4], .bool true]) (fun s x => [rowS (Kd.slice 5 (Kd.int .u8)) 119 w x.lo x.hi x.A x.c r1_0]), evP 7 13 [6] (fun s => .tuple #[.agg #[.slice (s 6).A r1_0.length (s 6).c], .agg #[.int .i64 r1_1, .int .i64 r1_2, .int .i64 r1_3, .int .i64 r1_4], .bool true]), evP 8 21 [6] (fun s => .agg #[.slice (s 6).A r1_0.length (s 6).c]), evP 9 22 [] (fun s => .agg #[.int .i64 r1_1, .int .i64 r1_2, .int .i64 r1_3, .int .i64 r1_4]), evP 10 23 [] (fun s => .bool true), evB 11 6 [] 26 (fun s => #[.slice none 0 0]) 13 [6] (fun s => #[.slice (s 6).A r1_0.length (s 6).c]), evB 12 7 [] 48 (fun s => #[.int .i64 0, .int .i64 0, .int .i64 0, .int .i64 0]) 14 [] (fun s => #[.int .i64 r1_1, .int .i64 r1_2, .int .i64 r1_3, .int .i64 r1_4]), evS 13, evS 14] [15] [] true 16 rfl rfl (by kernel_rfl) rfl (mf0) ?aF ?nw HS2.out ?hs ?_
  rotate_left 2
  case aF => intro s; simp only [putE, EvT.val, Act.put, setIfInBounds_toArray, set_cons_zero, set_cons_succ]; rfl
  case nw => intro s; simp only [thA, bsA, List.nil_append, List.cons_append, List.append_nil, if_true, if_false, Nat.reduceLT, set_cons_zero, set_cons_succ]; rfl
  case hs => exact ⟨pu rfl (hr := fun s w => by go_simp; try rfl), ld rfl 0 (fun s => rfl) (fun s w h => by have h0 := h 0 _ rfl; have h1 := h 1 _ rfl; have h2 := h 2 _ rfl; have h3 := h 3 _ rfl; have h4 := h 4 _ rfl; have h5 := h 5 _ rfl; have h6 := h 6 _ rfl; clear h; go_simp; try rfl), pu rfl (hr := fun s w => by go_simp; try rfl), ld rfl 0 (fun s => rfl) (fun s w h => by have h0 := h 0 _ rfl; have h1 := h 1 _ rfl; have h2 := h 2 _ rfl; have h3 := h 3 _ rfl; have h4 := h 4 _ rfl; have h5 := h 5 _ rfl; have h6 := h 6 _ rfl; clear h; go_simp; try rfl), pu rfl, mkr rfl a1_0 (by omega) (by omega), cl rfl (fun s => #[.agg #[.slice A0_0 l0_0.length c0_0], .agg #[.int .i64 a0_1, .int .i64 a0_2, .int .i64 a0_3, .int .i64 a0_4], .slice (s 5).A (List.replicate a1_0.toNat (0 : Int)).length (s 5).c]) Try.func151 (fun s w1 h => (spec_l2Append.calls _ _ _ _ _ _ _ _ _ _ _ _ _ _ _ _ _ _ (Kd.C_below HR0_0.out h.hb) HC0_0.out (Kd.R_reads' (h.get 0 rfl)).2.2 (Kd.R_reads' (h.get 0 rfl)).2.1 H1.out).mono (by rintro e w2 ⟨v0_, rfl, ho0, hb⟩; obtain ⟨x, rfl, hx⟩ := fin_S ho0 hb h.hb.size; exact ⟨x, rfl, hx⟩)), pu rfl, pu rfl, pu rfl, pu rfl, bv rfl (fun s w => by go_simp; try rfl), bv rfl (fun s w => by go_simp; try rfl), st rfl 11 0 (fun s => [.slice (s 6).A r1_0.length (s 6).c]) rfl (fun s w h hf => by have h0 := h 0 _ rfl; have f0 := hf 0; clear h hf; go_simp; try rfl), st rfl 12 0 (fun s => [.int .i64 r1_1, .int .i64 r1_2, .int .i64 r1_3, .int .i64 r1_4]) rfl (fun s w h hf => by have h0 := h 0 _ rfl; have f0 := hf 0; have h1 := h 1 _ rfl; have f1 := hf 1; have h2 := h 2 _ rfl; have f2 := hf 2; have h3 := h 3 _ rfl; have f3 := hf 3; clear h hf; go_simp; try rfl), trivial⟩
  intro s3 w3 h; have HS3 := Aside0.mk h; clear h HS2
  refine tlP (v := .bool true) 8 rfl ?_
  simp only [Act.put, setIfInBounds_toArray, set_cons_zero, set_cons_succ]
  refine tl0 ?_
  refine wp_seq ?_
  refine reg0 (aF := ?_) [evP 0 24 [] (fun s => .bool true), evP 1 25 [] (fun s => .bool false)] [] false 2 rfl rfl (by kernel_rfl) rfl (fun _ => rfl) ?aF HS3.out ?hs ?_
  rotate_left 1
  case aF => intro s; simp only [putE, EvT.val, Act.put, setIfInBounds_toArray, set_cons_zero, set_cons_succ]; rfl
  case hs => exact ⟨pu rfl, pu rfl, trivial⟩
  intro s4 w4 h; have HS4 := Aside0.mk h; clear h HS3
  refine tl0 ?_
  refine wp_cond_false rfl ?_
  refine wp_skip ?_
  refine thN ?_
  refine reg (aF := ?_) (nw := ?_) [evP 0 27 [] (fun s => .pointer (some ⟨(s1 0).lo, 0, none⟩)), evL 1 28 [] (fun s => .agg #[.slice A0_0 l0_0.length c0_0]), evP 2 29 [] (fun s => .pointer (some ⟨(s1 0).lo, 1, none⟩)), evL 3 30 [] (fun s => .agg #[.int .i64 a0_1, .int .i64 a0_2, .int .i64 a0_3, .int .i64 a0_4]), evC 4 (some 31) [] (fun s x => .slice x.A r2_0.length x.c) (fun s x => [rowR (Kd.int .u8) 5 w x.lo x.hi x.A x.c r2_0]), evP 5 32 [] (fun s => .pointer (some ⟨(s1 0).lo, 6, none⟩)), evL 6 33 [] (fun s => .int .i64 a0_6), evP 7 34 [4] (fun s => .slice (cutA (s 4).A a0_6.toNat (s 4).c) (r2_0.drop a0_6.toNat).length ((s 4).c - a0_6.toNat))] [8] [] true 9 rfl rfl (by kernel_rfl) rfl (mf0) ?aF ?nw HS4.out ?hs ?_
  rotate_left 2
  case aF => intro s; simp only [putE, EvT.val, Act.put, setIfInBounds_toArray, set_cons_zero, set_cons_succ]; rfl
  case nw => intro s; simp only [thA, bsA, List.nil_append, List.cons_append, List.append_nil, if_true, if_false, Nat.reduceLT, set_cons_zero, set_cons_succ]; rfl
  case hs => exact ⟨pu rfl (hr := fun s w => by go_simp; try rfl), ld rfl 4 (fun s => rfl) (fun s w h => by have h0 := h 0 _ rfl; have h1 := h 1 _ rfl; have h2 := h 2 _ rfl; have h3 := h 3 _ rfl; have h4 := h 4 _ rfl; have h5 := h 5 _ rfl; have h6 := h 6 _ rfl; clear h; go_simp; try rfl), pu rfl (hr := fun s w => by go_simp; try rfl), ld rfl 4 (fun s => rfl) (fun s w h => by have h0 := h 0 _ rfl; have h1 := h 1 _ rfl; have h2 := h 2 _ rfl; have h3 := h 3 _ rfl; have h4 := h 4 _ rfl; have h5 := h 5 _ rfl; have h6 := h 6 _ rfl; clear h; go_simp; try rfl), cl rfl (fun s => #[.agg #[.slice A0_0 l0_0.length c0_0], .agg #[.int .i64 a0_1, .int .i64 a0_2, .int .i64 a0_3, .int .i64 a0_4]]) Try.func142 (fun s w1 h => (spec_l2Bytes.calls _ _ _ _ _ _ _ _ _ _ (Kd.C_below HR0_0.out h.hb) HC0_0.out H2.out).mono (by rintro e w2 ⟨v0_, rfl, ho0, hb⟩; obtain ⟨x, rfl, hx⟩ := fin_R ho0 hb h.hb.size; exact ⟨x, rfl, hx⟩)), pu rfl (hr := fun s w => by go_simp; try rfl), ld rfl 4 (fun s => rfl) (fun s w h => by have h0 := h 0 _ rfl; have h1 := h 1 _ rfl; have h2 := h 2 _ rfl; have h3 := h 3 _ rfl; have h4 := h 4 _ rfl; have h5 := h 5 _ rfl; have h6 := h 6 _ rfl; clear h; go_simp; try rfl), crd rfl (by omega) (by omega), trivial⟩
  intro s5 w5 h; have HS5 := Aside0.mk h; clear h HS4
  refine tlP (v := .slice (cutA (s5 4).A a0_6.toNat (s5 4).c) (r2_0.drop a0_6.toNat).length ((s5 4).c - a0_6.toNat)) 9 rfl ?_
  simp only [Act.put, setIfInBounds_toArray, set_cons_zero, set_cons_succ]
  refine tl0 ?_
  refine reg (aF := ?_) (nw := ?_) [evL 0 35 [] (fun s => .agg #[.slice (s3 6).A r1_0.length (s3 6).c]), evL 1 36 [] (fun s => .agg #[.int .i64 r1_1, .int .i64 r1_2, .int .i64 r1_3, .int .i64 r1_4]), evP 2 37 [] (fun s => .pointer (some ⟨(s1 0).lo, 6, none⟩)), evL 3 38 [] (fun s => .int .i64 a0_6), evP 4 39 [] (fun s => .int .i64 a1_0), evP 5 40 [] (fun s => .int .i64 (a0_6 + a1_0)), evP 6 41 [] (fun s => .slice (cutA (s5 4).A a0_6.toNat (s5 4).c) (r2_0.drop a0_6.toNat).length ((s5 4).c - a0_6.toNat)), evC 7 (some 42) [] (fun s x => .agg #[.slice x.A r3_0.length x.c]) (fun s x => [rowS (Kd.slice 5 (Kd.int .u8)) 119 w x.lo x.hi x.A x.c r3_0]), evL 8 43 [] (fun s => .agg #[.int .i64 r1_1, .int .i64 r1_2, .int .i64 r1_3, .int .i64 r1_4]), evP 9 44 [] (fun s => .pointer (some ⟨(s1 0).lo, 5, none⟩)), evL 10 45 [] (fun s => .int .i64 a0_5), evP 11 46 [] (fun s => .pointer (some ⟨(s1 0).lo, 6, none⟩)), evL 12 47 [] (fun s => .int .i64 a0_6), evP 13 48 [] (fun s => .int .i64 a1_0), evP 14 49 [] (fun s => .int .i64 (a0_6 + a1_0)), evP 15 50 [7] (fun s => .agg #[.slice (s 7).A r3_0.length (s 7).c, .int .i64 r1_1, .int .i64 r1_2, .int .i64 r1_3, .int .i64 r1_4, .int .i64 a0_5, .int .i64 (a0_6 + a1_0)]), evS 16] [17] [⟨6, 16, [7], fun s => boxT (s1 1).lo #[.slice (s 7).A r3_0.length (s 7).c, .int .i64 r1_1, .int .i64 r1_2, .int .i64 r1_3, .int .i64 r1_4, .int .i64 a0_5, .int .i64 (a0_6 + a1_0)] 69⟩] true 18 rfl rfl (by kernel_rfl) rfl ((mf1 mf0)) ?aF ?nw HS5.out ?hs ?_
  rotate_left 2
  case aF => intro s; simp only [putE, EvT.val, Act.put, setIfInBounds_toArray, set_cons_zero, set_cons_succ]; rfl
  case nw => intro s; simp only [thA, bsA, List.nil_append, List.cons_append, List.append_nil, if_true, if_false, Nat.reduceLT, set_cons_zero, set_cons_succ]; rfl
  case hs => exact ⟨ld rfl 3 (fun s => rfl) (fun s w h => by have h0 := h 0 _ rfl; clear h; go_simp; try rfl), ld rfl 4 (fun s => rfl) (fun s w h => by have h0 := h 0 _ rfl; have h1 := h 1 _ rfl; have h2 := h 2 _ rfl; have h3 := h 3 _ rfl; clear h; go_simp; try rfl), pu rfl (hr := fun s w => by go_simp; try rfl), ld rfl 5 (fun s => rfl) (fun s w h => by have h0 := h 0 _ rfl; have h1 := h 1 _ rfl; have h2 := h 2 _ rfl; have h3 := h 3 _ rfl; have h4 := h 4 _ rfl; have h5 := h 5 _ rfl; have h6 := h 6 _ rfl; clear h; go_simp; try rfl), pu rfl, pa .add (r := a0_6 + a1_0) (.inl ⟨rfl, (i64_ok (n := a0_6 + a1_0) (by omega) (by omega))⟩) rfl, pu rfl, cl rfl (fun s => #[.agg #[.slice (s3 6).A r1_0.length (s3 6).c], .agg #[.int .i64 r1_1, .int .i64 r1_2, .int .i64 r1_3, .int .i64 r1_4], .int .i64 (a0_6 + a1_0), .slice (cutA (s5 4).A a0_6.toNat (s5 4).c) (r2_0.drop a0_6.toNat).length ((s5 4).c - a0_6.toNat)]) Try.func143 (fun s w1 h => (spec_l2Write.calls _ _ _ _ _ _ _ _ _ _ _ _ _ _ (Kd.S_reads' (h.get 2 rfl)).2.2 (Kd.S_reads' (h.get 2 rfl)).2.1 (rowcut_C (Kd.R_reads' (h.get 0 rfl)) (by omega)) (rowcut_c (Kd.R_reads' (h.get 0 rfl))) H3.out).mono (by rintro e w2 ⟨v0_, rfl, ho0, hb⟩; obtain ⟨x, rfl, hx⟩ := fin_S ho0 hb h.hb.size; exact ⟨x, rfl, hx⟩)), ld rfl 4 (fun s => rfl) (fun s w h => by have h0 := h 0 _ rfl; have h1 := h 1 _ rfl; have h2 := h 2 _ rfl; have h3 := h 3 _ rfl; clear h; go_simp; try rfl), pu rfl (hr := fun s w => by go_simp; try rfl), ld rfl 5 (fun s => rfl) (fun s w h => by have h0 := h 0 _ rfl; have h1 := h 1 _ rfl; have h2 := h 2 _ rfl; have h3 := h 3 _ rfl; have h4 := h 4 _ rfl; have h5 := h 5 _ rfl; have h6 := h 6 _ rfl; clear h; go_simp; try rfl), pu rfl (hr := fun s w => by go_simp; try rfl), ld rfl 5 (fun s => rfl) (fun s w h => by have h0 := h 0 _ rfl; have h1 := h 1 _ rfl; have h2 := h 2 _ rfl; have h3 := h 3 _ rfl; have h4 := h 4 _ rfl; have h5 := h 5 _ rfl; have h6 := h 6 _ rfl; clear h; go_simp; try rfl), pu rfl, pa .add (r := a0_6 + a1_0) (.inl ⟨rfl, (i64_ok (n := a0_6 + a1_0) (by omega) (by omega))⟩) rfl, pu rfl (hr := fun s w => by go_simp; try rfl), sb rfl 0 6 0 (fun s => [.slice (s 7).A r3_0.length (s 7).c, .int .i64 r1_1, .int .i64 r1_2, .int .i64 r1_3, .int .i64 r1_4, .int .i64 a0_5, .int .i64 (a0_6 + a1_0)]) rfl rfl (fun s w h hf => by have h0 := h 0 _ rfl; have f0 := hf 0; have h1 := h 1 _ rfl; have f1 := hf 1; have h2 := h 2 _ rfl; have f2 := hf 2; have h3 := h 3 _ rfl; have f3 := hf 3; have h4 := h 4 _ rfl; have f4 := hf 4; have h5 := h 5 _ rfl; have f5 := hf 5; have h6 := h 6 _ rfl; have f6 := hf 6; clear h hf; go_simp; try rfl), trivial⟩
  intro s6 w6 h; have HS6 := Aside0.mk h; clear h HS5
  refine tlP (v := .bool true) 5 rfl ?_
  simp only [Act.put, setIfInBounds_toArray, set_cons_zero, set_cons_succ]
  refine tl0 ?_
  refine wp_ret ?_
  try simp only [Exit.inBlock, Exit.then]
  refine bodyPost_ret (results_list (rs := [.cell 4 69, .tmp 5]) rfl (by simp) (.cell (s1 1).lo 69 #[.slice (s6 7).A r3_0.length (s6 7).c, .int .i64 r1_1, .int .i64 r1_2, .int .i64 r1_3, .int .i64 r1_4, .int .i64 a0_5, .int .i64 (a0_6 + a1_0)] (0, 0) _ rfl (show bx (s1 1).lo #[.slice (s6 7).A r3_0.length (s6 7).c, .int .i64 r1_1, .int .i64 r1_2, .int .i64 r1_3, .int .i64 r1_4, .int .i64 a0_5, .int .i64 (a0_6 + a1_0)] 69 _ from HS6.out.get 7 rfl) Try.underlying69 rfl (by kernel_rfl) (.tmp .nil))) rfl ?_
  exact ⟨_, by first | rfl | simp, Kd.S_mono (HS6.out.get 0 rfl) (fun _ _ => trivial), HS6.out.hb⟩
end Go.Proofs.Ytoomjghabiojkaa.P


/- l6Widen: what it comes to, and its contract. -/
namespace Go.Proofs.Ytoomjghabiojkaa.P
open Go.RowKit Go.Proofs.YtoomjghabiojkaaW.PrintWords Go.Proofs.YtoomjghabiojkaaW.PrintMore
set_option linter.unusedVariables false
set_option linter.unusedSimpArgs false
def widenF (m : List (List Int)) (a s n c f t k : Int) : List (List Int) × Int × Int × Int × Int × Int × Int × Bool := if (widenP m a s n c f t k).2.2.2.2.2.2.2 = true then widenP m a s n c f t k else ([], 0, 0, 0, 0, 0, 0, false)
theorem memB_of {m : List (List Int)} (h : m.length ≤ 16) (hr : ∀ x ∈ m, 1 ≤ x.length ∧ x.length ≤ 64) : memB m = true := by
  unfold memB
  rw [Bool.and_eq_true]
  exact ⟨List.all_eq_true.2 (fun x hx => decide_eq_true (hr x hx)), decide_eq_true h⟩
theorem appendP_memB {m M : List (List Int)} {a s n cp x0 x1 x2 x3 : Int} {l : List Int} (hm : memB m = true) (hw : WinOk m a s n cp) (hP : appendP m a s n cp l = (M, x0, x1, x2, x3, true)) : memB M = true := by
  have h1 := hw.s0; have h2 := hw.n0; have h3 := hw.s1; have h4 := hw.n1; have h5 := hw.c0
  unfold appendP at hP
  split at hP
  · cases hP
    have hl := spl_length (rowB m a) (s + n).toNat l (by omega)
    exact putRow_memB hm (by rw [hl]; exact hw.r0) (by rw [hl]; exact hw.r1)
  · split at hP
    · cases hP
    · rename_i h6 hb
      cases hP
      have hb1 : ¬ n + (l.length : Int) > 64 := fun h => hb (.inl h)
      have hb2 : ¬ (m.length : Int) = 16 := fun h => hb (.inr h)
      have hN := room_eq (c := cp) hb1 h2
      have hm16 := memB_len hm
      refine memB_of (by simp; omega) (fun x hx => ?_)
      rcases List.mem_append.1 hx with hx | hx
      · exact memB_rows hm x hx
      · rw [List.mem_singleton] at hx
        subst hx
        rw [growRow_length h1 h2 (by omega) (by omega)]
        omega
theorem append_seen {m M : List (List Int)} {a s n cp x0 x1 x2 x3 : Int} {l : List Int} (hw : WinOk m a s n cp) (hP : appendP m a s n cp l = (M, x0, x1, x2, x3, true)) : ((rowB M x0).drop x1.toNat).take n.toNat = ((rowB m a).drop s.toNat).take n.toNat := by
  have h1 := hw.s0; have h2 := hw.n0; have h3 := hw.s1; have h4 := hw.n1; have h5 := hw.a0; have h6 := hw.a1
  unfold appendP at hP
  split at hP
  · cases hP
    rw [rowB_put h5 h6]
    unfold spl
    rw [List.drop_append_of_le_length (by rw [List.length_take]; omega), List.take_append_of_le_length (by rw [List.length_drop, List.length_take]; omega), List.drop_take, List.take_take]
    congr 1
    omega
  · split at hP
    · cases hP
    · rename_i h7 hb
      cases hP
      have hb1 : ¬ n + (l.length : Int) > 64 := fun h => hb (.inl h)
      have hN := room_eq (c := cp) hb1 h2
      have hr : rowB (m ++ [growRow (rowB m a) s n (roomP n cp l).toNat l]) (m.length : Int) = growRow (rowB m a) s n (roomP n cp l).toNat l := by
        unfold rowB
        rw [Int.toNat_natCast, List.getD_eq_getElem?_getD, List.getElem?_append_right (Nat.le_refl _)]
        simp
      have hl : (((rowB m a).drop s.toNat).take n.toNat).length = n.toNat := by rw [List.length_take, List.length_drop]; omega
      rw [hr, growRow_eq h1 h2 (by omega) (by omega), show (0 : Int).toNat = 0 from rfl, List.drop_zero, List.append_assoc, List.take_append_of_le_length (by omega), List.take_of_length_le (by omega)]
theorem wide_eq {m M : List (List Int)} {a s n cp x0 x1 x2 x3 t k : Int} (hw : WinOk m a s n cp) (ht : 0 ≤ t) (htn : t ≤ n) (hk : 0 ≤ k) (hP : appendP m a s n cp (List.replicate k.toNat (0 : Int)) = (M, x0, x1, x2, x3, true)) :
    wideRow (rowB M x0) x1 n x2 t k = spl (rowB M x0) (x1.toNat + (t + k).toNat) ((seeB m a s n).drop t.toNat) := by
  have h2 := hw.n0
  have hx2 := appendP_n hP
  rw [List.length_replicate] at hx2
  have hs := append_seen hw hP
  unfold wideRow seeB
  rw [← hs, List.drop_take, List.drop_drop, List.take_take]
  congr 2
  omega
theorem widenP_true {m : List (List Int)} {a s n c f t k : Int} (hw : WinOk m a s n c) (hk : 0 ≤ k) (h : (widenP m a s n c f t k).2.2.2.2.2.2.2 = true) : k ≤ 64 ∧ ∃ M x0 x1 x2 x3, appendP m a s n c (List.replicate k.toNat (0 : Int)) = (M, x0, x1, x2, x3, true) ∧ widenP m a s n c f t k = (putRow M x0 (wideRow (rowB M x0) x1 n x2 t k), x0, x1, x2, x3, f, t + k, true) := by
  by_cases h64 : k > 64
  · unfold widenP at h
    rw [if_pos h64] at h
    cases h
  · obtain ⟨M, x0, x1, x2, x3, b, hA⟩ : ∃ M x0 x1 x2 x3 b, appendP m a s n c (List.replicate k.toNat (0 : Int)) = (M, x0, x1, x2, x3, b) := ⟨_, _, _, _, _, _, rfl⟩
    cases b
    · unfold widenP at h
      rw [if_neg h64, hA] at h
      cases h
    · exact ⟨by omega, M, x0, x1, x2, x3, hA, by unfold widenP; rw [if_neg h64, hA]⟩
theorem widenP_false {m : List (List Int)} {a s n c f t k : Int} (h : (widenP m a s n c f t k).2.2.2.2.2.2.2 = false) : k > 64 ∨ ∃ M x0 x1 x2 x3, appendP m a s n c (List.replicate k.toNat (0 : Int)) = (M, x0, x1, x2, x3, false) := by
  by_cases h64 : k > 64
  · exact .inl h64
  · obtain ⟨M, x0, x1, x2, x3, b, hA⟩ : ∃ M x0 x1 x2 x3 b, appendP m a s n c (List.replicate k.toNat (0 : Int)) = (M, x0, x1, x2, x3, b) := ⟨_, _, _, _, _, _, rfl⟩
    cases b
    · exact .inr ⟨M, x0, x1, x2, x3, hA⟩
    · unfold widenP at h
      rw [if_neg h64, hA] at h
      cases h
theorem widenP_memB {m : List (List Int)} {a s n c f t k : Int} (hm : memB m = true) (hw : WinOk m a s n c) (ht : 0 ≤ t) (htn : t ≤ n) (hk : 0 ≤ k) (h : (widenP m a s n c f t k).2.2.2.2.2.2.2 = true) : memB (widenP m a s n c f t k).1 = true := by
  obtain ⟨h64, M, x0, x1, x2, x3, hA, hW⟩ := widenP_true hw hk h
  rw [hW]
  have hM := appendP_memB hm hw hA
  have hw2 := appendP_ok hw hA
  have hx2 := appendP_n hA
  rw [List.length_replicate] at hx2
  have g1 := hw2.s0; have g2 := hw2.s1; have g3 := hw2.n0; have g4 := hw2.n1
  have hl : (wideRow (rowB M x0) x1 n x2 t k).length = (rowB M x0).length := spl_length _ _ _ (by simp only [List.length_take, List.length_drop]; omega)
  exact putRow_memB hM (by rw [hl]; exact hw2.r0) (by rw [hl]; exact hw2.r1)
theorem widenF_ok {m : List (List Int)} {a s n c f t k : Int} (hm : memB m = true) (hw : WinOk m a s n c) (ht : 0 ≤ t) (htn : t ≤ n) (hk : 0 ≤ k) : okM (widenF m a s n c f t k).1 := by
  unfold widenF
  split
  · rename_i h
    exact memB_ok (widenP_memB hm hw ht htn hk h)
  · exact okM_nil
def spec_l6Widen.f (m : List (List Int)) (a s n c f t k : Int) : Option (List (List Int) × Int × Int × Int × Int × Int × Int × Bool) := if (gapB m a s n c f t && decide (0 ≤ k)) = true then some (widenF m a s n c f t k) else none
theorem spec_l6Widen.calls (A0_0 : Option Addr) (c0_0 : Nat) (l0_0 : List (List Int)) (a0_1 a0_2 a0_3 a0_4 a0_5 a0_6 a1_0 : Int) (r1 : List (List Int)) (r2 r3 r4 r5 r6 r7 : Int) (r8 : Bool) (w : World) (hr0_0 : Kd.C (Kd.slice 5 (Kd.int .u8)) w A0_0 l0_0.length l0_0) (hc0_0 : l0_0.length ≤ c0_0) (h : spec_l6Widen.f l0_0 a0_1 a0_2 a0_3 a0_4 a0_5 a0_6 a1_0 = some (r1, r2, r3, r4, r5, r6, r7, r8)) :
    Calls Try.prog 123 #[.agg #[.slice A0_0 l0_0.length c0_0, .int .i64 a0_1, .int .i64 a0_2, .int .i64 a0_3, .int .i64 a0_4, .int .i64 a0_5, .int .i64 a0_6], .int .i64 a1_0] w fun e w' => ∃ v0_ : Value, e = .returned (.tuple #[.agg #[v0_, .int .i64 r2, .int .i64 r3, .int .i64 r4, .int .i64 r5, .int .i64 r6, .int .i64 r7], .bool r8]) ∧ Kd.S (Kd.slice 5 (Kd.int .u8)) 119 w' w.heap.size (fun _ => True) v0_ r1 ∧ Below w.heap.size w w' := by
  unfold spec_l6Widen.f at h
  split at h
  next hh =>
    simp only [Bool.and_eq_true, decide_eq_true_eq] at hh
    obtain ⟨hg, hk⟩ := hh
    unfold gapB at hg
    simp only [Bool.and_eq_true, decide_eq_true_eq] at hg
    obtain ⟨⟨hm, hwb⟩, ⟨ht0, htn⟩, hf, hft⟩ := hg
    have hw := WinOk.of hm hwb
    have hok := memB_ok hm
    have h := Option.some.inj h
    unfold widenF at h
    have g1 := hw.n1; have g2 := hw.c1; have g3 := hw.n0
    cases hb : (widenP l0_0 a0_1 a0_2 a0_3 a0_4 a0_5 a0_6 a1_0).2.2.2.2.2.2.2 with
    | false =>
      rw [hb, if_neg (by simp)] at h
      cases h
      by_cases h64 : a1_0 > 64
      · exact spec_l6Widen_w0 A0_0 c0_0 l0_0 a0_1 a0_2 a0_3 a0_4 a0_5 a0_6 a1_0 w hr0_0 hc0_0 (decide_eq_true h64)
      · obtain ⟨M, x0, x1, x2, x3, hA⟩ := (widenP_false hb).resolve_left h64
        have hl := (l2Append_f l0_0 a0_1 a0_2 a0_3 a0_4 (List.replicate a1_0.toNat (0 : Int)) hok hw (by rw [List.length_replicate]; omega)).rounds
        unfold appendF at hl
        rw [hA, if_neg (by simp)] at hl
        exact spec_l6Widen_w1 A0_0 c0_0 l0_0 a0_1 a0_2 a0_3 a0_4 a0_5 a0_6 a1_0 _ _ _ _ _ w hr0_0 hc0_0 hl (decide_eq_false h64) hk (by omega)
    | true =>
      rw [hb, if_pos rfl] at h
      obtain ⟨h64, M, x0, x1, x2, x3, hA, hW⟩ := widenP_true hw hk hb
      rw [hW, wide_eq hw ht0 htn hk hA] at h
      have hl := (l2Append_f l0_0 a0_1 a0_2 a0_3 a0_4 (List.replicate a1_0.toNat (0 : Int)) hok hw (by rw [List.length_replicate]; omega)).rounds
      unfold appendF at hl
      rw [hA, if_pos rfl] at hl
      have hw2 := appendP_ok hw hA
      have hM := appendP_memB hm hw hA
      have hx2 := appendP_n hA
      rw [List.length_replicate] at hx2
      have g4 := hw2.n1
      have hsl := seeB_length hw
      have hwr := (l2Write_f M x0 x1 x2 x3 (a0_6 + a1_0) ((seeB l0_0 a0_1 a0_2 a0_3).drop a0_6.toNat) (memB_ok hM) hw2 (by omega) (by rw [List.length_drop]; omega)).rounds
      cases h
      exact spec_l6Widen_w2 A0_0 c0_0 l0_0 a0_1 a0_2 a0_3 a0_4 a0_5 a0_6 a1_0 _ _ _ _ _ _ _ w hr0_0 hc0_0 hl (l2Bytes_f hw).rounds hwr (decide_eq_false (by omega)) hk h64 ht0 (by omega) (by omega)
  next => cases h
end Go.Proofs.Ytoomjghabiojkaa.P


