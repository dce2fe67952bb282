/- Part 5 of the proof of the law FnExactFlattenRope: contracts of the functions that it reaches. -/
import Derived.Test.YtoomjghabiojkaaQFnExactFlattenRope4
/- Equality and validity of lists of windows. -/
namespace Go.Proofs.Ytoomjghabiojkaa.P
open Go.RowKit Go.Proofs.YtoomjghabiojkaaW.PrintWords
set_option linter.unusedVariables false
theorem eqWindowS_ev (suf : List SimplWindow) : ∀ (pre : List SimplWindow), pre.length + suf.length ≤ 9223372036854775807 → Ev (fun k => laws_eqWindowS.l0 k (pre ++ suf) (pre ++ suf) (pre.length : Int)) true := by
  induction suf with
  | nil =>
    intro pre h2
    refine Ev.step (fun k => ?_) (Ev.now _)
    simp [laws_eqWindowS.l0]
  | cons x suf ih =>
    intro pre h2
    simp only [List.length_cons] at h2
    refine Ev.step (f := fun k => laws_eqWindowS.l0 k ((pre ++ [x]) ++ suf) ((pre ++ [x]) ++ suf) ((pre ++ [x]).length : Int)) (fun k => ?_) (ih (pre ++ [x]) (by simp; omega))
    simp only [laws_eqWindowS.l0]
    rw [if_pos (by simp; omega), if_pos (by omega), if_pos (by simp; omega), eqWindow_f, Option.bind_some, if_pos rfl, wrap_len (by omega)]
    simp
theorem eqWindowS_f (l : List SimplWindow) (h : l.length ≤ 9223372036854775807) : Ev (fun k => laws_eqWindowS.f k l l) true := by
  refine Ev.congr (fun k => ?_) (eqWindowS_ev l [] (by simpa using h))
  unfold laws_eqWindowS.f
  rw [if_pos rfl]
  rfl
end Go.Proofs.Ytoomjghabiojkaa.P


/- spec.l3Watched: a memory is valid and has all windows of a list, which is not too long. -/
namespace Go.Proofs.Ytoomjghabiojkaa.P
open Go.RowKit Go.Proofs.YtoomjghabiojkaaW.PrintWords
set_option linter.unusedVariables false
def wfW (x : SimplWindow) : Prop := (-9223372036854775808 ≤ x.f0 ∧ x.f0 ≤ 9223372036854775807) ∧ (-9223372036854775808 ≤ x.f1 ∧ x.f1 ≤ 9223372036854775807) ∧ (-9223372036854775808 ≤ x.f2 ∧ x.f2 ≤ 9223372036854775807) ∧ (-9223372036854775808 ≤ x.f3 ∧ x.f3 ≤ 9223372036854775807)
end Go.Proofs.Ytoomjghabiojkaa.P


namespace Go.Proofs.Ytoomjghabiojkaa.P
open Go.RowKit Go.Proofs.YtoomjghabiojkaaW.PrintWords Go.Proofs.YtoomjghabiojkaaW.PrintLast Go.Proofs.YtoomjghabiojkaaW.PrintMore
attribute [local go_sem] max2_int min2_int max_two min_two max_three min_three max_four min_four   -- for this text's walks alone
set_option linter.unusedVariables false
set_option linter.unusedSimpArgs false

def spec_l2New.f (k : Nat) (l0_0 : List (List Int)) (l1 : List Int) (a2 : Int) : Option ((List (List Int)) × Int × Int × Int × Int) := (spec_l2Own.f k l0_0).bind fun t1223 => ((some (([] : List Int) : List Int)).bind fun y1227 => (if y1227.length + l1.length < 140737488355328 then (if t1223.length < 5864062014805 then (some ((t1223 ++ [(y1227 ++ l1)]), (l0_0.length : Int), 0, a2, (l1.length : Int))) else (none)) else (none)))
def spec_l2New.T2 : Bool × List (List Nat × List Nat) := (true, [([], []), ([0], [0]), ([], []), ([], []), ([2, 3], [2, 3]), ([4], [4]), ([1, 5, 4], [1, 5]), ([0, 1, 2, 3, 4, 5, 6], []), ([7, 6, 6, 0, 1, 2, 3, 4, 5, 6], [6, 7])])
def spec_l2New.B2 : List Nat := [0, 1, 0, 0, 12, 28, 63, 127, 255]
theorem spec_l2New.tab2 : rtab .any (opsOf Try.f153 2) = spec_l2New.T2 := by kernel_rfl
theorem spec_l2New.bits2 : waitsOk spec_l2New.T2.2 spec_l2New.B2 = true := by kernel_rfl
def spec_l2New.T3 : Bool × List (List Nat × List Nat) := (true, [([], []), ([], []), ([1], [1]), ([2], [2]), ([], []), ([], []), ([5], [5]), ([3, 4, 6], [3, 4, 6]), ([0, 0], [0]), ([7, 8, 0, 1, 2, 3, 4, 5, 6, 7, 8], [7])])
def spec_l2New.B3 : List Nat := [0, 0, 2, 6, 0, 0, 32, 126, 1, 511]
theorem spec_l2New.tab3 : rtab .any (opsOf Try.f153 3) = spec_l2New.T3 := by kernel_rfl
theorem spec_l2New.bits3 : waitsOk spec_l2New.T3.2 spec_l2New.B3 = true := by kernel_rfl
set_option maxHeartbeats 8000000 in
set_option maxRecDepth 100000 in
theorem spec_l2New.calls (k : Nat) (A0_0 : Option Addr) (c0_0 : Nat) (l0_0 : List (List Int)) (A1 : Option Addr) (c1 : Nat) (l1 : List Int) (a2 : Int) (r1 : List (List Int)) (r2 : Int) (r3 : Int) (r4 : Int) (r5 : Int) (w : World) (hr0_0 : Kd.C (Kd.slice 5 (Kd.int .u8)) w A0_0 l0_0.length l0_0) (hc0_0 : l0_0.length ≤ c0_0) (hr1 : Kd.C (Kd.int .u8) w A1 l1.length l1) (hc1 : l1.length ≤ c1) (h : spec_l2New.f k l0_0 l1 a2 = some (r1, r2, r3, r4, r5)) :
    Calls Try.prog 153 #[.agg #[.slice A0_0 l0_0.length c0_0], .slice A1 l1.length c1, .int .i64 a2] w fun e w' => ∃ v0_ : Value, e = .returned (.tuple #[.agg #[v0_], .agg #[.int .i64 r2, .int .i64 r3, .int .i64 r4, .int .i64 r5]]) ∧ Kd.S (Kd.slice 5 (Kd.int .u8)) 119 w' w.heap.size (fun _ => True) v0_ r1 ∧ Below w.heap.size w w' := by
  have hu26 := Try.underlying26
  have hu48 := Try.underlying48
  have HR0_0 := Aside0.mk hr0_0
  have HC0_0 := Aside0.mk hc0_0
  clear hr0_0 hc0_0
  have HR1 := Aside0.mk hr1
  have HC1 := Aside0.mk hc1
  clear hr1 hc1
  have HB := Aside0.mk (Below.refl w.heap.size w)
  have H : ((spec_l2Own.f k l0_0).bind fun t1223 => ((some (([] : List Int) : List Int)).bind fun y1227 => (if y1227.length + l1.length < 140737488355328 then (if t1223.length < 5864062014805 then (some ((t1223 ++ [(y1227 ++ l1)]), (l0_0.length : Int), 0, a2, (l1.length : Int))) else (none)) else (none)))) = some (r1, r2, r3, r4, r5) := h
  clear h
  replace H := Option.bind_eq_some_iff.mp H
  obtain ⟨t1223, A40, H⟩ := H
  replace H : ((some (([] : List Int) : List Int)).bind fun y1227 => (if y1227.length + l1.length < 140737488355328 then (if t1223.length < 5864062014805 then (some ((t1223 ++ [(y1227 ++ l1)]), (l0_0.length : Int), 0, a2, (l1.length : Int))) else (none)) else (none))) = some (r1, r2, r3, r4, r5) := H
  have A4 := Aside0.mk A40
  clear A40
  obtain ⟨y1227, hy1227⟩ : ∃ y_ : List Int, y_ = (([] : List Int)) := ⟨_, rfl⟩
  replace H : (if y1227.length + l1.length < 140737488355328 then (if t1223.length < 5864062014805 then (some ((t1223 ++ [(y1227 ++ l1)]), (l0_0.length : Int), 0, a2, (l1.length : Int))) else (none)) else (none)) = some (r1, r2, r3, r4, r5) := by first | (rw [hy1227]; with_reducible exact H) | (have H2_ := (Option.bind_some _ _).symm.trans H; rw [hy1227]; with_reducible exact H2_) | (have H2_ := (Option.bind_some _ _).symm.trans H; with_reducible exact H2_) | with_reducible exact H | (rw [hy1227]; exact H) | exact H
  have Ny1227 := Aside0.mk hy1227
  clear hy1227
  by_cases c5 : y1227.length + l1.length < 140737488355328
  · rw [if_pos c5] at H
    have LMc5 := Aside0.mk c5
    clear c5
    obtain ⟨y1230, hy1230⟩ : ∃ y_ : List Int, y_ = (y1227 ++ l1) := ⟨_, rfl⟩
    replace H : (if t1223.length < 5864062014805 then (some ((t1223 ++ [y1230]), (l0_0.length : Int), 0, a2, (l1.length : Int))) else (none)) = some (r1, r2, r3, r4, r5) := by first | (rw [hy1230]; with_reducible exact H) | (have H2_ := (Option.bind_some _ _).symm.trans H; rw [hy1230]; with_reducible exact H2_) | (have H2_ := (Option.bind_some _ _).symm.trans H; with_reducible exact H2_) | with_reducible exact H | (rw [hy1230]; exact H) | exact H
    have Ny1230 := Aside0.mk hy1230
    clear hy1230
    by_cases c6 : t1223.length < 5864062014805
    · rw [if_pos c6] at H
      have LMc6 := Aside0.mk c6
      clear c6
      obtain ⟨y1233, hy1233⟩ : ∃ y_ : List (List Int), y_ = (t1223 ++ [y1230]) := ⟨_, rfl⟩
      replace H : (some (y1233, (l0_0.length : Int), 0, a2, (l1.length : Int))) = some (r1, r2, r3, r4, r5) := by first | (rw [hy1233]; with_reducible exact H) | (have H2_ := (Option.bind_some _ _).symm.trans H; rw [hy1233]; with_reducible exact H2_) | (have H2_ := (Option.bind_some _ _).symm.trans H; with_reducible exact H2_) | with_reducible exact H | (rw [hy1233]; exact H) | exact H
      have Ny1233 := Aside0.mk hy1233
      clear hy1233
      simp only [Option.some.injEq, Prod.mk.injEq] at H
      obtain ⟨rfl, rfl, rfl, rfl, rfl⟩ := H
      go_enter Try.func153, Try.ntmps153
      try go_wp2_with (first | ((with_reducible refine gate_dst (N := 3) rfl ?_); refine box_event ?hg (N := 3) ?hd (cs := #[.slice A0_0 l0_0.length c0_0]) (t := 26) ?hr ?_; (case hd => rfl); (case hg => rfl); (case hr => first | (go_simp; done) | (go_simp; rfl)); intro gb1220 hg w7 hbox hb; have n0_ := Aside0.mk (below_step (by repeat (first | (with_reducible first | exact HB.out | apply below_alloc | apply pw_below_drewN | apply below_drew1) | exact HB.out)) hb); have n1_ := Aside0.mk (hbox); have n2_ := Aside0.mk ((by rw [hg]; exact (below_size (by repeat (first | (with_reducible first | exact HB.out | apply below_alloc | apply pw_below_drewN | apply below_drew1) | exact HB.out))) : w.heap.size ≤ gb1220)); have n3_ := Aside0.mk ((by rw [hg]; exact (below_size (by repeat (first | (with_reducible first | exact HB.out | apply below_alloc | apply pw_below_drewN | apply below_drew1) | exact HB.out))) : w.heap.size ≤ gb1220)); clear HB; have HB := n0_; have BK1220 := n1_; have GW1220 := n2_; have GE1220 := n3_; clear n0_ n1_ n2_ n3_; clear hb hbox hg) | ((with_reducible refine gate_dst (N := 6) rfl ?_); refine box_event ?hg (N := 6) ?hd (cs := #[.slice none 0 0]) (t := 26) ?hr ?_; (case hd => rfl); (case hg => rfl); (case hr => first | (go_simp; done) | (go_simp; rfl)); intro gb1221 hg w8 hbox hb; have n0_ := Aside0.mk (blk_below (g := gb1220) (o := .cells #[.slice A0_0 l0_0.length c0_0] 26 (0, 0)) (by (with_reducible repeat (first | refine blk_drewN ?_ _ | refine blk_drew ?_ | refine blk_alloc ?_ _)); exact BK1220.out) hb); have n1_ := Aside0.mk (below_step (by repeat (first | (with_reducible first | exact HB.out | apply below_alloc | apply pw_below_drewN | apply below_drew1 | refine below_set ?_ GE1220.out) | exact HB.out)) hb); have n2_ := Aside0.mk (hbox); have n3_ := Aside0.mk ((by rw [hg]; exact (below_size (by repeat (first | (with_reducible first | exact HB.out | apply below_alloc | apply pw_below_drewN | apply below_drew1 | refine below_set ?_ GE1220.out) | exact HB.out))) : w.heap.size ≤ gb1221)); have n4_ := Aside0.mk ((by rw [hg]; exact (below_size (by repeat (first | (with_reducible first | exact HB.out | apply below_alloc | apply pw_below_drewN | apply below_drew1 | refine below_set ?_ GE1220.out) | exact HB.out))) : w.heap.size ≤ gb1221)); have n5_ := Aside0.mk ((by rw [hg]; exact Nat.ne_of_lt (blk_lt (g := gb1220) (o := .cells #[.slice A0_0 l0_0.length c0_0] 26 (0, 0)) (by (with_reducible repeat (first | refine blk_drewN ?_ _ | refine blk_drew ?_ | refine blk_alloc ?_ _)); exact BK1220.out)) : gb1220 ≠ gb1221)); have n6_ := Aside0.mk ((by rw [hg]; exact Nat.ne_of_gt (blk_lt (g := gb1220) (o := .cells #[.slice A0_0 l0_0.length c0_0] 26 (0, 0)) (by (with_reducible repeat (first | refine blk_drewN ?_ _ | refine blk_drew ?_ | refine blk_alloc ?_ _)); exact BK1220.out)) : gb1221 ≠ gb1220)); clear BK1220; clear HB; have BK1220 := n0_; have HB := n1_; have BK1221 := n2_; have GW1221 := n3_; have GE1221 := n4_; have NB1220_1221 := n5_; have NB1221_1220 := n6_; clear n0_ n1_ n2_ n3_ n4_ n5_ n6_; clear hb hbox hg) | ((with_reducible refine gate_dst (N := 7) rfl ?_); refine box_event ?hg (N := 7) ?hd (cs := #[.int .i64 0, .int .i64 0, .int .i64 0, .int .i64 0]) (t := 48) ?hr ?_; (case hd => rfl); (case hg => rfl); (case hr => first | (go_simp; done) | (go_simp; rfl)); intro gb1222 hg w9 hbox hb; have n0_ := Aside0.mk (blk_below (g := gb1220) (o := .cells #[.slice A0_0 l0_0.length c0_0] 26 (0, 0)) (by (with_reducible repeat (first | refine blk_drewN ?_ _ | refine blk_drew ?_ | refine blk_alloc ?_ _)); exact BK1220.out) hb); have n1_ := Aside0.mk (blk_below (g := gb1221) (o := .cells #[.slice none 0 0] 26 (0, 0)) (by (with_reducible repeat (first | refine blk_drewN ?_ _ | refine blk_drew ?_ | refine blk_alloc ?_ _)); exact BK1221.out) hb); have n2_ := Aside0.mk (below_step (by repeat (first | (with_reducible first | exact HB.out | apply below_alloc | apply pw_below_drewN | apply below_drew1 | refine below_set ?_ GE1220.out | refine below_set ?_ GE1221.out) | exact HB.out)) hb); have n3_ := Aside0.mk (hbox); have n4_ := Aside0.mk ((by rw [hg]; exact (below_size (by repeat (first | (with_reducible first | exact HB.out | apply below_alloc | apply pw_below_drewN | apply below_drew1 | refine below_set ?_ GE1220.out | refine below_set ?_ GE1221.out) | exact HB.out))) : w.heap.size ≤ gb1222)); have n5_ := Aside0.mk ((by rw [hg]; exact (below_size (by repeat (first | (with_reducible first | exact HB.out | apply below_alloc | apply pw_below_drewN | apply below_drew1 | refine below_set ?_ GE1220.out | refine below_set ?_ GE1221.out) | exact HB.out))) : w.heap.size ≤ gb1222)); have n6_ := Aside0.mk ((by rw [hg]; exact Nat.ne_of_lt (blk_lt (g := gb1220) (o := .cells #[.slice A0_0 l0_0.length c0_0] 26 (0, 0)) (by (with_reducible repeat (first | refine blk_drewN ?_ _ | refine blk_drew ?_ | refine blk_alloc ?_ _)); exact BK1220.out)) : gb1220 ≠ gb1222)); have n7_ := Aside0.mk ((by rw [hg]; exact Nat.ne_of_gt (blk_lt (g := gb1220) (o := .cells #[.slice A0_0 l0_0.length c0_0] 26 (0, 0)) (by (with_reducible repeat (first | refine blk_drewN ?_ _ | refine blk_drew ?_ | refine blk_alloc ?_ _)); exact BK1220.out)) : gb1222 ≠ gb1220)); have n8_ := Aside0.mk ((by rw [hg]; exact Nat.ne_of_lt (blk_lt (g := gb1221) (o := .cells #[.slice none 0 0] 26 (0, 0)) (by (with_reducible repeat (first | refine blk_drewN ?_ _ | refine blk_drew ?_ | refine blk_alloc ?_ _)); exact BK1221.out)) : gb1221 ≠ gb1222)); have n9_ := Aside0.mk ((by rw [hg]; exact Nat.ne_of_gt (blk_lt (g := gb1221) (o := .cells #[.slice none 0 0] 26 (0, 0)) (by (with_reducible repeat (first | refine blk_drewN ?_ _ | refine blk_drew ?_ | refine blk_alloc ?_ _)); exact BK1221.out)) : gb1222 ≠ gb1221)); clear BK1220; clear BK1221; clear HB; have BK1220 := n0_; have BK1221 := n1_; have HB := n2_; have BK1222 := n3_; have GW1222 := n4_; have GE1222 := n5_; have NB1220_1222 := n6_; have NB1222_1220 := n7_; have NB1221_1222 := n8_; have NB1222_1221 := n9_; clear n0_ n1_ n2_ n3_ n4_ n5_ n6_ n7_ n8_ n9_; clear hb hbox hg; have hnb10 := NB1220_1221.out; have hnc10 := NB1221_1220.out; have hnb11 := NB1220_1222.out; have hnc11 := NB1222_1220.out; have hcz12_0 : w9.cell? ⟨gb1220, 0, none⟩ = some (.slice A0_0 l0_0.length c0_0) := (blk_cell BK1220.out 0).trans rfl; have hfz12_0 := blk_frozen BK1220.out 0) | ((with_reducible refine gate_callee (f := 89) rfl ?_); refine goesL_ (some 10) rfl rfl Try.func89 (by kernel_rfl) rfl #[.agg #[.slice A0_0 l0_0.length c0_0]] rfl (by (try simp only [List.map_toArray, List.map_cons, List.map_nil]); first | done | rfl | (simp only [List.length_drop, List.length_take]; rfl)) ?_; (with_reducible refine (spec_l2Own.calls k _ _ l0_0 t1223 _ ?side1 ?side2 A4.out).mono ?_); (case side1 => repeat (first | exact (Kd.C_below HR0_0.out HB.out) | (with_reducible refine Kd.C_alloc ?_ _) | (with_reducible refine Kd.C_drewN ?_ _) | (with_reducible refine Kd.C_drew ?_))); (case side2 => exact HC0_0.out); rintro e w13 ⟨v1224, rfl, ho0, hb⟩; refine ⟨_, rfl, ?_⟩; have n0_ := Aside0.mk (Kd.S_lower ho0 (below_size (by repeat (first | (with_reducible first | exact HB.out | apply below_alloc | apply pw_below_drewN | apply below_drew1 | refine below_set ?_ GE1220.out | refine below_set ?_ GE1221.out | refine below_set ?_ GE1222.out) | exact HB.out)))); have n1_ := Aside0.mk (blk_below (g := gb1220) (o := .cells #[.slice A0_0 l0_0.length c0_0] 26 (0, 0)) (by (with_reducible repeat (first | refine blk_drewN ?_ _ | refine blk_drew ?_ | refine blk_alloc ?_ _)); exact BK1220.out) hb); have n2_ := Aside0.mk (blk_below (g := gb1221) (o := .cells #[.slice none 0 0] 26 (0, 0)) (by (with_reducible repeat (first | refine blk_drewN ?_ _ | refine blk_drew ?_ | refine blk_alloc ?_ _)); exact BK1221.out) hb); have n3_ := Aside0.mk (blk_below (g := gb1222) (o := .cells #[.int .i64 0, .int .i64 0, .int .i64 0, .int .i64 0] 48 (0, 0)) (by (with_reducible repeat (first | refine blk_drewN ?_ _ | refine blk_drew ?_ | refine blk_alloc ?_ _)); exact BK1222.out) hb); have n4_ := Aside0.mk (below_step (by repeat (first | (with_reducible first | exact HB.out | apply below_alloc | apply pw_below_drewN | apply below_drew1 | refine below_set ?_ GE1220.out | refine below_set ?_ GE1221.out | refine below_set ?_ GE1222.out) | exact HB.out)) hb); clear BK1220; clear BK1221; clear BK1222; clear HB; have HO1225 := n0_; have BK1220 := n1_; have BK1221 := n2_; have BK1222 := n3_; have HB := n4_; clear n0_ n1_ n2_ n3_ n4_; (try clear hb); (try clear hb2); (try clear hk); (try clear hi); (try clear ho0)) | ((with_reducible refine gate_dst (N := 8) rfl ?_); refine box_event ?hg (N := 8) ?hd (cs := #[.slice none 0 0]) (t := 26) ?hr ?_; (case hd => rfl); (case hg => rfl); (case hr => first | (go_simp; done) | (go_simp; rfl)); intro gb1226 hg w14 hbox hb; have n0_ := Aside0.mk (Kd.S_below (by (with_reducible repeat (first | apply Kd.S_alloc | apply Kd.S_drewN | apply Kd.S_drew)); exact HO1225.out) hb); have n1_ := Aside0.mk (blk_below (g := gb1220) (o := .cells #[.slice A0_0 l0_0.length c0_0] 26 (0, 0)) (by (with_reducible repeat (first | refine blk_drewN ?_ _ | refine blk_drew ?_ | refine blk_alloc ?_ _)); exact BK1220.out) hb); have n2_ := Aside0.mk (blk_below (g := gb1221) (o := .cells #[.slice none 0 0] 26 (0, 0)) (by (with_reducible repeat (first | refine blk_drewN ?_ _ | refine blk_drew ?_ | refine blk_alloc ?_ _)); exact BK1221.out) hb); have n3_ := Aside0.mk (blk_below (g := gb1222) (o := .cells #[.int .i64 0, .int .i64 0, .int .i64 0, .int .i64 0] 48 (0, 0)) (by (with_reducible repeat (first | refine blk_drewN ?_ _ | refine blk_drew ?_ | refine blk_alloc ?_ _)); exact BK1222.out) hb); have n4_ := Aside0.mk (below_step (by repeat (first | (with_reducible first | exact HB.out | apply below_alloc | apply pw_below_drewN | apply below_drew1 | refine below_set ?_ GE1220.out | refine below_set ?_ GE1221.out | refine below_set ?_ GE1222.out) | exact HB.out)) hb); have n5_ := Aside0.mk (hbox); have n6_ := Aside0.mk ((by rw [hg]; exact (below_size (by repeat (first | (with_reducible first | exact HB.out | apply below_alloc | apply pw_below_drewN | apply below_drew1 | refine below_set ?_ GE1220.out | refine below_set ?_ GE1221.out | refine below_set ?_ GE1222.out) | exact HB.out))) : w.heap.size ≤ gb1226)); have n7_ := Aside0.mk ((by rw [hg]; exact (below_size (by repeat (first | (with_reducible first | exact HB.out | apply below_alloc | apply pw_below_drewN | apply below_drew1 | refine below_set ?_ GE1220.out | refine below_set ?_ GE1221.out | refine below_set ?_ GE1222.out) | exact HB.out))) : w.heap.size ≤ gb1226)); have n8_ := Aside0.mk ((by rw [hg]; exact Nat.ne_of_lt (blk_lt (g := gb1220) (o := .cells #[.slice A0_0 l0_0.length c0_0] 26 (0, 0)) (by (with_reducible repeat (first | refine blk_drewN ?_ _ | refine blk_drew ?_ | refine blk_alloc ?_ _)); exact BK1220.out)) : gb1220 ≠ gb1226)); have n9_ := Aside0.mk ((by rw [hg]; exact Nat.ne_of_gt (blk_lt (g := gb1220) (o := .cells #[.slice A0_0 l0_0.length c0_0] 26 (0, 0)) (by (with_reducible repeat (first | refine blk_drewN ?_ _ | refine blk_drew ?_ | refine blk_alloc ?_ _)); exact BK1220.out)) : gb1226 ≠ gb1220)); have n10_ := Aside0.mk ((by rw [hg]; exact Nat.ne_of_lt (blk_lt (g := gb1221) (o := .cells #[.slice none 0 0] 26 (0, 0)) (by (with_reducible repeat (first | refine blk_drewN ?_ _ | refine blk_drew ?_ | refine blk_alloc ?_ _)); exact BK1221.out)) : gb1221 ≠ gb1226)); have n11_ := Aside0.mk ((by rw [hg]; exact Nat.ne_of_gt (blk_lt (g := gb1221) (o := .cells #[.slice none 0 0] 26 (0, 0)) (by (with_reducible repeat (first | refine blk_drewN ?_ _ | refine blk_drew ?_ | refine blk_alloc ?_ _)); exact BK1221.out)) : gb1226 ≠ gb1221)); have n12_ := Aside0.mk ((by rw [hg]; exact Nat.ne_of_lt (blk_lt (g := gb1222) (o := .cells #[.int .i64 0, .int .i64 0, .int .i64 0, .int .i64 0] 48 (0, 0)) (by (with_reducible repeat (first | refine blk_drewN ?_ _ | refine blk_drew ?_ | refine blk_alloc ?_ _)); exact BK1222.out)) : gb1222 ≠ gb1226)); have n13_ := Aside0.mk ((by rw [hg]; exact Nat.ne_of_gt (blk_lt (g := gb1222) (o := .cells #[.int .i64 0, .int .i64 0, .int .i64 0, .int .i64 0] 48 (0, 0)) (by (with_reducible repeat (first | refine blk_drewN ?_ _ | refine blk_drew ?_ | refine blk_alloc ?_ _)); exact BK1222.out)) : gb1226 ≠ gb1222)); clear HO1225; clear BK1220; clear BK1221; clear BK1222; clear HB; have HO1225 := n0_; have BK1220 := n1_; have BK1221 := n2_; have BK1222 := n3_; have HB := n4_; have BK1226 := n5_; have GW1226 := n6_; have GE1226 := n7_; have NB1220_1226 := n8_; have NB1226_1220 := n9_; have NB1221_1226 := n10_; have NB1226_1221 := n11_; have NB1222_1226 := n12_; have NB1226_1222 := n13_; clear n0_ n1_ n2_ n3_ n4_ n5_ n6_ n7_ n8_ n9_ n10_ n11_ n12_ n13_; clear hb hbox hg; obtain ⟨Ao15, co15, eo15⟩ := Kd.S_slice HO1225.out; subst eo15; have hnb16 := NB1226_1220.out; have hnc16 := NB1220_1226.out; have hnb17 := NB1226_1221.out; have hnc17 := NB1221_1226.out; have hnb18 := NB1226_1222.out; have hnc18 := NB1222_1226.out; have hcz19_0 : w14.cell? ⟨gb1226, 0, none⟩ = some (.slice none 0 0) := (blk_cell BK1226.out 0).trans rfl; have hfz19_0 := blk_frozen BK1226.out 0))
      have n0_ : Aside0 (Kd.S (Kd.slice 5 (Kd.int .u8)) 119 (w14.setCell ⟨gb1226, 0, none⟩ (.slice Ao15 t1223.length co15)) w.heap.size (fun _ => True) (.slice Ao15 t1223.length co15) t1223) := ⟨by (with_reducible repeat (first | apply Kd.S_alloc | apply Kd.S_drewN | apply Kd.S_drew)); exact Kd.S_mono (Kd.S_far (p := ⟨gb1226, 0, none⟩) (Kd.S_types HO1225.out BK1226.out (by decide)) (fun _ hk => hk.2) (.slice Ao15 t1223.length co15)) (fun _ hk => trivial)⟩
      have n1_ : Aside0 ((w14.setCell ⟨gb1226, 0, none⟩ (.slice Ao15 t1223.length co15)).heap[gb1220]? = some (.cells #[.slice A0_0 l0_0.length c0_0] 26 (0, 0))) := ⟨by (with_reducible repeat (first | refine blk_drewN ?_ _ | refine blk_drew ?_ | refine blk_alloc ?_ _)); refine blk_far ?_ NB1220_1226.out _; (with_reducible repeat (first | refine blk_drewN ?_ _ | refine blk_drew ?_ | refine blk_alloc ?_ _)); exact BK1220.out⟩
      have n2_ : Aside0 ((w14.setCell ⟨gb1226, 0, none⟩ (.slice Ao15 t1223.length co15)).heap[gb1221]? = some (.cells #[.slice none 0 0] 26 (0, 0))) := ⟨by (with_reducible repeat (first | refine blk_drewN ?_ _ | refine blk_drew ?_ | refine blk_alloc ?_ _)); refine blk_far ?_ NB1221_1226.out _; (with_reducible repeat (first | refine blk_drewN ?_ _ | refine blk_drew ?_ | refine blk_alloc ?_ _)); exact BK1221.out⟩
      have n3_ : Aside0 ((w14.setCell ⟨gb1226, 0, none⟩ (.slice Ao15 t1223.length co15)).heap[gb1222]? = some (.cells #[.int .i64 0, .int .i64 0, .int .i64 0, .int .i64 0] 48 (0, 0))) := ⟨by (with_reducible repeat (first | refine blk_drewN ?_ _ | refine blk_drew ?_ | refine blk_alloc ?_ _)); refine blk_far ?_ NB1222_1226.out _; (with_reducible repeat (first | refine blk_drewN ?_ _ | refine blk_drew ?_ | refine blk_alloc ?_ _)); exact BK1222.out⟩
      have n4_ : Aside0 ((w14.setCell ⟨gb1226, 0, none⟩ (.slice Ao15 t1223.length co15)).heap[gb1226]? = some (.cells #[.slice Ao15 t1223.length co15] 26 (0, 0))) := ⟨by (with_reducible repeat (first | refine blk_drewN ?_ _ | refine blk_drew ?_ | refine blk_alloc ?_ _)); refine blk_put (cs := #[.slice none 0 0]) ?_ 0 _ rfl; (with_reducible repeat (first | refine blk_drewN ?_ _ | refine blk_drew ?_ | refine blk_alloc ?_ _)); exact BK1226.out⟩
      have n5_ : Aside0 (Below w.heap.size w (w14.setCell ⟨gb1226, 0, none⟩ (.slice Ao15 t1223.length co15))) := ⟨by repeat (first | (with_reducible first | exact HB.out | apply below_alloc | apply pw_below_drewN | apply below_drew1 | refine below_set ?_ GE1220.out | refine below_set ?_ GE1221.out | refine below_set ?_ GE1222.out | refine below_set ?_ GE1226.out) | exact HB.out)⟩
      (try clear HO1225)
      (try clear BK1220)
      (try clear BK1221)
      (try clear BK1222)
      (try clear BK1226)
      (try clear HB)
      generalize (w14.setCell ⟨gb1226, 0, none⟩ (.slice Ao15 t1223.length co15)) = w20 at n0_ n1_ n2_ n3_ n4_ n5_ ⊢
      have HO1225 := n0_
      have BK1220 := n1_
      have BK1221 := n2_
      have BK1222 := n3_
      have BK1226 := n4_
      have HB := n5_
      clear n0_ n1_ n2_ n3_ n4_ n5_
      have n0_ := Aside0.mk (Kd.S_drew HO1225.out)
      have n1_ := Aside0.mk (blk_drew BK1220.out)
      have n2_ := Aside0.mk (blk_drew BK1221.out)
      have n3_ := Aside0.mk (blk_drew BK1222.out)
      have n4_ := Aside0.mk (blk_drew BK1226.out)
      have n5_ := Aside0.mk (below_drew1 HB.out)
      clear HO1225
      clear BK1220
      clear BK1221
      clear BK1222
      clear BK1226
      clear HB
      have HO1225 := n0_
      have BK1220 := n1_
      have BK1221 := n2_
      have BK1222 := n3_
      have BK1226 := n4_
      have HB := n5_
      clear n0_ n1_ n2_ n3_ n4_ n5_
      refine start_ (n := 9) (S := fun w' => w'.cell? ⟨gb1226, 0, none⟩ = some (.slice Ao15 t1223.length co15)) (ds := [8]) #[false, false, false, false, false, false, false, false, false] (by kernel_rfl) rfl rfl ((blk_cell BK1226.out 0).trans rfl) (fun hHeld => ?_); refine with_tabW spec_l2New.tab2 spec_l2New.bits2 (fun HT_ HW_ => ?_)
      generalize w20.drew = w21 at HO1225 BK1220 BK1221 BK1222 BK1226 HB hHeld ⊢
      refine pure_ (i := 0) (N := some 11) (v := ?_) (a' := ?_) #[true, false, false, false, false, false, false, false, false] rfl rfl (any_of HT_.out (by kernel_rfl)) (fun _ _ _ h => h) (Or.inl ⟨by rfl, ?_⟩) ?_ ?_
      rotate_left
      · intro w'
        go_simp
        with_reducible rfl
      rotate_left
      · simp only [Act.put, List.setIfInBounds_toArray, List.set_cons_zero, List.set_cons_succ, i64_w, i32_w]
        rfl
      refine pure_ (i := 3) (N := some 14) (v := ?_) (a' := ?_) #[true, false, false, true, false, false, false, false, false] rfl rfl (any_of HT_.out (by kernel_rfl)) (fun _ _ _ h => h) (Or.inl ⟨by rfl, ?_⟩) ?_ ?_
      rotate_left
      · intro w'
        go_simp
        with_reducible rfl
      rotate_left
      · simp only [Act.put, List.setIfInBounds_toArray, List.set_cons_zero, List.set_cons_succ, i64_w, i32_w]
        rfl
      refine take_ (i := 1) (N := some 12) (v := ?_) (a' := ?_) #[true, true, false, true, false, false, false, false, false] rfl rfl (take_ofW HT_.out HW_.out (by kernel_rfl)) (fun _ _ _ h => h) (Or.inl ⟨by rfl, ?_⟩) hHeld ?_ ?_
      rotate_left
      · intro w' s0
        go_simp
        with_reducible rfl
      rotate_left
      · simp only [Act.put, List.setIfInBounds_toArray, List.set_cons_zero, List.set_cons_succ, i64_w, i32_w]
        rfl
      refine one_ (i := 2) (N := some 13) #[true, true, true, true, false, false, false, false, false] rfl rfl (one_of HT_.out (by kernel_rfl)) (by decide) (fun K hK => ?_)
      refine Kd.R_lit_step (Kd.int .u8) _ 5 ?hg (N := 13) ?hd (xs := ([] : List Int)) (inner := []) (ok := fun _ => True) (okp := fun _ => True) ?hr ?hp (fun _ hk => hk) trivial (Below.refl _ _) (Nat.le_refl _) (by simp) ?_; (case hd => rfl); (case hg => rfl); (case hr => first | (go_simp; done) | (go_simp; rfl)); (case hp => exact (Reps.none _ _))
      intro v1228 w22 ho23 hb hg_ hnew_
      clear hg_ hnew_
      (first | rw [← Ny1227.out] at ho23 | (simp only [Int.reduceToNat] at ho23; rw [← Ny1227.out] at ho23))
      have n0_ := Aside0.mk (Kd.S_elder' (by (with_reducible repeat (first | apply Kd.S_alloc | apply Kd.S_drewN | apply Kd.S_drew)); exact HO1225.out) (Kd.R_base ho23) hb)
      have n1_ := Aside0.mk (Kd.R_lower ho23 (below_size (by repeat (first | (with_reducible first | exact HB.out | apply below_alloc | apply pw_below_drewN | apply below_drew1 | refine below_set ?_ GE1220.out | refine below_set ?_ GE1221.out | refine below_set ?_ GE1222.out | refine below_set ?_ GE1226.out) | exact HB.out))))
      have n2_ := Aside0.mk (blk_below (g := gb1220) (o := .cells #[.slice A0_0 l0_0.length c0_0] 26 (0, 0)) (by (with_reducible repeat (first | refine blk_drewN ?_ _ | refine blk_drew ?_ | refine blk_alloc ?_ _)); exact BK1220.out) hb)
      have n3_ := Aside0.mk (blk_below (g := gb1221) (o := .cells #[.slice none 0 0] 26 (0, 0)) (by (with_reducible repeat (first | refine blk_drewN ?_ _ | refine blk_drew ?_ | refine blk_alloc ?_ _)); exact BK1221.out) hb)
      have n4_ := Aside0.mk (blk_below (g := gb1222) (o := .cells #[.int .i64 0, .int .i64 0, .int .i64 0, .int .i64 0] 48 (0, 0)) (by (with_reducible repeat (first | refine blk_drewN ?_ _ | refine blk_drew ?_ | refine blk_alloc ?_ _)); exact BK1222.out) hb)
      have n5_ := Aside0.mk (blk_below (g := gb1226) (o := .cells #[.slice Ao15 t1223.length co15] 26 (0, 0)) (by (with_reducible repeat (first | refine blk_drewN ?_ _ | refine blk_drew ?_ | refine blk_alloc ?_ _)); exact BK1226.out) hb)
      have n6_ := Aside0.mk (below_step (by repeat (first | (with_reducible first | exact HB.out | apply below_alloc | apply pw_below_drewN | apply below_drew1 | refine below_set ?_ GE1220.out | refine below_set ?_ GE1221.out | refine below_set ?_ GE1222.out | refine below_set ?_ GE1226.out) | exact HB.out)) hb)
      clear HO1225
      clear BK1220
      clear BK1221
      clear BK1222
      clear BK1226
      clear HB
      have HO1225 := n0_
      have HO1229 := n1_
      have BK1220 := n2_
      have BK1221 := n3_
      have BK1222 := n4_
      have BK1226 := n5_
      have HB := n6_
      clear n0_ n1_ n2_ n3_ n4_ n5_ n6_
      clear hb ho23
      refine hK.out _ _ ((blk_cell BK1226.out 0).trans rfl) (fun hHeld => ?_)
      clear hK K
      refine norm_ (a' := ?_) ?_ ?_
      rotate_left
      · show Act.put _ (some 13) _ = _
        simp only [Act.put, List.setIfInBounds_toArray, List.set_cons_zero, List.set_cons_succ, i64_w, i32_w]
        rfl
      refine one_ (i := 4) (N := some 15) #[true, true, true, true, true, false, false, false, false] rfl rfl (one_of HT_.out (by kernel_rfl)) (by decide) (fun K hK => ?_)
      refine Kd.R_append_rows_step (Kd.int .u8) (w0 := w) w.heap.size (by rfl) (.tmp 13) (.tmp 14) 119 5 (.int .u8 0) 1 rfl Try.underlying119 info5 rfl (by decide) (by omega) v1228 y1227 l1 _ _ _ (fun _ => True) (fun _ => False) rfl rfl ?aO ?aR (fun _ _ h => h) (fun _ h => h.elim) ?aF ?aB ?aS ?aL ?_
      (case aR => repeat (first | exact (Kd.C_below HR1.out HB.out) | (with_reducible refine Kd.C_alloc ?_ _) | (with_reducible refine Kd.C_drewN ?_ _) | (with_reducible refine Kd.C_drew ?_)))
      (case aB => exact (by repeat (first | (with_reducible first | exact HB.out | apply below_alloc | apply pw_below_drewN | apply below_drew1 | refine below_set ?_ GE1220.out | refine below_set ?_ GE1221.out | refine below_set ?_ GE1222.out | refine below_set ?_ GE1226.out) | exact HB.out)))
      (case aF => exact (fun _ _ => trivial))
      (case aO => exact (by (with_reducible repeat (first | apply Kd.R_alloc | apply Kd.R_drewN | apply Kd.R_drew)); exact HO1229.out))
      (case aS => exact (below_size (by repeat (first | (with_reducible first | exact HB.out | apply below_alloc | apply pw_below_drewN | apply below_drew1 | refine below_set ?_ GE1220.out | refine below_set ?_ GE1221.out | refine below_set ?_ GE1222.out | refine below_set ?_ GE1226.out) | exact HB.out))))
      (case aL => have := LMc5.out; omega)
      intro v1231 w24 ho hb hg hat
      rw [← Ny1230.out] at ho
      have n0_ := Aside0.mk (blk_grown (g := gb1220) (o := .cells #[.slice A0_0 l0_0.length c0_0] 26 (0, 0)) (by (with_reducible repeat (first | refine blk_drewN ?_ _ | refine blk_drew ?_ | refine blk_alloc ?_ _)); exact BK1220.out) hg (Kd.R_ne HO1229.out BK1220.out (by decide)))
      have n1_ := Aside0.mk (blk_grown (g := gb1221) (o := .cells #[.slice none 0 0] 26 (0, 0)) (by (with_reducible repeat (first | refine blk_drewN ?_ _ | refine blk_drew ?_ | refine blk_alloc ?_ _)); exact BK1221.out) hg (Kd.R_ne HO1229.out BK1221.out (by decide)))
      have n2_ := Aside0.mk (blk_grown (g := gb1222) (o := .cells #[.int .i64 0, .int .i64 0, .int .i64 0, .int .i64 0] 48 (0, 0)) (by (with_reducible repeat (first | refine blk_drewN ?_ _ | refine blk_drew ?_ | refine blk_alloc ?_ _)); exact BK1222.out) hg (Kd.R_ne HO1229.out BK1222.out (by decide)))
      have n3_ := Aside0.mk (Kd.S_after (ok := (fun _ => True)) (by (with_reducible repeat (first | apply Kd.S_alloc | apply Kd.S_drewN | apply Kd.S_drew)); exact HO1225.out) hg hat)
      have n4_ := Aside0.mk (blk_grown (g := gb1226) (o := .cells #[.slice Ao15 t1223.length co15] 26 (0, 0)) (by (with_reducible repeat (first | refine blk_drewN ?_ _ | refine blk_drew ?_ | refine blk_alloc ?_ _)); exact BK1226.out) hg (Kd.R_ne HO1229.out BK1226.out (by decide)))
      have n5_ := Aside0.mk (hb)
      have n6_ := Aside0.mk (ho)
      clear BK1220
      clear BK1221
      clear BK1222
      clear HO1225
      clear BK1226
      clear HB
      clear HO1229
      have BK1220 := n0_
      have BK1221 := n1_
      have BK1222 := n2_
      have HO1225 := n3_
      have BK1226 := n4_
      have HB := n5_
      have HO1232 := n6_
      clear n0_ n1_ n2_ n3_ n4_ n5_ n6_
      clear ho hb hg hat
      obtain ⟨Ao26, co26, eo26⟩ := Kd.R_slice HO1232.out
      (first | subst eo26 | (injection eo26 with f1_ f2_ f3_; have f4_ := f1_.symm; have f5_ := f3_.symm; clear f1_ f2_ f3_; subst f4_; subst f5_))
      refine hK.out _ _ ((blk_cell BK1226.out 0).trans rfl) (fun hHeld => ?_)
      clear hK K
      refine norm_ (a' := ?_) ?_ ?_
      rotate_left
      · show Act.put _ (some 15) _ = _
        simp only [Act.put, List.setIfInBounds_toArray, List.set_cons_zero, List.set_cons_succ, i64_w, i32_w]
        rfl
      refine one_ (i := 5) (N := some 16) #[true, true, true, true, true, true, false, false, false] rfl rfl (one_of HT_.out (by kernel_rfl)) (by decide) (fun K hK => ?_)
      refine value_ (w1 := ?_) (v := ?_) (by rfl) rfl ?_ ?_
      rotate_left 2
      · go_simp
        constructor
        · rfl
        · rfl
      refine hK.out _ _ ((blk_cell (blk_alloc BK1226.out _) 0).trans rfl) (fun hHeld => ?_)
      clear hK K
      refine norm_ (a' := ?_) ?_ ?_
      rotate_left
      · show Act.put _ (some 16) _ = _
        simp only [Act.put, List.setIfInBounds_toArray, List.set_cons_zero, List.set_cons_succ, i64_w, i32_w]
        rfl
      refine one_ (i := 6) (N := some 17) #[true, true, true, true, true, true, true, false, false] rfl rfl (one_of HT_.out (by kernel_rfl)) (by decide) (fun K hK => ?_)
      refine Kd.S_append_step (Kd.slice 5 (Kd.int .u8)) (w0 := w) w.heap.size (by rfl) (.tmp 12) (.tmp 16) 22 119 (.slice none 0 0) 24 rfl Try.underlying22 info119 rfl (by decide) (by omega) (.slice Ao15 t1223.length co15) t1223 y1230 [.slice Ao26 y1230.length co26] (fun _ => True) (fun k_ => some k_ = (.slice Ao26 y1230.length co26 : Value).ownBlock) rfl rfl ?aP (fun k_ hk_ => ((Kd.R_mono (ok' := fun k_ => ((fun _ => True)) k_ ∧ some k_ ≠ (.slice Ao15 t1223.length co15 : Value).ownBlock) (Kd.R_apart' (HO1232.out) (Kd.S_typed HO1225.out) (by decide)) (fun k_ hk => ⟨trivial, hk.2⟩))).1 k_ hk_.symm) ?aF ?aO ?aB ?aS ?aL ?_
      (case aP => exact Kd.M_row (Kd.R_mono (Kd.R_tight rfl (Kd.R_mono (ok' := fun k_ => ((fun _ => True)) k_ ∧ some k_ ≠ (.slice Ao15 t1223.length co15 : Value).ownBlock) (Kd.R_apart' (HO1232.out) (Kd.S_typed HO1225.out) (by decide)) (fun k_ hk => ⟨trivial, hk.2⟩))) (fun _ h_ => h_)))
      (case aB => exact (by repeat (first | (with_reducible first | exact HB.out | apply below_alloc | apply pw_below_drewN | apply below_drew1 | refine below_set ?_ GE1220.out | refine below_set ?_ GE1221.out | refine below_set ?_ GE1222.out | refine below_set ?_ GE1226.out) | exact HB.out)))
      (case aF => exact (fun _ _ => trivial))
      (case aO => exact (by (with_reducible repeat (first | apply Kd.S_alloc | apply Kd.S_drewN | apply Kd.S_drew)); exact Kd.S_mono HO1225.out (fun k_ hk => ⟨trivial, fun e_ => hk.2 e_⟩)))
      (case aS => exact (below_size (by repeat (first | (with_reducible first | exact HB.out | apply below_alloc | apply pw_below_drewN | apply below_drew1 | refine below_set ?_ GE1220.out | refine below_set ?_ GE1221.out | refine below_set ?_ GE1222.out | refine below_set ?_ GE1226.out) | exact HB.out))))
      (case aL => have := LMc6.out; omega)
      intro v1234 w25 ho hb hg hat
      rw [← Ny1233.out] at ho
      have n0_ := Aside0.mk (blk_grown (g := gb1220) (o := .cells #[.slice A0_0 l0_0.length c0_0] 26 (0, 0)) (by (with_reducible repeat (first | refine blk_drewN ?_ _ | refine blk_drew ?_ | refine blk_alloc ?_ _)); exact BK1220.out) hg (Kd.S_ne HO1225.out BK1220.out (by decide)))
      have n1_ := Aside0.mk (blk_grown (g := gb1221) (o := .cells #[.slice none 0 0] 26 (0, 0)) (by (with_reducible repeat (first | refine blk_drewN ?_ _ | refine blk_drew ?_ | refine blk_alloc ?_ _)); exact BK1221.out) hg (Kd.S_ne HO1225.out BK1221.out (by decide)))
      have n2_ := Aside0.mk (blk_grown (g := gb1222) (o := .cells #[.int .i64 0, .int .i64 0, .int .i64 0, .int .i64 0] 48 (0, 0)) (by (with_reducible repeat (first | refine blk_drewN ?_ _ | refine blk_drew ?_ | refine blk_alloc ?_ _)); exact BK1222.out) hg (Kd.S_ne HO1225.out BK1222.out (by decide)))
      have n3_ := Aside0.mk (blk_grown (g := gb1226) (o := .cells #[.slice Ao15 t1223.length co15] 26 (0, 0)) (by (with_reducible repeat (first | refine blk_drewN ?_ _ | refine blk_drew ?_ | refine blk_alloc ?_ _)); exact BK1226.out) hg (Kd.S_ne HO1225.out BK1226.out (by decide)))
      have n4_ := Aside0.mk (hb)
      have n5_ := Aside0.mk (ho)
      clear BK1220
      clear BK1221
      clear BK1222
      clear BK1226
      clear HB
      clear HO1225
      clear HO1232
      have BK1220 := n0_
      have BK1221 := n1_
      have BK1222 := n2_
      have BK1226 := n3_
      have HB := n4_
      have HO1235 := n5_
      clear n0_ n1_ n2_ n3_ n4_ n5_
      clear ho hb hg hat
      obtain ⟨Ao27, co27, eo27⟩ := Kd.S_slice HO1235.out
      (first | subst eo27 | (injection eo27 with f1_ f2_ f3_; have f4_ := f1_.symm; have f5_ := f3_.symm; clear f1_ f2_ f3_; subst f4_; subst f5_))
      refine hK.out _ _ ((blk_cell BK1226.out 0).trans rfl) (fun hHeld => ?_)
      clear hK K
      refine norm_ (a' := ?_) ?_ ?_
      rotate_left
      · show Act.put _ (some 17) _ = _
        simp only [Act.put, List.setIfInBounds_toArray, List.set_cons_zero, List.set_cons_succ, i64_w, i32_w]
        rfl
      refine pure_ (i := 7) (N := some 18) (v := ?_) (a' := ?_) #[true, true, true, true, true, true, true, true, false] rfl rfl (any_of HT_.out (by kernel_rfl)) (fun _ _ _ h => h) (Or.inl ⟨by rfl, ?_⟩) ?_ ?_
      rotate_left
      · intro w'
        go_simp
        with_reducible rfl
      rotate_left
      · simp only [Act.put, List.setIfInBounds_toArray, List.set_cons_zero, List.set_cons_succ, i64_w, i32_w]
        rfl
      refine last_ (i := 8) (N := none) #[true, true, true, true, true, true, true, true, true] rfl rfl (one_of HT_.out (by kernel_rfl)) (by decide) (fun K hK => ?_)
      have hs28 : w25.cell? ⟨gb1226, 0, none⟩ = some (.slice Ao15 t1223.length co15) := (blk_cell BK1226.out 0).trans rfl
      have hfs28 := blk_frozen BK1226.out 0
      have hns28_0 := NB1220_1226.out
      have hns28_1 := NB1221_1226.out
      have hns28_2 := NB1222_1226.out
      have hms28_0 := NB1226_1220.out
      have hms28_1 := NB1226_1221.out
      have hms28_2 := NB1226_1222.out
      refine skip_ (w1 := ?_) (by rfl) rfl ?_ ?_
      rotate_left
      · go_simp
        rfl
      refine hK.out _ _ ?_
      clear hK K
      refine done_ (done_of HT_.out (by kernel_rfl)) ?_
      try go_wp2
      have n0_ : Aside0 (Kd.S (Kd.slice 5 (Kd.int .u8)) 119 (w25.setCell ⟨gb1226, 0, none⟩ (.slice Ao27 y1233.length co27)) w.heap.size (fun _ => True) (.slice Ao27 y1233.length co27) y1233) := ⟨by (with_reducible repeat (first | apply Kd.S_alloc | apply Kd.S_drewN | apply Kd.S_drew)); exact Kd.S_mono (Kd.S_far (p := ⟨gb1226, 0, none⟩) (Kd.S_types HO1235.out BK1226.out (by decide)) (fun _ hk => hk.2) (.slice Ao27 y1233.length co27)) (fun _ hk => trivial)⟩
      have n1_ : Aside0 ((w25.setCell ⟨gb1226, 0, none⟩ (.slice Ao27 y1233.length co27)).heap[gb1220]? = some (.cells #[.slice A0_0 l0_0.length c0_0] 26 (0, 0))) := ⟨by (with_reducible repeat (first | refine blk_drewN ?_ _ | refine blk_drew ?_ | refine blk_alloc ?_ _)); refine blk_far ?_ NB1220_1226.out _; (with_reducible repeat (first | refine blk_drewN ?_ _ | refine blk_drew ?_ | refine blk_alloc ?_ _)); exact BK1220.out⟩
      have n2_ : Aside0 ((w25.setCell ⟨gb1226, 0, none⟩ (.slice Ao27 y1233.length co27)).heap[gb1221]? = some (.cells #[.slice none 0 0] 26 (0, 0))) := ⟨by (with_reducible repeat (first | refine blk_drewN ?_ _ | refine blk_drew ?_ | refine blk_alloc ?_ _)); refine blk_far ?_ NB1221_1226.out _; (with_reducible repeat (first | refine blk_drewN ?_ _ | refine blk_drew ?_ | refine blk_alloc ?_ _)); exact BK1221.out⟩
      have n3_ : Aside0 ((w25.setCell ⟨gb1226, 0, none⟩ (.slice Ao27 y1233.length co27)).heap[gb1222]? = some (.cells #[.int .i64 0, .int .i64 0, .int .i64 0, .int .i64 0] 48 (0, 0))) := ⟨by (with_reducible repeat (first | refine blk_drewN ?_ _ | refine blk_drew ?_ | refine blk_alloc ?_ _)); refine blk_far ?_ NB1222_1226.out _; (with_reducible repeat (first | refine blk_drewN ?_ _ | refine blk_drew ?_ | refine blk_alloc ?_ _)); exact BK1222.out⟩
      have n4_ : Aside0 ((w25.setCell ⟨gb1226, 0, none⟩ (.slice Ao27 y1233.length co27)).heap[gb1226]? = some (.cells #[.slice Ao27 y1233.length co27] 26 (0, 0))) := ⟨by (with_reducible repeat (first | refine blk_drewN ?_ _ | refine blk_drew ?_ | refine blk_alloc ?_ _)); refine blk_put (cs := #[.slice Ao15 t1223.length co15]) ?_ 0 _ rfl; (with_reducible repeat (first | refine blk_drewN ?_ _ | refine blk_drew ?_ | refine blk_alloc ?_ _)); exact BK1226.out⟩
      have n5_ : Aside0 (Below w.heap.size w (w25.setCell ⟨gb1226, 0, none⟩ (.slice Ao27 y1233.length co27))) := ⟨by repeat (first | (with_reducible first | exact HB.out | apply below_alloc | apply pw_below_drewN | apply below_drew1 | refine below_set ?_ GE1220.out | refine below_set ?_ GE1221.out | refine below_set ?_ GE1222.out | refine below_set ?_ GE1226.out) | exact HB.out)⟩
      (try clear HO1235)
      (try clear BK1220)
      (try clear BK1221)
      (try clear BK1222)
      (try clear BK1226)
      (try clear HB)
      generalize (w25.setCell ⟨gb1226, 0, none⟩ (.slice Ao27 y1233.length co27)) = w29 at n0_ n1_ n2_ n3_ n4_ n5_ ⊢
      have HO1235 := n0_
      have BK1220 := n1_
      have BK1221 := n2_
      have BK1222 := n3_
      have BK1226 := n4_
      have HB := n5_
      clear n0_ n1_ n2_ n3_ n4_ n5_
      have n0_ := Aside0.mk (Kd.S_drew HO1235.out)
      have n1_ := Aside0.mk (blk_drew BK1220.out)
      have n2_ := Aside0.mk (blk_drew BK1221.out)
      have n3_ := Aside0.mk (blk_drew BK1222.out)
      have n4_ := Aside0.mk (blk_drew BK1226.out)
      have n5_ := Aside0.mk (below_drew1 HB.out)
      clear HO1235
      clear BK1220
      clear BK1221
      clear BK1222
      clear BK1226
      clear HB
      have HO1235 := n0_
      have BK1220 := n1_
      have BK1221 := n2_
      have BK1222 := n3_
      have BK1226 := n4_
      have HB := n5_
      clear n0_ n1_ n2_ n3_ n4_ n5_
      refine start_ (n := 10) (S := fun w' => w'.cell? ⟨gb1226, 0, none⟩ = some (.slice Ao27 y1233.length co27) ∧ w'.cell? ⟨gb1220, 0, none⟩ = some (.slice A0_0 l0_0.length c0_0)) (ds := []) #[false, false, false, false, false, false, false, false, false, false] (by kernel_rfl) rfl rfl ⟨(blk_cell BK1226.out 0).trans rfl, (blk_cell BK1220.out 0).trans rfl⟩ (fun hHeld => ?_); refine with_tabW spec_l2New.tab3 spec_l2New.bits3 (fun HT_ HW_ => ?_)
      generalize w29.drew = w30 at HO1235 BK1220 BK1221 BK1222 BK1226 HB hHeld ⊢
      refine pure_ (i := 1) (N := some 20) (v := ?_) (a' := ?_) #[false, true, false, false, false, false, false, false, false, false] rfl rfl (any_of HT_.out (by kernel_rfl)) (fun _ _ _ h => h) (Or.inl ⟨by rfl, ?_⟩) ?_ ?_
      rotate_left
      · intro w'
        go_simp
        with_reducible rfl
      rotate_left
      · simp only [Act.put, List.setIfInBounds_toArray, List.set_cons_zero, List.set_cons_succ, i64_w, i32_w]
        rfl
      refine pure_ (i := 4) (N := some 23) (v := ?_) (a' := ?_) #[false, true, false, false, true, false, false, false, false, false] rfl rfl (any_of HT_.out (by kernel_rfl)) (fun _ _ _ h => h) (Or.inl ⟨by rfl, ?_⟩) ?_ ?_
      rotate_left
      · intro w'
        go_simp
        with_reducible rfl
      rotate_left
      · simp only [Act.put, List.setIfInBounds_toArray, List.set_cons_zero, List.set_cons_succ, i64_w, i32_w]
        rfl
      refine pure_ (i := 5) (N := some 24) (v := ?_) (a' := ?_) #[false, true, false, false, true, true, false, false, false, false] rfl rfl (any_of HT_.out (by kernel_rfl)) (fun _ _ _ h => h) (Or.inl ⟨by rfl, ?_⟩) ?_ ?_
      rotate_left
      · intro w'
        go_simp
        with_reducible rfl
      rotate_left
      · simp only [Act.put, List.setIfInBounds_toArray, List.set_cons_zero, List.set_cons_succ, i64_w, i32_w]
        rfl
      refine pure_ (i := 6) (N := some 25) (v := ?_) (a' := ?_) #[false, true, false, false, true, true, true, false, false, false] rfl rfl (any_of HT_.out (by kernel_rfl)) (fun _ _ _ h => h) (Or.inl ⟨by rfl, ?_⟩) ?_ ?_
      rotate_left
      · intro w'
        go_simp
        with_reducible rfl
      rotate_left
      · simp only [Act.put, List.setIfInBounds_toArray, List.set_cons_zero, List.set_cons_succ, i64_w, i32_w]
        rfl
      refine take_ (i := 0) (N := some 19) (v := ?_) (a' := ?_) #[true, true, false, false, true, true, true, false, false, false] rfl rfl (take_ofW HT_.out HW_.out (by kernel_rfl)) (fun _ _ _ h => h) (Or.inl ⟨by rfl, ?_⟩) hHeld ?_ ?_
      rotate_left
      · rintro w' ⟨s0, s1⟩
        go_simp
        with_reducible rfl
      rotate_left
      · simp only [Act.put, List.setIfInBounds_toArray, List.set_cons_zero, List.set_cons_succ, i64_w, i32_w]
        rfl
      refine take_ (i := 2) (N := some 21) (v := ?_) (a' := ?_) #[true, true, true, false, true, true, true, false, false, false] rfl rfl (take_ofW HT_.out HW_.out (by kernel_rfl)) (fun _ _ _ h => h) (Or.inl ⟨by rfl, ?_⟩) hHeld ?_ ?_
      rotate_left
      · rintro w' ⟨s0, s1⟩
        go_simp
        with_reducible rfl
      rotate_left
      · simp only [Act.put, List.setIfInBounds_toArray, List.set_cons_zero, List.set_cons_succ, i64_w, i32_w]
        rfl
      refine pure_ (i := 3) (N := some 22) (v := ?_) (a' := ?_) #[true, true, true, true, true, true, true, false, false, false] rfl rfl (any_of HT_.out (by kernel_rfl)) (fun _ _ _ h => h) (Or.inl ⟨by rfl, ?_⟩) ?_ ?_
      rotate_left
      · intro w'
        go_simp
        with_reducible rfl
      rotate_left
      · simp only [Act.put, List.setIfInBounds_toArray, List.set_cons_zero, List.set_cons_succ, i64_w, i32_w]
        rfl
      refine pure_ (i := 7) (N := some 26) (v := ?_) (a' := ?_) #[true, true, true, true, true, true, true, true, false, false] rfl rfl (any_of HT_.out (by kernel_rfl)) (fun _ _ _ h => h) (Or.inl ⟨by rfl, ?_⟩) ?_ ?_
      rotate_left
      · intro w'
        go_simp
        with_reducible rfl
      rotate_left
      · simp only [Act.put, List.setIfInBounds_toArray, List.set_cons_zero, List.set_cons_succ, i64_w, i32_w]
        rfl
      refine one_ (i := 8) (N := none) #[true, true, true, true, true, true, true, true, true, false] rfl rfl (one_of HT_.out (by kernel_rfl)) (by decide) (fun K hK => ?_)
      have hs31 : w30.cell? ⟨gb1221, 0, none⟩ = some (.slice none 0 0) := (blk_cell BK1221.out 0).trans rfl
      have hfs31 := blk_frozen BK1221.out 0
      have hns31_0 := NB1220_1221.out
      have hns31_2 := NB1222_1221.out
      have hns31_3 := NB1226_1221.out
      have hms31_0 := NB1221_1220.out
      have hms31_2 := NB1221_1222.out
      have hms31_3 := NB1221_1226.out
      refine skip_ (w1 := ?_) (by rfl) rfl ?_ ?_
      rotate_left
      · go_simp
        rfl
      refine hK.out _ _ ⟨((cell_far (p := ⟨gb1221, _, none⟩) NB1226_1221.out _).trans (hHeld.1)), ((cell_far (p := ⟨gb1221, _, none⟩) NB1220_1221.out _).trans (hHeld.2))⟩ (fun hHeld => ?_)
      clear hK K
      refine one_ (i := 9) (N := none) #[true, true, true, true, true, true, true, true, true, true] rfl rfl (one_of HT_.out (by kernel_rfl)) (by decide) (fun K hK => ?_)
      have hs32 : w30.cell? ⟨gb1222, 0, none⟩ = some (.int .i64 0) := (blk_cell BK1222.out 0).trans rfl
      have hfs32 := blk_frozen BK1222.out 0
      have hns32_0 := NB1220_1222.out
      have hns32_1 := NB1221_1222.out
      have hns32_3 := NB1226_1222.out
      have hms32_0 := NB1222_1220.out
      have hms32_1 := NB1222_1221.out
      have hms32_3 := NB1222_1226.out
      have hs33 : w30.cell? ⟨gb1222, 1, none⟩ = some (.int .i64 0) := (blk_cell BK1222.out 1).trans rfl
      have hfs33 := blk_frozen BK1222.out 1
      have hns33_0 := NB1220_1222.out
      have hns33_1 := NB1221_1222.out
      have hns33_3 := NB1226_1222.out
      have hms33_0 := NB1222_1220.out
      have hms33_1 := NB1222_1221.out
      have hms33_3 := NB1222_1226.out
      have hs34 : w30.cell? ⟨gb1222, 2, none⟩ = some (.int .i64 0) := (blk_cell BK1222.out 2).trans rfl
      have hfs34 := blk_frozen BK1222.out 2
      have hns34_0 := NB1220_1222.out
      have hns34_1 := NB1221_1222.out
      have hns34_3 := NB1226_1222.out
      have hms34_0 := NB1222_1220.out
      have hms34_1 := NB1222_1221.out
      have hms34_3 := NB1222_1226.out
      have hs35 : w30.cell? ⟨gb1222, 3, none⟩ = some (.int .i64 0) := (blk_cell BK1222.out 3).trans rfl
      have hfs35 := blk_frozen BK1222.out 3
      have hns35_0 := NB1220_1222.out
      have hns35_1 := NB1221_1222.out
      have hns35_3 := NB1226_1222.out
      have hms35_0 := NB1222_1220.out
      have hms35_1 := NB1222_1221.out
      have hms35_3 := NB1222_1226.out
      refine skip_ (w1 := ?_) (by rfl) rfl ?_ ?_
      rotate_left
      · go_simp
        rfl
      refine hK.out _ _ ⟨((cell_far (p := ⟨gb1222, _, none⟩) NB1226_1222.out _).trans (((cell_far (p := ⟨gb1222, _, none⟩) NB1226_1222.out _).trans (((cell_far (p := ⟨gb1222, _, none⟩) NB1226_1222.out _).trans (((cell_far (p := ⟨gb1222, _, none⟩) NB1226_1222.out _).trans (hHeld.1)))))))), ((cell_far (p := ⟨gb1222, _, none⟩) NB1220_1222.out _).trans (((cell_far (p := ⟨gb1222, _, none⟩) NB1220_1222.out _).trans (((cell_far (p := ⟨gb1222, _, none⟩) NB1220_1222.out _).trans (((cell_far (p := ⟨gb1222, _, none⟩) NB1220_1222.out _).trans (hHeld.2))))))))⟩ (fun hHeld => ?_)
      clear hK K
      refine done_ (done_of HT_.out (by kernel_rfl)) ?_
      try go_wp2
      refine bodyPost_ret (results_cc rfl _ _ gb1221 gb1222 26 48 #[.slice Ao27 y1233.length co27] #[.int .i64 (l0_0.length : Int), .int .i64 0, .int .i64 a2, .int .i64 (l1.length : Int)] (0, 0) (0, 0) _ _ rfl (by (with_reducible repeat (first | refine blk_drewN ?_ _ | refine blk_drew ?_ | refine blk_alloc ?_ _)); refine blk_far ?_ NB1221_1222.out _; (with_reducible repeat (first | refine blk_drewN ?_ _ | refine blk_drew ?_ | refine blk_alloc ?_ _)); refine blk_far ?_ NB1221_1222.out _; (with_reducible repeat (first | refine blk_drewN ?_ _ | refine blk_drew ?_ | refine blk_alloc ?_ _)); refine blk_far ?_ NB1221_1222.out _; (with_reducible repeat (first | refine blk_drewN ?_ _ | refine blk_drew ?_ | refine blk_alloc ?_ _)); refine blk_far ?_ NB1221_1222.out _; (with_reducible repeat (first | refine blk_drewN ?_ _ | refine blk_drew ?_ | refine blk_alloc ?_ _)); refine blk_put (cs := #[.slice none 0 0]) ?_ 0 _ rfl; (with_reducible repeat (first | refine blk_drewN ?_ _ | refine blk_drew ?_ | refine blk_alloc ?_ _)); exact BK1221.out) Try.underlying26 rfl (by kernel_rfl) rfl (by (with_reducible repeat (first | refine blk_drewN ?_ _ | refine blk_drew ?_ | refine blk_alloc ?_ _)); refine blk_put (cs := #[.int .i64 (l0_0.length : Int), .int .i64 0, .int .i64 a2, .int .i64 0]) ?_ 3 _ rfl; (with_reducible repeat (first | refine blk_drewN ?_ _ | refine blk_drew ?_ | refine blk_alloc ?_ _)); refine blk_put (cs := #[.int .i64 (l0_0.length : Int), .int .i64 0, .int .i64 0, .int .i64 0]) ?_ 2 _ rfl; (with_reducible repeat (first | refine blk_drewN ?_ _ | refine blk_drew ?_ | refine blk_alloc ?_ _)); refine blk_put (cs := #[.int .i64 (l0_0.length : Int), .int .i64 0, .int .i64 0, .int .i64 0]) ?_ 1 _ rfl; (with_reducible repeat (first | refine blk_drewN ?_ _ | refine blk_drew ?_ | refine blk_alloc ?_ _)); refine blk_put (cs := #[.int .i64 0, .int .i64 0, .int .i64 0, .int .i64 0]) ?_ 0 _ rfl; (with_reducible repeat (first | refine blk_drewN ?_ _ | refine blk_drew ?_ | refine blk_alloc ?_ _)); refine blk_far ?_ NB1222_1221.out _; (with_reducible repeat (first | refine blk_drewN ?_ _ | refine blk_drew ?_ | refine blk_alloc ?_ _)); exact BK1222.out) Try.underlying48 rfl (by kernel_rfl)) rfl ?_
      exact ⟨_, by first | rfl | (simp [errW_none, errW_some] <;> rfl) | (simp [*, errW_none, errW_some] <;> rfl), by (with_reducible repeat (first | apply Kd.S_alloc | apply Kd.S_drewN | apply Kd.S_drew)); exact Kd.S_mono (Kd.S_far (p := ⟨gb1222, 3, none⟩) (Kd.S_far (p := ⟨gb1222, 2, none⟩) (Kd.S_far (p := ⟨gb1222, 1, none⟩) (Kd.S_far (p := ⟨gb1222, 0, none⟩) (Kd.S_far (p := ⟨gb1221, 0, none⟩) (Kd.S_types (Kd.S_types HO1235.out BK1221.out (by decide)) BK1222.out (by decide)) (fun _ hk => hk.1.2) (.slice Ao27 y1233.length co27)) (fun _ hk => hk.2) (.int .i64 (l0_0.length : Int))) (fun _ hk => hk.2) (.int .i64 0)) (fun _ hk => hk.2) (.int .i64 a2)) (fun _ hk => hk.2) (.int .i64 (l1.length : Int))) (fun _ hk => trivial), by repeat (first | (with_reducible first | exact HB.out | apply below_alloc | apply pw_below_drewN | apply below_drew1 | refine below_set ?_ GE1220.out | refine below_set ?_ GE1221.out | refine below_set ?_ GE1222.out | refine below_set ?_ GE1226.out) | exact HB.out)⟩
    · rw [if_neg c6] at H
      exact absurd H (by simp)
  · rw [if_neg c5] at H
    exact absurd H (by simp)

end Go.Proofs.Ytoomjghabiojkaa.P


/- What NewArray comes to. -/
namespace Go.Proofs.Ytoomjghabiojkaa.P
open Go.RowKit Go.Proofs.YtoomjghabiojkaaW.PrintWords
set_option linter.unusedVariables false
def newArr (m : List (List Int)) (n : Int) : List (List Int) × Int × Int × Int × Int × Bool :=
  if memB m = true ∧ (1 ≤ n ∧ n ≤ 64) ∧ m.length ≠ 16 then (m ++ [List.replicate n.toNat 0], (m.length : Int), 0, n, n, true) else ([], 0, 0, 0, 0, false)
theorem l2New_f (m : List (List Int)) (l : List Int) (n : Int) (h : okM m) (hl : l.length ≤ 1048576) : Ev (fun k => spec_l2New.f k m l n) (m ++ [l], (m.length : Int), 0, n, (l.length : Int)) := by
  refine Ev.bind (l2Own_f m h) ?_
  have h7 : m.length < 5864062014805 := by have := h.1; omega
  have h8 : ([] : List Int).length + l.length < 140737488355328 := by simp; omega
  simp only [Option.bind_some, if_pos h8, if_pos h7]
  exact Ev.now _
theorem implNewArray_f (m : List (List Int)) (n : Int) (h : okM m) : Ev (fun k => impl_NewArray.f k m n) (newArr m n) := by
  refine Ev.bind (IsMemory_f m h.len) ?_
  unfold newArr
  by_cases h1 : memB m = true
  · simp only [h1, if_true, within_f, Option.bind_some, true_and]
    by_cases h2 : 1 ≤ n ∧ n ≤ 64
    · simp only [h2, decide_true, if_true, and_self, true_and]
      by_cases h3 : (m.length : Int) = 16
      · have h4 : ¬ m.length ≠ 16 := by omega
        simp only [if_pos h3, if_neg h4]
        exact Ev.now _
      · have h4 : m.length ≠ 16 := by omega
        simp only [if_neg h3, if_pos h4]
        refine Ev.bind (own_f m h) ?_
        have h5 : 0 ≤ n := by omega
        have h6 : n.toNat ≤ 281474976710656 := by omega
        have h7 : m.length < 5864062014805 := by have := h.1; omega
        simp only [if_pos h5, if_pos h6, if_pos h7]
        exact Ev.now _
    · simp only [h2, decide_false, Bool.false_eq_true, if_false, false_and]
      exact Ev.now _
  · simp only [h1, Bool.false_eq_true, if_false, false_and]
    exact Ev.now _
end Go.Proofs.Ytoomjghabiojkaa.P


namespace Go.Proofs.Ytoomjghabiojkaa.P
open Go.RowKit Go.Proofs.YtoomjghabiojkaaW.PrintWords Go.Proofs.YtoomjghabiojkaaW.PrintLast Go.Proofs.YtoomjghabiojkaaW.PrintMore
attribute [local go_sem] max2_int min2_int max_two min_two max_three min_three max_four min_four   -- for this text's walks alone
set_option linter.unusedVariables false
set_option linter.unusedSimpArgs false

mutual
def spec_l7Rope.l0 : Nat → Int → List (List Int) → List (SimplWindow) → Option (Bool)
  | 0, _, _, _ => none
  | k + 1, x5, x1331000, x1332000 => if x5 < (x1332000.length : Int) then (spec_l7Rope.j1 k x5 (decide (x5 ≤ 12)) x1331000 x1332000) else (spec_l7Rope.j1 k x5 false x1331000 x1332000)
def spec_l7Rope.j1 : Nat → Int → Bool → List (List Int) → List (SimplWindow) → Option (Bool)
  | 0, _, _, _, _ => none
  | k + 1, x5, x14, x1331000, x1332000 => if x14 = true then (if 0 ≤ x5 then (if x5 < (x1332000.length : Int) then ((spec_l2Window.f k x1331000 ((rd_TimplWindow x1332000 x5).f0) ((rd_TimplWindow x1332000 x5).f1) ((rd_TimplWindow x1332000 x5).f2) ((rd_TimplWindow x1332000 x5).f3)).bind fun t1333 => (if t1333 = true then (spec_l7Rope.l0 k (wrap64 (x5 + 1)) x1331000 x1332000) else (some false))) else (none)) else (none)) else ((spec_l2Memory.f k x1331000).bind fun t1334 => (if t1334 = true then (some (decide ((x1332000.length : Int) ≤ 12))) else (some false)))
end
def spec_l7Rope.f (k : Nat) (l0_0 : List (List Int)) (l1_0 : List (SimplWindow)) : Option (Bool) := spec_l7Rope.l0 k 0 l0_0 l1_0
def spec_l7Rope.T4 : Bool × List (List Nat × List Nat) := (true, [([], []), ([], []), ([1], [1]), ([], []), ([2, 3], [2, 3]), ([4], [4]), ([0, 5], [0, 5]), ([6], [6])])
def spec_l7Rope.B4 : List Nat := [0, 0, 2, 0, 14, 30, 63, 127]
theorem spec_l7Rope.tab4 : rtab .any (opsOf Try.f125 4) = spec_l7Rope.T4 := by kernel_rfl
theorem spec_l7Rope.bits4 : waitsOk spec_l7Rope.T4.2 spec_l7Rope.B4 = true := by kernel_rfl
set_option maxHeartbeats 8000000 in
set_option maxRecDepth 100000 in
theorem spec_l7Rope.calls (k : Nat) (A0_0 : Option Addr) (c0_0 : Nat) (l0_0 : List (List Int)) (A1_0 : Option Addr) (c1_0 : Nat) (l1_0 : List (SimplWindow)) (r : Bool) (w : World) (hr0_0 : Kd.C (Kd.slice 5 (Kd.int .u8)) w A0_0 l0_0.length l0_0) (hc0_0 : l0_0.length ≤ c0_0) (hr1_0 : Kd.C kimplWindow w A1_0 l1_0.length l1_0) (hc1_0 : l1_0.length ≤ c1_0) (h : spec_l7Rope.f k l0_0 l1_0 = some r) :
    Calls Try.prog 125 #[.agg #[.slice A0_0 l0_0.length c0_0], .agg #[.slice A1_0 l1_0.length c1_0]] w fun e w' => e = .returned (.bool r) ∧ Below w.heap.size w w' := by
  have hu26 := Try.underlying26
  have hu102 := Try.underlying102
  have hu48 := Try.underlying48
  have HR0_0 := Aside0.mk hr0_0
  have HC0_0 := Aside0.mk hc0_0
  clear hr0_0 hc0_0
  have HR1_0 := Aside0.mk hr1_0
  have HC1_0 := Aside0.mk hc1_0
  clear hr1_0 hc1_0
  have HB := Aside0.mk (Below.refl w.heap.size w)
  have H : (spec_l7Rope.l0 k 0 l0_0 l1_0) = some r := h
  clear h
  have H' := Aside0.mk H
  clear H
  go_enter Try.func125, Try.ntmps125
  go_wp2_with (first | ((with_reducible refine gate_dst (N := 2) rfl ?_); (try (refine gate_guard (by rfl) ?_; dsimp only)); refine box_event ?hg (N := 2) ?hd (cs := #[.slice A0_0 l0_0.length c0_0]) (t := 26) ?hr ?_; (case hd => rfl); (case hg => rfl); (case hr => first | (go_simp; done) | (go_simp; rfl)); intro gb1330 hg w3 hbox hb; have n0_ := Aside0.mk (below_step (by repeat (first | (with_reducible first | exact HB.out | apply below_alloc | apply pw_below_drewN | apply below_drew1) | exact HB.out)) hb); have n1_ := Aside0.mk (hbox); have n2_ := Aside0.mk ((by rw [hg]; exact (below_size (by repeat (first | (with_reducible first | exact HB.out | apply below_alloc | apply pw_below_drewN | apply below_drew1) | exact HB.out))) : w.heap.size ≤ gb1330)); have n3_ := Aside0.mk ((by rw [hg]; exact (below_size (by repeat (first | (with_reducible first | exact HB.out | apply below_alloc | apply pw_below_drewN | apply below_drew1) | exact HB.out))) : w.heap.size ≤ gb1330)); clear HB; have HB := n0_; have BK1330 := n1_; have GW1330 := n2_; have GE1330 := n3_; clear n0_ n1_ n2_ n3_; clear hb hbox hg) | ((with_reducible refine gate_dst (N := 3) rfl ?_); (try (refine gate_guard (by rfl) ?_; dsimp only)); refine box_event ?hg (N := 3) ?hd (cs := #[.slice A1_0 l1_0.length c1_0]) (t := 102) ?hr ?_; (case hd => rfl); (case hg => rfl); (case hr => first | (go_simp; done) | (go_simp; rfl)); intro gb1331 hg w4 hbox hb; have n0_ := Aside0.mk (blk_below (g := gb1330) (o := .cells #[.slice A0_0 l0_0.length c0_0] 26 (0, 0)) (by (with_reducible repeat (first | refine blk_drewN ?_ _ | refine blk_drew ?_ | refine blk_alloc ?_ _)); exact BK1330.out) hb); have n1_ := Aside0.mk (below_step (by repeat (first | (with_reducible first | exact HB.out | apply below_alloc | apply pw_below_drewN | apply below_drew1 | refine below_set ?_ GE1330.out) | exact HB.out)) hb); have n2_ := Aside0.mk (hbox); have n3_ := Aside0.mk ((by rw [hg]; exact (below_size (by repeat (first | (with_reducible first | exact HB.out | apply below_alloc | apply pw_below_drewN | apply below_drew1 | refine below_set ?_ GE1330.out) | exact HB.out))) : w.heap.size ≤ gb1331)); have n4_ := Aside0.mk ((by rw [hg]; exact (below_size (by repeat (first | (with_reducible first | exact HB.out | apply below_alloc | apply pw_below_drewN | apply below_drew1 | refine below_set ?_ GE1330.out) | exact HB.out))) : w.heap.size ≤ gb1331)); have n5_ := Aside0.mk ((by rw [hg]; exact Nat.ne_of_lt (blk_lt (g := gb1330) (o := .cells #[.slice A0_0 l0_0.length c0_0] 26 (0, 0)) (by (with_reducible repeat (first | refine blk_drewN ?_ _ | refine blk_drew ?_ | refine blk_alloc ?_ _)); exact BK1330.out)) : gb1330 ≠ gb1331)); have n6_ := Aside0.mk ((by rw [hg]; exact Nat.ne_of_gt (blk_lt (g := gb1330) (o := .cells #[.slice A0_0 l0_0.length c0_0] 26 (0, 0)) (by (with_reducible repeat (first | refine blk_drewN ?_ _ | refine blk_drew ?_ | refine blk_alloc ?_ _)); exact BK1330.out)) : gb1331 ≠ gb1330)); clear BK1330; clear HB; have BK1330 := n0_; have HB := n1_; have BK1331 := n2_; have GW1331 := n3_; have GE1331 := n4_; have NB1330_1331 := n5_; have NB1331_1330 := n6_; clear n0_ n1_ n2_ n3_ n4_ n5_ n6_; clear hb hbox hg))
  go_loopg [5] k (fun kq v5 w' => ∃ (x5_1 : Int), v5 = .int .i64 x5_1 ∧ Aside0 (spec_l7Rope.l0 kq x5_1 l0_0 l1_0 = some r) ∧ Aside0 (kq ≤ k) ∧ Aside0 (w'.heap[gb1330]? = some (.cells #[(.slice A0_0 l0_0.length c0_0)] 26 (0, 0))) ∧ Aside0 (w'.heap[gb1331]? = some (.cells #[(.slice A1_0 l1_0.length c1_0)] 102 (0, 0))) ∧ Aside0 (Below w.heap.size w w'))
  case atStart => exact ⟨(0), (by first | rfl | (simp; done) | (simp [*]; done)), H', ⟨Nat.le_refl _⟩, ⟨by (with_reducible repeat (first | refine blk_drewN ?_ _ | refine blk_drew ?_ | refine blk_alloc ?_ _)); exact BK1330.out⟩, ⟨by (with_reducible repeat (first | refine blk_drewN ?_ _ | refine blk_drew ?_ | refine blk_alloc ?_ _)); exact BK1331.out⟩, ⟨by repeat (first | (with_reducible first | exact HB.out | apply below_alloc | apply pw_below_drewN | apply below_drew1 | refine below_set ?_ GE1330.out | refine below_set ?_ GE1331.out) | exact HB.out)⟩⟩
  case round =>
    clear H'
    try clear c1
    try clear p2
    obtain ⟨x5_1, rfl, HA, HK1, BK1330, BK1331, HB⟩ := hrel
    cases gk with
    | zero => exact absurd HA.out (by simp [spec_l7Rope.l0])
    | succ k1 =>
      have H := HA.out
      clear HA
      simp only [spec_l7Rope.l0] at H
      have HC5 := Aside0.mk H
      clear H
      go_upto_region 2 with (fail)
      go_cut [14] (fun v14 wc => ∃ (kq : Nat) (x14_4 : Bool), v14 = .bool x14_4 ∧ Aside0 (spec_l7Rope.j1 kq x5_1 x14_4 l0_0 l1_0 = some r) ∧ Aside0 (kq ≤ k1) ∧ Aside0 (wc.heap[gb1330]? = some (.cells #[(.slice A0_0 l0_0.length c0_0)] 26 (0, 0))) ∧ Aside0 (wc.heap[gb1331]? = some (.cells #[(.slice A1_0 l1_0.length c1_0)] 102 (0, 0))) ∧ Aside0 (Below w.heap.size w wc))
      case first =>
        have H := HC5.out
        clear HC5
        by_cases c6 : x5_1 < (l1_0.length : Int)
        · rw [if_pos c6] at H
          have c6b0 : decide (x5_1 < (l1_0.length : Int)) = true := decide_eq_true c6
          clear c6
          (first | rw [c6b0] | (simp only [i64_w, i32_w]; rw [c6b0]) | skip)
          have H' := Aside0.mk H
          clear H
          have hnb7 := NB1331_1330.out
          have hnc7 := NB1330_1331.out
          have hcz8_0 : wr.cell? ⟨gb1331, 0, none⟩ = some (.slice A1_0 l1_0.length c1_0) := (blk_cell BK1331.out 0).trans rfl
          have hfz8_0 := blk_frozen BK1331.out 0
          go_wp2
          go_meet
          case rel => exact ⟨_, (decide (x5_1 ≤ 12)), (by first | rfl | (simp; done) | (simp [*]; done)), H', ⟨by have := HK1.out; first | omega | exact Nat.le_refl _⟩, ⟨by (with_reducible repeat (first | refine blk_drewN ?_ _ | refine blk_drew ?_ | refine blk_alloc ?_ _)); exact BK1330.out⟩, ⟨by (with_reducible repeat (first | refine blk_drewN ?_ _ | refine blk_drew ?_ | refine blk_alloc ?_ _)); exact BK1331.out⟩, ⟨by repeat (first | (with_reducible first | exact HB.out | apply below_alloc | apply pw_below_drewN | apply below_drew1 | refine below_set ?_ GE1330.out | refine below_set ?_ GE1331.out) | exact HB.out)⟩⟩
        · rw [if_neg c6] at H
          have c6b0 : decide (x5_1 < (l1_0.length : Int)) = false := decide_eq_false c6
          clear c6
          (first | rw [c6b0] | (simp only [i64_w, i32_w]; rw [c6b0]) | skip)
          have H' := Aside0.mk H
          clear H
          have hnb9 := NB1331_1330.out
          have hnc9 := NB1330_1331.out
          have hcz10_0 : wr.cell? ⟨gb1331, 0, none⟩ = some (.slice A1_0 l1_0.length c1_0) := (blk_cell BK1331.out 0).trans rfl
          have hfz10_0 := blk_frozen BK1331.out 0
          go_wp2
          go_meet
          case rel => exact ⟨_, (false), (by first | rfl | (simp; done) | (simp [*]; done)), H', ⟨by have := HK1.out; first | omega | exact Nat.le_refl _⟩, ⟨by (with_reducible repeat (first | refine blk_drewN ?_ _ | refine blk_drew ?_ | refine blk_alloc ?_ _)); exact BK1330.out⟩, ⟨by (with_reducible repeat (first | refine blk_drewN ?_ _ | refine blk_drew ?_ | refine blk_alloc ?_ _)); exact BK1331.out⟩, ⟨by repeat (first | (with_reducible first | exact HB.out | apply below_alloc | apply pw_below_drewN | apply below_drew1 | refine below_set ?_ GE1330.out | refine below_set ?_ GE1331.out) | exact HB.out)⟩⟩
      case rest =>
        clear HC5
        try clear c1
        try clear p2
        try clear c6
        try clear c6b0
        try clear c7
        try clear c9
        try clear hcz10_0
        try clear hcz8_0
        try clear hfz10_0
        try clear hfz8_0
        try clear p2
        obtain ⟨kq, x14_4, rfl, HA, HJ4, BK1330, BK1331, HB⟩ := hcut
        cases kq with
        | zero => exact absurd HA.out (by simp [spec_l7Rope.j1])
        | succ kj4 =>
          have H := HA.out
          clear HA
          simp only [spec_l7Rope.j1] at H
          by_cases c11 : x14_4 = true
          · subst c11
            have H1 : (if 0 ≤ x5_1 then (if x5_1 < (l1_0.length : Int) then ((spec_l2Window.f kj4 l0_0 ((rd_TimplWindow l1_0 x5_1).f0) ((rd_TimplWindow l1_0 x5_1).f1) ((rd_TimplWindow l1_0 x5_1).f2) ((rd_TimplWindow l1_0 x5_1).f3)).bind fun t1333 => (if t1333 = true then (spec_l7Rope.l0 kj4 (wrap64 (x5_1 + 1)) l0_0 l1_0) else (some false))) else (none)) else (none)) = some r := by rw [if_pos rfl] at H; exact H
            clear H
            have H := H1
            clear H1
            by_cases c12 : 0 ≤ x5_1
            · rw [if_pos c12] at H
              have c12b0 : decide (0 ≤ x5_1) = true := decide_eq_true c12
              clear c12
              by_cases c13 : x5_1 < (l1_0.length : Int)
              · rw [if_pos c13] at H
                have c13b0 : decide (x5_1 < (l1_0.length : Int)) = true := decide_eq_true c13
                clear c13
                replace H := Option.bind_eq_some_iff.mp H
                obtain ⟨t1333, A140, H⟩ := H
                replace H : (if t1333 = true then (spec_l7Rope.l0 kj4 (wrap64 (x5_1 + 1)) l0_0 l1_0) else (some false)) = some r := H
                have A14 := Aside0.mk A140
                clear A140
                by_cases c15 : t1333 = true
                · subst c15
                  have H1 : (spec_l7Rope.l0 kj4 (wrap64 (x5_1 + 1)) l0_0 l1_0) = some r := by rw [if_pos rfl] at H; exact H
                  clear H
                  have H := H1
                  clear H1
                  have H' := Aside0.mk H
                  clear H
                  try go_wp2
                  have n0_ := Aside0.mk (blk_drew BK1330.out)
                  have n1_ := Aside0.mk (blk_drew BK1331.out)
                  have n2_ := Aside0.mk (below_drew1 HB.out)
                  clear BK1330
                  clear BK1331
                  clear HB
                  have BK1330 := n0_
                  have BK1331 := n1_
                  have HB := n2_
                  clear n0_ n1_ n2_
                  have p1332 : 0 ≤ (x5_1 : Int) := of_decide_eq_true (by first | (with_reducible assumption) | assumption)
                  have q1332 : x5_1 < (l1_0.length : Int) := of_decide_eq_true (by first | (with_reducible assumption) | assumption)
                  obtain ⟨ad1332, e1332, hx1332_0, hx1332_1, hx1332_2, hx1332_3⟩ := at_TimplWindow HR1_0.out x5_1 p1332 q1332
                  have hw1332_3 := hx1332_3
                  have hw1332_2 := hx1332_2
                  have hw1332_1 := hx1332_1
                  have hw1332_0 := hx1332_0
                  cases e1332
                  replace hx1332_0 := (HB.out.cell (World.block_lt_of_cell? w _ hx1332_0)).trans hx1332_0
                  replace hx1332_1 := (HB.out.cell (World.block_lt_of_cell? w _ hx1332_1)).trans hx1332_1
                  replace hx1332_2 := (HB.out.cell (World.block_lt_of_cell? w _ hx1332_2)).trans hx1332_2
                  replace hx1332_3 := (HB.out.cell (World.block_lt_of_cell? w _ hx1332_3)).trans hx1332_3
                  replace p1332 := eq_true p1332
                  replace q1332 := eq_true q1332
                  refine start_ (n := 8) (S := fun w' => w'.cell? ⟨gb1330, 0, none⟩ = some (.slice A0_0 l0_0.length c0_0) ∧ w'.cell? ⟨gb1331, 0, none⟩ = some (.slice (some ad1332) l1_0.length c1_0) ∧ w'.cell? (ad1332.add ((x5_1).toNat * 4)) = some (.int .i64 ((rd_TimplWindow l1_0 x5_1).f0)) ∧ w'.cell? ⟨(ad1332.add ((x5_1).toNat * 4)).block, (ad1332.add ((x5_1).toNat * 4)).off + 1, none⟩ = some (.int .i64 ((rd_TimplWindow l1_0 x5_1).f1)) ∧ w'.cell? ⟨(ad1332.add ((x5_1).toNat * 4)).block, (ad1332.add ((x5_1).toNat * 4)).off + 2, none⟩ = some (.int .i64 ((rd_TimplWindow l1_0 x5_1).f2)) ∧ w'.cell? ⟨(ad1332.add ((x5_1).toNat * 4)).block, (ad1332.add ((x5_1).toNat * 4)).off + 3, none⟩ = some (.int .i64 ((rd_TimplWindow l1_0 x5_1).f3))) (ds := []) #[false, false, false, false, false, false, false, false] (by kernel_rfl) rfl rfl ⟨(blk_cell BK1330.out 0).trans rfl, (blk_cell BK1331.out 0).trans rfl, (by have h_ := ((HB.out.cell (World.block_lt_of_cell? w _ hw1332_0)).trans hw1332_0); first | exact h_ | (simp only [*] at h_; exact h_) | (simp [*]; done) | simpa [*] using h_), (by have h_ := ((HB.out.cell (World.block_lt_of_cell? w _ hw1332_1)).trans hw1332_1); first | exact h_ | (simp only [*] at h_; exact h_) | (simp [*]; done) | simpa [*] using h_), (by have h_ := ((HB.out.cell (World.block_lt_of_cell? w _ hw1332_2)).trans hw1332_2); first | exact h_ | (simp only [*] at h_; exact h_) | (simp [*]; done) | simpa [*] using h_), (by have h_ := ((HB.out.cell (World.block_lt_of_cell? w _ hw1332_3)).trans hw1332_3); first | exact h_ | (simp only [*] at h_; exact h_) | (simp [*]; done) | simpa [*] using h_)⟩ (fun hHeld => ?_); refine with_tabW spec_l7Rope.tab4 spec_l7Rope.bits4 (fun HT_ HW_ => ?_)
                  generalize wc.drew = w16 at BK1330 BK1331 HB hx1332_0 hx1332_1 hx1332_2 hx1332_3 hHeld ⊢
                  refine pure_ (i := 1) (N := some 18) (v := ?_) (a' := ?_) #[false, true, false, false, false, false, false, false] rfl rfl (any_of HT_.out (by kernel_rfl)) (fun _ _ _ h => h) (Or.inl ⟨by rfl, ?_⟩) ?_ ?_
                  rotate_left
                  · intro w'
                    go_simp
                    with_reducible rfl
                  rotate_left
                  · simp only [Act.put, List.setIfInBounds_toArray, List.set_cons_zero, List.set_cons_succ, i64_w, i32_w]
                    rfl
                  refine pure_ (i := 3) (N := some 20) (v := ?_) (a' := ?_) #[false, true, false, true, false, false, false, false] rfl rfl (any_of HT_.out (by kernel_rfl)) (fun _ _ _ h => h) (Or.inl ⟨by rfl, ?_⟩) ?_ ?_
                  rotate_left
                  · intro w'
                    go_simp
                    with_reducible rfl
                  rotate_left
                  · simp only [Act.put, List.setIfInBounds_toArray, List.set_cons_zero, List.set_cons_succ, i64_w, i32_w]
                    rfl
                  refine take_ (i := 0) (N := some 17) (v := ?_) (a' := ?_) #[true, true, false, true, false, false, false, false] rfl rfl (take_ofW HT_.out HW_.out (by kernel_rfl)) (fun _ _ _ h => h) (Or.inl ⟨by rfl, ?_⟩) hHeld ?_ ?_
                  rotate_left
                  · rintro w' ⟨s0, s1, s2, s3, s4, s5⟩
                    go_simp
                    with_reducible rfl
                  rotate_left
                  · simp only [Act.put, List.setIfInBounds_toArray, List.set_cons_zero, List.set_cons_succ, i64_w, i32_w]
                    rfl
                  refine take_ (i := 2) (N := some 19) (v := ?_) (a' := ?_) #[true, true, true, true, false, false, false, false] rfl rfl (take_ofW HT_.out HW_.out (by kernel_rfl)) (fun _ _ _ h => h) (Or.inl ⟨by rfl, ?_⟩) hHeld ?_ ?_
                  rotate_left
                  · rintro w' ⟨s0, s1, s2, s3, s4, s5⟩
                    go_simp
                    with_reducible rfl
                  rotate_left
                  · simp only [Act.put, List.setIfInBounds_toArray, List.set_cons_zero, List.set_cons_succ, i64_w, i32_w]
                    rfl
                  refine pure_ (i := 4) (N := some 21) (v := ?_) (a' := ?_) #[true, true, true, true, true, false, false, false] rfl rfl (any_of HT_.out (by kernel_rfl)) (fun _ _ _ h => h) (Or.inl ⟨by rfl, ?_⟩) ?_ ?_
                  rotate_left
                  · intro w'
                    go_simp
                    with_reducible rfl
                  rotate_left
                  · simp only [Act.put, List.setIfInBounds_toArray, List.set_cons_zero, List.set_cons_succ, i64_w, i32_w]
                    rfl
                  refine take_ (i := 5) (N := some 22) (v := ?_) (a' := ?_) #[true, true, true, true, true, true, false, false] rfl rfl (take_ofW HT_.out HW_.out (by kernel_rfl)) (fun _ _ _ h => h) (Or.inl ⟨by rfl, ?_⟩) hHeld ?_ ?_
                  rotate_left
                  · rintro w' ⟨s0, s1, s2, s3, s4, s5⟩
                    go_simp
                    with_reducible rfl
                  rotate_left
                  · simp only [Act.put, List.setIfInBounds_toArray, List.set_cons_zero, List.set_cons_succ, i64_w, i32_w]
                    rfl
                  refine one_ (i := 6) (N := some 23) #[true, true, true, true, true, true, true, false] rfl rfl (one_of HT_.out (by kernel_rfl)) (by decide) (fun K hK => ?_)
                  refine goes_ Try.func88 (by kernel_rfl) rfl #[.agg #[.slice A0_0 l0_0.length c0_0], .agg #[.int .i64 ((rd_TimplWindow l1_0 x5_1).f0), .int .i64 ((rd_TimplWindow l1_0 x5_1).f1), .int .i64 ((rd_TimplWindow l1_0 x5_1).f2), .int .i64 ((rd_TimplWindow l1_0 x5_1).f3)]] (by rfl) rfl rfl (by (try simp only [List.map_toArray, List.map_cons, List.map_nil]); first | done | rfl | (simp only [List.length_drop, List.length_take]; rfl)) ?_
                  with_reducible refine (spec_l2Window.calls kj4 _ _ l0_0 ((rd_TimplWindow l1_0 x5_1).f0) ((rd_TimplWindow l1_0 x5_1).f1) ((rd_TimplWindow l1_0 x5_1).f2) ((rd_TimplWindow l1_0 x5_1).f3) true _ ?side1 ?side2 A14.out).mono ?_
                  (case side1 => repeat (first | exact (Kd.C_below HR0_0.out HB.out) | (with_reducible refine Kd.C_alloc ?_ _) | (with_reducible refine Kd.C_drewN ?_ _) | (with_reducible refine Kd.C_drew ?_)))
                  (case side2 => exact HC0_0.out)
                  rintro e w17 ⟨rfl, hb⟩
                  refine ⟨_, rfl, ?_⟩
                  have n0_ := Aside0.mk (blk_below (g := gb1330) (o := .cells #[.slice A0_0 l0_0.length c0_0] 26 (0, 0)) (by (with_reducible repeat (first | refine blk_drewN ?_ _ | refine blk_drew ?_ | refine blk_alloc ?_ _)); exact BK1330.out) hb)
                  have n1_ := Aside0.mk (blk_below (g := gb1331) (o := .cells #[.slice (some ad1332) l1_0.length c1_0] 102 (0, 0)) (by (with_reducible repeat (first | refine blk_drewN ?_ _ | refine blk_drew ?_ | refine blk_alloc ?_ _)); exact BK1331.out) hb)
                  have n2_ := Aside0.mk (below_step (by repeat (first | (with_reducible first | exact HB.out | apply below_alloc | apply pw_below_drewN | apply below_drew1 | refine below_set ?_ GE1330.out | refine below_set ?_ GE1331.out) | exact HB.out)) hb)
                  clear BK1330
                  clear BK1331
                  clear HB
                  have BK1330 := n0_
                  have BK1331 := n1_
                  have HB := n2_
                  clear n0_ n1_ n2_
                  (try clear hb)
                  (try clear hb2)
                  (try clear hk)
                  (try clear hi)
                  refine hK.out _ _ ⟨(blk_cell BK1330.out 0).trans rfl, (blk_cell BK1331.out 0).trans rfl, (by have h_ := ((HB.out.cell (World.block_lt_of_cell? w _ hw1332_0)).trans hw1332_0); first | exact h_ | (simp only [*] at h_; exact h_) | (simp [*]; done) | simpa [*] using h_), (by have h_ := ((HB.out.cell (World.block_lt_of_cell? w _ hw1332_1)).trans hw1332_1); first | exact h_ | (simp only [*] at h_; exact h_) | (simp [*]; done) | simpa [*] using h_), (by have h_ := ((HB.out.cell (World.block_lt_of_cell? w _ hw1332_2)).trans hw1332_2); first | exact h_ | (simp only [*] at h_; exact h_) | (simp [*]; done) | simpa [*] using h_), (by have h_ := ((HB.out.cell (World.block_lt_of_cell? w _ hw1332_3)).trans hw1332_3); first | exact h_ | (simp only [*] at h_; exact h_) | (simp [*]; done) | simpa [*] using h_)⟩ (fun hHeld => ?_)
                  clear hK K
                  refine norm_ (a' := ?_) ?_ ?_
                  rotate_left
                  · show Act.put _ (some 23) _ = _
                    simp only [Act.put, List.setIfInBounds_toArray, List.set_cons_zero, List.set_cons_succ, i64_w, i32_w]
                    rfl
                  refine pure_ (i := 7) (N := some 24) (v := ?_) (a' := ?_) #[true, true, true, true, true, true, true, true] rfl rfl (any_of HT_.out (by kernel_rfl)) (fun _ _ _ h => h) (Or.inl ⟨by rfl, ?_⟩) ?_ ?_
                  rotate_left
                  · intro w'
                    go_simp
                    with_reducible rfl
                  rotate_left
                  · simp only [Act.put, List.setIfInBounds_toArray, List.set_cons_zero, List.set_cons_succ, i64_w, i32_w]
                    rfl
                  refine done_ (done_of HT_.out (by kernel_rfl)) ?_
                  try go_wp2
                  go_roundg kj4
                  case measure => have := HK1.out; have := HJ4.out; omega
                  case rel => exact ⟨(wrap64 (x5_1 + 1)), (by first | rfl | (simp; done) | (simp [*]; done)), H', ⟨by have := HK1.out; have := HJ4.out; omega⟩, ⟨by (with_reducible repeat (first | refine blk_drewN ?_ _ | refine blk_drew ?_ | refine blk_alloc ?_ _)); exact BK1330.out⟩, ⟨by (with_reducible repeat (first | refine blk_drewN ?_ _ | refine blk_drew ?_ | refine blk_alloc ?_ _)); exact BK1331.out⟩, ⟨by repeat (first | (with_reducible first | exact HB.out | apply below_alloc | apply pw_below_drewN | apply below_drew1 | refine below_set ?_ GE1330.out | refine below_set ?_ GE1331.out) | exact HB.out)⟩⟩
                · replace c15 := Bool.eq_false_iff.mpr c15
                  subst c15
                  have H1 : (some false) = some r := by rw [if_neg (show ¬ (false = true) by decide)] at H; exact H
                  clear H
                  have H := H1
                  clear H1
                  obtain rfl := Option.some.inj H
                  try go_wp2
                  have n0_ := Aside0.mk (blk_drew BK1330.out)
                  have n1_ := Aside0.mk (blk_drew BK1331.out)
                  have n2_ := Aside0.mk (below_drew1 HB.out)
                  clear BK1330
                  clear BK1331
                  clear HB
                  have BK1330 := n0_
                  have BK1331 := n1_
                  have HB := n2_
                  clear n0_ n1_ n2_
                  have p1332 : 0 ≤ (x5_1 : Int) := of_decide_eq_true (by first | (with_reducible assumption) | assumption)
                  have q1332 : x5_1 < (l1_0.length : Int) := of_decide_eq_true (by first | (with_reducible assumption) | assumption)
                  obtain ⟨ad1332, e1332, hx1332_0, hx1332_1, hx1332_2, hx1332_3⟩ := at_TimplWindow HR1_0.out x5_1 p1332 q1332
                  have hw1332_3 := hx1332_3
                  have hw1332_2 := hx1332_2
                  have hw1332_1 := hx1332_1
                  have hw1332_0 := hx1332_0
                  cases e1332
                  replace hx1332_0 := (HB.out.cell (World.block_lt_of_cell? w _ hx1332_0)).trans hx1332_0
                  replace hx1332_1 := (HB.out.cell (World.block_lt_of_cell? w _ hx1332_1)).trans hx1332_1
                  replace hx1332_2 := (HB.out.cell (World.block_lt_of_cell? w _ hx1332_2)).trans hx1332_2
                  replace hx1332_3 := (HB.out.cell (World.block_lt_of_cell? w _ hx1332_3)).trans hx1332_3
                  replace p1332 := eq_true p1332
                  replace q1332 := eq_true q1332
                  refine start_ (n := 8) (S := fun w' => w'.cell? ⟨gb1330, 0, none⟩ = some (.slice A0_0 l0_0.length c0_0) ∧ w'.cell? ⟨gb1331, 0, none⟩ = some (.slice (some ad1332) l1_0.length c1_0) ∧ w'.cell? (ad1332.add ((x5_1).toNat * 4)) = some (.int .i64 ((rd_TimplWindow l1_0 x5_1).f0)) ∧ w'.cell? ⟨(ad1332.add ((x5_1).toNat * 4)).block, (ad1332.add ((x5_1).toNat * 4)).off + 1, none⟩ = some (.int .i64 ((rd_TimplWindow l1_0 x5_1).f1)) ∧ w'.cell? ⟨(ad1332.add ((x5_1).toNat * 4)).block, (ad1332.add ((x5_1).toNat * 4)).off + 2, none⟩ = some (.int .i64 ((rd_TimplWindow l1_0 x5_1).f2)) ∧ w'.cell? ⟨(ad1332.add ((x5_1).toNat * 4)).block, (ad1332.add ((x5_1).toNat * 4)).off + 3, none⟩ = some (.int .i64 ((rd_TimplWindow l1_0 x5_1).f3))) (ds := []) #[false, false, false, false, false, false, false, false] (by kernel_rfl) rfl rfl ⟨(blk_cell BK1330.out 0).trans rfl, (blk_cell BK1331.out 0).trans rfl, (by have h_ := ((HB.out.cell (World.block_lt_of_cell? w _ hw1332_0)).trans hw1332_0); first | exact h_ | (simp only [*] at h_; exact h_) | (simp [*]; done) | simpa [*] using h_), (by have h_ := ((HB.out.cell (World.block_lt_of_cell? w _ hw1332_1)).trans hw1332_1); first | exact h_ | (simp only [*] at h_; exact h_) | (simp [*]; done) | simpa [*] using h_), (by have h_ := ((HB.out.cell (World.block_lt_of_cell? w _ hw1332_2)).trans hw1332_2); first | exact h_ | (simp only [*] at h_; exact h_) | (simp [*]; done) | simpa [*] using h_), (by have h_ := ((HB.out.cell (World.block_lt_of_cell? w _ hw1332_3)).trans hw1332_3); first | exact h_ | (simp only [*] at h_; exact h_) | (simp [*]; done) | simpa [*] using h_)⟩ (fun hHeld => ?_); refine with_tabW spec_l7Rope.tab4 spec_l7Rope.bits4 (fun HT_ HW_ => ?_)
                  generalize wc.drew = w18 at BK1330 BK1331 HB hx1332_0 hx1332_1 hx1332_2 hx1332_3 hHeld ⊢
                  refine pure_ (i := 1) (N := some 18) (v := ?_) (a' := ?_) #[false, true, false, false, false, false, false, false] rfl rfl (any_of HT_.out (by kernel_rfl)) (fun _ _ _ h => h) (Or.inl ⟨by rfl, ?_⟩) ?_ ?_
                  rotate_left
                  · intro w'
                    go_simp
                    with_reducible rfl
                  rotate_left
                  · simp only [Act.put, List.setIfInBounds_toArray, List.set_cons_zero, List.set_cons_succ, i64_w, i32_w]
                    rfl
                  refine pure_ (i := 3) (N := some 20) (v := ?_) (a' := ?_) #[false, true, false, true, false, false, false, false] rfl rfl (any_of HT_.out (by kernel_rfl)) (fun _ _ _ h => h) (Or.inl ⟨by rfl, ?_⟩) ?_ ?_
                  rotate_left
                  · intro w'
                    go_simp
                    with_reducible rfl
                  rotate_left
                  · simp only [Act.put, List.setIfInBounds_toArray, List.set_cons_zero, List.set_cons_succ, i64_w, i32_w]
                    rfl
                  refine take_ (i := 0) (N := some 17) (v := ?_) (a' := ?_) #[true, true, false, true, false, false, false, false] rfl rfl (take_ofW HT_.out HW_.out (by kernel_rfl)) (fun _ _ _ h => h) (Or.inl ⟨by rfl, ?_⟩) hHeld ?_ ?_
                  rotate_left
                  · rintro w' ⟨s0, s1, s2, s3, s4, s5⟩
                    go_simp
                    with_reducible rfl
                  rotate_left
                  · simp only [Act.put, List.setIfInBounds_toArray, List.set_cons_zero, List.set_cons_succ, i64_w, i32_w]
                    rfl
                  refine take_ (i := 2) (N := some 19) (v := ?_) (a' := ?_) #[true, true, true, true, false, false, false, false] rfl rfl (take_ofW HT_.out HW_.out (by kernel_rfl)) (fun _ _ _ h => h) (Or.inl ⟨by rfl, ?_⟩) hHeld ?_ ?_
                  rotate_left
                  · rintro w' ⟨s0, s1, s2, s3, s4, s5⟩
                    go_simp
                    with_reducible rfl
                  rotate_left
                  · simp only [Act.put, List.setIfInBounds_toArray, List.set_cons_zero, List.set_cons_succ, i64_w, i32_w]
                    rfl
                  refine pure_ (i := 4) (N := some 21) (v := ?_) (a' := ?_) #[true, true, true, true, true, false, false, false] rfl rfl (any_of HT_.out (by kernel_rfl)) (fun _ _ _ h => h) (Or.inl ⟨by rfl, ?_⟩) ?_ ?_
                  rotate_left
                  · intro w'
                    go_simp
                    with_reducible rfl
                  rotate_left
                  · simp only [Act.put, List.setIfInBounds_toArray, List.set_cons_zero, List.set_cons_succ, i64_w, i32_w]
                    rfl
                  refine take_ (i := 5) (N := some 22) (v := ?_) (a' := ?_) #[true, true, true, true, true, true, false, false] rfl rfl (take_ofW HT_.out HW_.out (by kernel_rfl)) (fun _ _ _ h => h) (Or.inl ⟨by rfl, ?_⟩) hHeld ?_ ?_
                  rotate_left
                  · rintro w' ⟨s0, s1, s2, s3, s4, s5⟩
                    go_simp
                    with_reducible rfl
                  rotate_left
                  · simp only [Act.put, List.setIfInBounds_toArray, List.set_cons_zero, List.set_cons_succ, i64_w, i32_w]
                    rfl
                  refine one_ (i := 6) (N := some 23) #[true, true, true, true, true, true, true, false] rfl rfl (one_of HT_.out (by kernel_rfl)) (by decide) (fun K hK => ?_)
                  refine goes_ Try.func88 (by kernel_rfl) rfl #[.agg #[.slice A0_0 l0_0.length c0_0], .agg #[.int .i64 ((rd_TimplWindow l1_0 x5_1).f0), .int .i64 ((rd_TimplWindow l1_0 x5_1).f1), .int .i64 ((rd_TimplWindow l1_0 x5_1).f2), .int .i64 ((rd_TimplWindow l1_0 x5_1).f3)]] (by rfl) rfl rfl (by (try simp only [List.map_toArray, List.map_cons, List.map_nil]); first | done | rfl | (simp only [List.length_drop, List.length_take]; rfl)) ?_
                  with_reducible refine (spec_l2Window.calls kj4 _ _ l0_0 ((rd_TimplWindow l1_0 x5_1).f0) ((rd_TimplWindow l1_0 x5_1).f1) ((rd_TimplWindow l1_0 x5_1).f2) ((rd_TimplWindow l1_0 x5_1).f3) false _ ?side1 ?side2 A14.out).mono ?_
                  (case side1 => repeat (first | exact (Kd.C_below HR0_0.out HB.out) | (with_reducible refine Kd.C_alloc ?_ _) | (with_reducible refine Kd.C_drewN ?_ _) | (with_reducible refine Kd.C_drew ?_)))
                  (case side2 => exact HC0_0.out)
                  rintro e w19 ⟨rfl, hb⟩
                  refine ⟨_, rfl, ?_⟩
                  have n0_ := Aside0.mk (blk_below (g := gb1330) (o := .cells #[.slice A0_0 l0_0.length c0_0] 26 (0, 0)) (by (with_reducible repeat (first | refine blk_drewN ?_ _ | refine blk_drew ?_ | refine blk_alloc ?_ _)); exact BK1330.out) hb)
                  have n1_ := Aside0.mk (blk_below (g := gb1331) (o := .cells #[.slice (some ad1332) l1_0.length c1_0] 102 (0, 0)) (by (with_reducible repeat (first | refine blk_drewN ?_ _ | refine blk_drew ?_ | refine blk_alloc ?_ _)); exact BK1331.out) hb)
                  have n2_ := Aside0.mk (below_step (by repeat (first | (with_reducible first | exact HB.out | apply below_alloc | apply pw_below_drewN | apply below_drew1 | refine below_set ?_ GE1330.out | refine below_set ?_ GE1331.out) | exact HB.out)) hb)
                  clear BK1330
                  clear BK1331
                  clear HB
                  have BK1330 := n0_
                  have BK1331 := n1_
                  have HB := n2_
                  clear n0_ n1_ n2_
                  (try clear hb)
                  (try clear hb2)
                  (try clear hk)
                  (try clear hi)
                  refine hK.out _ _ ⟨(blk_cell BK1330.out 0).trans rfl, (blk_cell BK1331.out 0).trans rfl, (by have h_ := ((HB.out.cell (World.block_lt_of_cell? w _ hw1332_0)).trans hw1332_0); first | exact h_ | (simp only [*] at h_; exact h_) | (simp [*]; done) | simpa [*] using h_), (by have h_ := ((HB.out.cell (World.block_lt_of_cell? w _ hw1332_1)).trans hw1332_1); first | exact h_ | (simp only [*] at h_; exact h_) | (simp [*]; done) | simpa [*] using h_), (by have h_ := ((HB.out.cell (World.block_lt_of_cell? w _ hw1332_2)).trans hw1332_2); first | exact h_ | (simp only [*] at h_; exact h_) | (simp [*]; done) | simpa [*] using h_), (by have h_ := ((HB.out.cell (World.block_lt_of_cell? w _ hw1332_3)).trans hw1332_3); first | exact h_ | (simp only [*] at h_; exact h_) | (simp [*]; done) | simpa [*] using h_)⟩ (fun hHeld => ?_)
                  clear hK K
                  refine norm_ (a' := ?_) ?_ ?_
                  rotate_left
                  · show Act.put _ (some 23) _ = _
                    simp only [Act.put, List.setIfInBounds_toArray, List.set_cons_zero, List.set_cons_succ, i64_w, i32_w]
                    rfl
                  refine pure_ (i := 7) (N := some 24) (v := ?_) (a' := ?_) #[true, true, true, true, true, true, true, true] rfl rfl (any_of HT_.out (by kernel_rfl)) (fun _ _ _ h => h) (Or.inl ⟨by rfl, ?_⟩) ?_ ?_
                  rotate_left
                  · intro w'
                    go_simp
                    with_reducible rfl
                  rotate_left
                  · simp only [Act.put, List.setIfInBounds_toArray, List.set_cons_zero, List.set_cons_succ, i64_w, i32_w]
                    rfl
                  refine done_ (done_of HT_.out (by kernel_rfl)) ?_
                  try go_wp2
                  go_ret
                  exact ⟨by first | rfl | (simp [errW_none, errW_some] <;> rfl) | (simp [*, errW_none, errW_some] <;> rfl), by repeat (first | (with_reducible first | exact HB.out | apply below_alloc | apply pw_below_drewN | apply below_drew1 | refine below_set ?_ GE1330.out | refine below_set ?_ GE1331.out) | exact HB.out)⟩
              · rw [if_neg c13] at H
                exact absurd H (by simp)
            · rw [if_neg c12] at H
              exact absurd H (by simp)
          · replace c11 := Bool.eq_false_iff.mpr c11
            subst c11
            have H1 : ((spec_l2Memory.f kj4 l0_0).bind fun t1334 => (if t1334 = true then (some (decide ((l1_0.length : Int) ≤ 12))) else (some false))) = some r := by rw [if_neg (show ¬ (false = true) by decide)] at H; exact H
            clear H
            have H := H1
            clear H1
            replace H := Option.bind_eq_some_iff.mp H
            obtain ⟨t1334, A200, H⟩ := H
            replace H : (if t1334 = true then (some (decide ((l1_0.length : Int) ≤ 12))) else (some false)) = some r := H
            have A20 := Aside0.mk A200
            clear A200
            by_cases c21 : t1334 = true
            · subst c21
              have H1 : (some (decide ((l1_0.length : Int) ≤ 12))) = some r := by rw [if_pos rfl] at H; exact H
              clear H
              have H := H1
              clear H1
              obtain rfl := Option.some.inj H
              have hnb22 := NB1330_1331.out
              have hnc22 := NB1331_1330.out
              have hcz23_0 : wc.cell? ⟨gb1330, 0, none⟩ = some (.slice A0_0 l0_0.length c0_0) := (blk_cell BK1330.out 0).trans rfl
              have hfz23_0 := blk_frozen BK1330.out 0
              go_wp2_with (first | ((with_reducible refine gate_callee (f := 72) rfl ?_); refine goesL_ (some 26) rfl rfl Try.func72 (by kernel_rfl) rfl #[.agg #[.slice A0_0 l0_0.length c0_0]] rfl (by (try simp only [List.map_toArray, List.map_cons, List.map_nil]); first | done | rfl | (simp only [List.length_drop, List.length_take]; rfl)) ?_; (with_reducible refine (spec_l2Memory.calls kj4 _ _ l0_0 true _ ?side1 ?side2 A20.out).mono ?_); (case side1 => repeat (first | exact (Kd.C_below HR0_0.out HB.out) | (with_reducible refine Kd.C_alloc ?_ _) | (with_reducible refine Kd.C_drewN ?_ _) | (with_reducible refine Kd.C_drew ?_))); (case side2 => exact HC0_0.out); rintro e w24 ⟨rfl, hb⟩; refine ⟨_, rfl, ?_⟩; have n0_ := Aside0.mk (blk_below (g := gb1330) (o := .cells #[.slice A0_0 l0_0.length c0_0] 26 (0, 0)) (by (with_reducible repeat (first | refine blk_drewN ?_ _ | refine blk_drew ?_ | refine blk_alloc ?_ _)); exact BK1330.out) hb); have n1_ := Aside0.mk (blk_below (g := gb1331) (o := .cells #[.slice A1_0 l1_0.length c1_0] 102 (0, 0)) (by (with_reducible repeat (first | refine blk_drewN ?_ _ | refine blk_drew ?_ | refine blk_alloc ?_ _)); exact BK1331.out) hb); have n2_ := Aside0.mk (below_step (by repeat (first | (with_reducible first | exact HB.out | apply below_alloc | apply pw_below_drewN | apply below_drew1 | refine below_set ?_ GE1330.out | refine below_set ?_ GE1331.out) | exact HB.out)) hb); clear BK1330; clear BK1331; clear HB; have BK1330 := n0_; have BK1331 := n1_; have HB := n2_; clear n0_ n1_ n2_; (try clear hb); (try clear hb2); (try clear hk); (try clear hi); have hcz25_0 : w24.cell? ⟨gb1331, 0, none⟩ = some (.slice A1_0 l1_0.length c1_0) := (blk_cell BK1331.out 0).trans rfl; have hfz25_0 := blk_frozen BK1331.out 0))
              go_ret
              exact ⟨by first | rfl | (simp [errW_none, errW_some] <;> rfl) | (simp [*, errW_none, errW_some] <;> rfl), by repeat (first | (with_reducible first | exact HB.out | apply below_alloc | apply pw_below_drewN | apply below_drew1 | refine below_set ?_ GE1330.out | refine below_set ?_ GE1331.out) | exact HB.out)⟩
            · replace c21 := Bool.eq_false_iff.mpr c21
              subst c21
              have H1 : (some false) = some r := by rw [if_neg (show ¬ (false = true) by decide)] at H; exact H
              clear H
              have H := H1
              clear H1
              obtain rfl := Option.some.inj H
              have hnb26 := NB1330_1331.out
              have hnc26 := NB1331_1330.out
              have hcz27_0 : wc.cell? ⟨gb1330, 0, none⟩ = some (.slice A0_0 l0_0.length c0_0) := (blk_cell BK1330.out 0).trans rfl
              have hfz27_0 := blk_frozen BK1330.out 0
              go_wp2_with (first | ((with_reducible refine gate_callee (f := 72) rfl ?_); refine goesL_ (some 26) rfl rfl Try.func72 (by kernel_rfl) rfl #[.agg #[.slice A0_0 l0_0.length c0_0]] rfl (by (try simp only [List.map_toArray, List.map_cons, List.map_nil]); first | done | rfl | (simp only [List.length_drop, List.length_take]; rfl)) ?_; (with_reducible refine (spec_l2Memory.calls kj4 _ _ l0_0 false _ ?side1 ?side2 A20.out).mono ?_); (case side1 => repeat (first | exact (Kd.C_below HR0_0.out HB.out) | (with_reducible refine Kd.C_alloc ?_ _) | (with_reducible refine Kd.C_drewN ?_ _) | (with_reducible refine Kd.C_drew ?_))); (case side2 => exact HC0_0.out); rintro e w28 ⟨rfl, hb⟩; refine ⟨_, rfl, ?_⟩; have n0_ := Aside0.mk (blk_below (g := gb1330) (o := .cells #[.slice A0_0 l0_0.length c0_0] 26 (0, 0)) (by (with_reducible repeat (first | refine blk_drewN ?_ _ | refine blk_drew ?_ | refine blk_alloc ?_ _)); exact BK1330.out) hb); have n1_ := Aside0.mk (blk_below (g := gb1331) (o := .cells #[.slice A1_0 l1_0.length c1_0] 102 (0, 0)) (by (with_reducible repeat (first | refine blk_drewN ?_ _ | refine blk_drew ?_ | refine blk_alloc ?_ _)); exact BK1331.out) hb); have n2_ := Aside0.mk (below_step (by repeat (first | (with_reducible first | exact HB.out | apply below_alloc | apply pw_below_drewN | apply below_drew1 | refine below_set ?_ GE1330.out | refine below_set ?_ GE1331.out) | exact HB.out)) hb); clear BK1330; clear BK1331; clear HB; have BK1330 := n0_; have BK1331 := n1_; have HB := n2_; clear n0_ n1_ n2_; (try clear hb); (try clear hb2); (try clear hk); (try clear hi)))
              go_ret
              exact ⟨by first | rfl | (simp [errW_none, errW_some] <;> rfl) | (simp [*, errW_none, errW_some] <;> rfl), by repeat (first | (with_reducible first | exact HB.out | apply below_alloc | apply pw_below_drewN | apply below_drew1 | refine below_set ?_ GE1330.out | refine below_set ?_ GE1331.out) | exact HB.out)⟩

end Go.Proofs.Ytoomjghabiojkaa.P


namespace Go.Proofs.Ytoomjghabiojkaa.P
open Go.RowKit Go.Proofs.YtoomjghabiojkaaW.PrintWords Go.Proofs.YtoomjghabiojkaaW.PrintLast Go.Proofs.YtoomjghabiojkaaW.PrintMore
attribute [local go_sem] max2_int min2_int max_two min_two max_three min_three max_four min_four   -- for this text's walks alone
set_option linter.unusedVariables false
set_option linter.unusedSimpArgs false

def spec_l7New.f (k : Nat) (l0_0 : List (List Int)) (l1 : List Int) : Option ((List (List Int)) × (List (SimplWindow)) × Bool) := if (l1.length : Int) = 0 then ((spec_l2Own.f k l0_0).bind fun t1338 => (some (t1338, (([] : List (SimplWindow))), true))) else (if (l1.length : Int) > 64 then (some (([] : List (List Int)), ([] : List (SimplWindow)), false)) else (if (l0_0.length : Int) = 16 then (some (([] : List (List Int)), ([] : List (SimplWindow)), false)) else ((spec_l2New.f k l0_0 l1 (l1.length : Int)).bind fun bt1344 => (some (bt1344.1, (([(⟨bt1344.2.1, bt1344.2.2.1, bt1344.2.2.2.1, bt1344.2.2.2.2⟩ : SimplWindow)] : List (SimplWindow))), true)))))
def spec_l7New.T6 : Bool × List (List Nat × List Nat) := (true, [([], []), ([], []), ([1], [1]), ([2], [2]), ([0, 0], [0]), ([3, 4, 0, 1, 2, 3, 4], [3]), ([5, 0, 1, 2, 3, 4, 5], [])])
def spec_l7New.B6 : List Nat := [0, 0, 2, 6, 1, 31, 63]
theorem spec_l7New.tab6 : rtab .any (opsOf Try.f126 6) = spec_l7New.T6 := by kernel_rfl
theorem spec_l7New.bits6 : waitsOk spec_l7New.T6.2 spec_l7New.B6 = true := by kernel_rfl
set_option maxHeartbeats 8000000 in
set_option maxRecDepth 100000 in
theorem spec_l7New.calls (k : Nat) (A0_0 : Option Addr) (c0_0 : Nat) (l0_0 : List (List Int)) (A1 : Option Addr) (c1 : Nat) (l1 : List Int) (r1 : List (List Int)) (r2 : List (SimplWindow)) (r3 : Bool) (w : World) (hr0_0 : Kd.C (Kd.slice 5 (Kd.int .u8)) w A0_0 l0_0.length l0_0) (hc0_0 : l0_0.length ≤ c0_0) (hr1 : Kd.C (Kd.int .u8) w A1 l1.length l1) (hc1 : l1.length ≤ c1) (h : spec_l7New.f k l0_0 l1 = some (r1, r2, r3)) :
    Calls Try.prog 126 #[.agg #[.slice A0_0 l0_0.length c0_0], .slice A1 l1.length c1] w fun e w' => ∃ v0_ v1_ : Value, e = .returned (.tuple #[.agg #[v0_], .agg #[v1_], .bool r3]) ∧ Kd.S (Kd.slice 5 (Kd.int .u8)) 119 w' w.heap.size (fun _ => True) v0_ r1 ∧ Kd.R kimplWindow 48 w' w.heap.size (fun _ => True) v1_ r2 ∧ Below w.heap.size w w' := by
  have hu26 := Try.underlying26
  have hu102 := Try.underlying102
  have hu48 := Try.underlying48
  have HR0_0 := Aside0.mk hr0_0
  have HC0_0 := Aside0.mk hc0_0
  clear hr0_0 hc0_0
  have HR1 := Aside0.mk hr1
  have HC1 := Aside0.mk hc1
  clear hr1 hc1
  have HB := Aside0.mk (Below.refl w.heap.size w)
  have H : (if (l1.length : Int) = 0 then ((spec_l2Own.f k l0_0).bind fun t1338 => (some (t1338, (([] : List (SimplWindow))), true))) else (if (l1.length : Int) > 64 then (some (([] : List (List Int)), ([] : List (SimplWindow)), false)) else (if (l0_0.length : Int) = 16 then (some (([] : List (List Int)), ([] : List (SimplWindow)), false)) else ((spec_l2New.f k l0_0 l1 (l1.length : Int)).bind fun bt1344 => (some (bt1344.1, (([(⟨bt1344.2.1, bt1344.2.2.1, bt1344.2.2.2.1, bt1344.2.2.2.2⟩ : SimplWindow)] : List (SimplWindow))), true)))))) = some (r1, r2, r3) := h
  clear h
  by_cases c3 : (l1.length : Int) = 0
  · rw [if_pos c3] at H
    have c3b0 : ((l1.length : Int) == 0) = true := beq_iff_eq.mpr c3
    have c3b1 : ((l1.length : Int) != 0) = false := bne_eq_false_iff_eq.mpr c3
    clear c3
    replace H := Option.bind_eq_some_iff.mp H
    obtain ⟨t1338, A40, H⟩ := H
    replace H : (some (t1338, (([] : List (SimplWindow))), true)) = some (r1, r2, r3) := H
    have A4 := Aside0.mk A40
    clear A40
    obtain ⟨y1341, hy1341⟩ : ∃ y_ : List (SimplWindow), y_ = (([] : List (SimplWindow))) := ⟨_, rfl⟩
    replace H : (some (t1338, y1341, true)) = some (r1, r2, r3) := by first | (rw [hy1341]; with_reducible exact H) | (have H2_ := (Option.bind_some _ _).symm.trans H; rw [hy1341]; with_reducible exact H2_) | (have H2_ := (Option.bind_some _ _).symm.trans H; with_reducible exact H2_) | with_reducible exact H | (rw [hy1341]; exact H) | exact H
    have Ny1341 := Aside0.mk hy1341
    clear hy1341
    simp only [Option.some.injEq, Prod.mk.injEq] at H
    obtain ⟨rfl, rfl, rfl⟩ := H
    go_enter Try.func126, Try.ntmps126
    go_wp2_with (first | ((with_reducible refine gate_dst (N := 2) rfl ?_); (try (refine gate_guard (by rfl) ?_; dsimp only)); refine box_event ?hg (N := 2) ?hd (cs := #[.slice A0_0 l0_0.length c0_0]) (t := 26) ?hr ?_; (case hd => rfl); (case hg => rfl); (case hr => first | (go_simp; done) | (go_simp; rfl)); intro gb1335 hg w5 hbox hb; have n0_ := Aside0.mk (below_step (by repeat (first | (with_reducible first | exact HB.out | apply below_alloc | apply pw_below_drewN | apply below_drew1) | exact HB.out)) hb); have n1_ := Aside0.mk (hbox); have n2_ := Aside0.mk ((by rw [hg]; exact (below_size (by repeat (first | (with_reducible first | exact HB.out | apply below_alloc | apply pw_below_drewN | apply below_drew1) | exact HB.out))) : w.heap.size ≤ gb1335)); have n3_ := Aside0.mk ((by rw [hg]; exact (below_size (by repeat (first | (with_reducible first | exact HB.out | apply below_alloc | apply pw_below_drewN | apply below_drew1) | exact HB.out))) : w.heap.size ≤ gb1335)); clear HB; have HB := n0_; have BK1335 := n1_; have GW1335 := n2_; have GE1335 := n3_; clear n0_ n1_ n2_ n3_; clear hb hbox hg) | ((with_reducible refine gate_dst (N := 4) rfl ?_); (try (refine gate_guard (by rfl) ?_; dsimp only)); refine box_event ?hg (N := 4) ?hd (cs := #[.slice none 0 0]) (t := 26) ?hr ?_; (case hd => rfl); (case hg => rfl); (case hr => first | (go_simp; done) | (go_simp; rfl)); intro gb1336 hg w6 hbox hb; have n0_ := Aside0.mk (blk_below (g := gb1335) (o := .cells #[.slice A0_0 l0_0.length c0_0] 26 (0, 0)) (by (with_reducible repeat (first | refine blk_drewN ?_ _ | refine blk_drew ?_ | refine blk_alloc ?_ _)); exact BK1335.out) hb); have n1_ := Aside0.mk (below_step (by repeat (first | (with_reducible first | exact HB.out | apply below_alloc | apply pw_below_drewN | apply below_drew1 | refine below_set ?_ GE1335.out) | exact HB.out)) hb); have n2_ := Aside0.mk (hbox); have n3_ := Aside0.mk ((by rw [hg]; exact (below_size (by repeat (first | (with_reducible first | exact HB.out | apply below_alloc | apply pw_below_drewN | apply below_drew1 | refine below_set ?_ GE1335.out) | exact HB.out))) : w.heap.size ≤ gb1336)); have n4_ := Aside0.mk ((by rw [hg]; exact (below_size (by repeat (first | (with_reducible first | exact HB.out | apply below_alloc | apply pw_below_drewN | apply below_drew1 | refine below_set ?_ GE1335.out) | exact HB.out))) : w.heap.size ≤ gb1336)); have n5_ := Aside0.mk ((by rw [hg]; exact Nat.ne_of_lt (blk_lt (g := gb1335) (o := .cells #[.slice A0_0 l0_0.length c0_0] 26 (0, 0)) (by (with_reducible repeat (first | refine blk_drewN ?_ _ | refine blk_drew ?_ | refine blk_alloc ?_ _)); exact BK1335.out)) : gb1335 ≠ gb1336)); have n6_ := Aside0.mk ((by rw [hg]; exact Nat.ne_of_gt (blk_lt (g := gb1335) (o := .cells #[.slice A0_0 l0_0.length c0_0] 26 (0, 0)) (by (with_reducible repeat (first | refine blk_drewN ?_ _ | refine blk_drew ?_ | refine blk_alloc ?_ _)); exact BK1335.out)) : gb1336 ≠ gb1335)); clear BK1335; clear HB; have BK1335 := n0_; have HB := n1_; have BK1336 := n2_; have GW1336 := n3_; have GE1336 := n4_; have NB1335_1336 := n5_; have NB1336_1335 := n6_; clear n0_ n1_ n2_ n3_ n4_ n5_ n6_; clear hb hbox hg) | ((with_reducible refine gate_dst (N := 5) rfl ?_); (try (refine gate_guard (by rfl) ?_; dsimp only)); refine box_event ?hg (N := 5) ?hd (cs := #[.slice none 0 0]) (t := 102) ?hr ?_; (case hd => rfl); (case hg => rfl); (case hr => first | (go_simp; done) | (go_simp; rfl)); intro gb1337 hg w7 hbox hb; have n0_ := Aside0.mk (blk_below (g := gb1335) (o := .cells #[.slice A0_0 l0_0.length c0_0] 26 (0, 0)) (by (with_reducible repeat (first | refine blk_drewN ?_ _ | refine blk_drew ?_ | refine blk_alloc ?_ _)); exact BK1335.out) hb); have n1_ := Aside0.mk (blk_below (g := gb1336) (o := .cells #[.slice none 0 0] 26 (0, 0)) (by (with_reducible repeat (first | refine blk_drewN ?_ _ | refine blk_drew ?_ | refine blk_alloc ?_ _)); exact BK1336.out) hb); have n2_ := Aside0.mk (below_step (by repeat (first | (with_reducible first | exact HB.out | apply below_alloc | apply pw_below_drewN | apply below_drew1 | refine below_set ?_ GE1335.out | refine below_set ?_ GE1336.out) | exact HB.out)) hb); have n3_ := Aside0.mk (hbox); have n4_ := Aside0.mk ((by rw [hg]; exact (below_size (by repeat (first | (with_reducible first | exact HB.out | apply below_alloc | apply pw_below_drewN | apply below_drew1 | refine below_set ?_ GE1335.out | refine below_set ?_ GE1336.out) | exact HB.out))) : w.heap.size ≤ gb1337)); have n5_ := Aside0.mk ((by rw [hg]; exact (below_size (by repeat (first | (with_reducible first | exact HB.out | apply below_alloc | apply pw_below_drewN | apply below_drew1 | refine below_set ?_ GE1335.out | refine below_set ?_ GE1336.out) | exact HB.out))) : w.heap.size ≤ gb1337)); have n6_ := Aside0.mk ((by rw [hg]; exact Nat.ne_of_lt (blk_lt (g := gb1335) (o := .cells #[.slice A0_0 l0_0.length c0_0] 26 (0, 0)) (by (with_reducible repeat (first | refine blk_drewN ?_ _ | refine blk_drew ?_ | refine blk_alloc ?_ _)); exact BK1335.out)) : gb1335 ≠ gb1337)); have n7_ := Aside0.mk ((by rw [hg]; exact Nat.ne_of_gt (blk_lt (g := gb1335) (o := .cells #[.slice A0_0 l0_0.length c0_0] 26 (0, 0)) (by (with_reducible repeat (first | refine blk_drewN ?_ _ | refine blk_drew ?_ | refine blk_alloc ?_ _)); exact BK1335.out)) : gb1337 ≠ gb1335)); have n8_ := Aside0.mk ((by rw [hg]; exact Nat.ne_of_lt (blk_lt (g := gb1336) (o := .cells #[.slice none 0 0] 26 (0, 0)) (by (with_reducible repeat (first | refine blk_drewN ?_ _ | refine blk_drew ?_ | refine blk_alloc ?_ _)); exact BK1336.out)) : gb1336 ≠ gb1337)); have n9_ := Aside0.mk ((by rw [hg]; exact Nat.ne_of_gt (blk_lt (g := gb1336) (o := .cells #[.slice none 0 0] 26 (0, 0)) (by (with_reducible repeat (first | refine blk_drewN ?_ _ | refine blk_drew ?_ | refine blk_alloc ?_ _)); exact BK1336.out)) : gb1337 ≠ gb1336)); clear BK1335; clear BK1336; clear HB; have BK1335 := n0_; have BK1336 := n1_; have HB := n2_; have BK1337 := n3_; have GW1337 := n4_; have GE1337 := n5_; have NB1335_1337 := n6_; have NB1337_1335 := n7_; have NB1336_1337 := n8_; have NB1337_1336 := n9_; clear n0_ n1_ n2_ n3_ n4_ n5_ n6_ n7_ n8_ n9_; clear hb hbox hg; have hnb8 := NB1335_1336.out; have hnc8 := NB1336_1335.out; have hnb9 := NB1335_1337.out; have hnc9 := NB1337_1335.out; have hcz10_0 : w7.cell? ⟨gb1335, 0, none⟩ = some (.slice A0_0 l0_0.length c0_0) := (blk_cell BK1335.out 0).trans rfl; have hfz10_0 := blk_frozen BK1335.out 0) | ((with_reducible refine gate_callee (f := 89) rfl ?_); refine goesL_ (some 13) rfl rfl Try.func89 (by kernel_rfl) rfl #[.agg #[.slice A0_0 l0_0.length c0_0]] rfl (by (try simp only [List.map_toArray, List.map_cons, List.map_nil]); first | done | rfl | (simp only [List.length_drop, List.length_take]; rfl)) ?_; (with_reducible refine (spec_l2Own.calls k _ _ l0_0 t1338 _ ?side1 ?side2 A4.out).mono ?_); (case side1 => repeat (first | exact (Kd.C_below HR0_0.out HB.out) | (with_reducible refine Kd.C_alloc ?_ _) | (with_reducible refine Kd.C_drewN ?_ _) | (with_reducible refine Kd.C_drew ?_))); (case side2 => exact HC0_0.out); rintro e w11 ⟨v1339, rfl, ho0, hb⟩; refine ⟨_, rfl, ?_⟩; have n0_ := Aside0.mk (Kd.S_lower ho0 (below_size (by repeat (first | (with_reducible first | exact HB.out | apply below_alloc | apply pw_below_drewN | apply below_drew1 | refine below_set ?_ GE1335.out | refine below_set ?_ GE1336.out | refine below_set ?_ GE1337.out) | exact HB.out)))); have n1_ := Aside0.mk (blk_below (g := gb1335) (o := .cells #[.slice A0_0 l0_0.length c0_0] 26 (0, 0)) (by (with_reducible repeat (first | refine blk_drewN ?_ _ | refine blk_drew ?_ | refine blk_alloc ?_ _)); exact BK1335.out) hb); have n2_ := Aside0.mk (blk_below (g := gb1336) (o := .cells #[.slice none 0 0] 26 (0, 0)) (by (with_reducible repeat (first | refine blk_drewN ?_ _ | refine blk_drew ?_ | refine blk_alloc ?_ _)); exact BK1336.out) hb); have n3_ := Aside0.mk (blk_below (g := gb1337) (o := .cells #[.slice none 0 0] 102 (0, 0)) (by (with_reducible repeat (first | refine blk_drewN ?_ _ | refine blk_drew ?_ | refine blk_alloc ?_ _)); exact BK1337.out) hb); have n4_ := Aside0.mk (below_step (by repeat (first | (with_reducible first | exact HB.out | apply below_alloc | apply pw_below_drewN | apply below_drew1 | refine below_set ?_ GE1335.out | refine below_set ?_ GE1336.out | refine below_set ?_ GE1337.out) | exact HB.out)) hb); clear BK1335; clear BK1336; clear BK1337; clear HB; have HO1340 := n0_; have BK1335 := n1_; have BK1336 := n2_; have BK1337 := n3_; have HB := n4_; clear n0_ n1_ n2_ n3_ n4_; (try clear hb); (try clear hb2); (try clear hk); (try clear hi); (try clear ho0)) | ((with_reducible refine gate_dst (N := 14) rfl ?_); (try (refine gate_guard (by rfl) ?_; dsimp only)); refine Kd.R_lit kimplWindow _ 48 ?hg (N := 14) ?hd (xs := ([] : List (SimplWindow))) (inner := []) (ok := fun _ => True) (okp := fun _ => True) ?hr ?hp (fun _ hk => hk) trivial (Below.refl _ _) (Nat.le_refl _) (by simp) ?_; (case hd => rfl); (case hg => rfl); (case hr => first | (go_simp; done) | (go_simp; rfl)); (case hp => exact (Reps.none _ _)); intro v1342 w12 ho13 hb hg_ hnew_; clear hg_ hnew_; (first | rw [← Ny1341.out] at ho13 | (simp only [Int.reduceToNat] at ho13; rw [← Ny1341.out] at ho13)); have n0_ := Aside0.mk (Kd.S_below (by (with_reducible repeat (first | apply Kd.S_alloc | apply Kd.S_drewN | apply Kd.S_drew)); exact HO1340.out) hb); have n1_ := Aside0.mk (Kd.R_lower ho13 (below_size (by repeat (first | (with_reducible first | exact HB.out | apply below_alloc | apply pw_below_drewN | apply below_drew1 | refine below_set ?_ GE1335.out | refine below_set ?_ GE1336.out | refine below_set ?_ GE1337.out) | exact HB.out)))); have n2_ := Aside0.mk (blk_below (g := gb1335) (o := .cells #[.slice A0_0 l0_0.length c0_0] 26 (0, 0)) (by (with_reducible repeat (first | refine blk_drewN ?_ _ | refine blk_drew ?_ | refine blk_alloc ?_ _)); exact BK1335.out) hb); have n3_ := Aside0.mk (blk_below (g := gb1336) (o := .cells #[.slice none 0 0] 26 (0, 0)) (by (with_reducible repeat (first | refine blk_drewN ?_ _ | refine blk_drew ?_ | refine blk_alloc ?_ _)); exact BK1336.out) hb); have n4_ := Aside0.mk (blk_below (g := gb1337) (o := .cells #[.slice none 0 0] 102 (0, 0)) (by (with_reducible repeat (first | refine blk_drewN ?_ _ | refine blk_drew ?_ | refine blk_alloc ?_ _)); exact BK1337.out) hb); have n5_ := Aside0.mk (below_step (by repeat (first | (with_reducible first | exact HB.out | apply below_alloc | apply pw_below_drewN | apply below_drew1 | refine below_set ?_ GE1335.out | refine below_set ?_ GE1336.out | refine below_set ?_ GE1337.out) | exact HB.out)) hb); clear HO1340; clear BK1335; clear BK1336; clear BK1337; clear HB; have HO1340 := n0_; have HO1343 := n1_; have BK1335 := n2_; have BK1336 := n3_; have BK1337 := n4_; have HB := n5_; clear n0_ n1_ n2_ n3_ n4_ n5_; clear hb ho13; obtain ⟨Ao14, co14, eo14⟩ := Kd.R_slice HO1343.out; subst eo14; obtain ⟨Ao15, co15, eo15⟩ := Kd.S_slice HO1340.out; subst eo15; have hnb16 := NB1336_1337.out; have hnc16 := NB1337_1336.out; have hcz17_0 : w12.cell? ⟨gb1336, 0, none⟩ = some (.slice none 0 0) := (blk_cell BK1336.out 0).trans rfl; have hfz17_0 := blk_frozen BK1336.out 0; have hcz18_0 : w12.cell? ⟨gb1337, 0, none⟩ = some (.slice none 0 0) := (blk_cell BK1337.out 0).trans rfl; have hfz18_0 := blk_frozen BK1337.out 0))
    refine bodyPost_ret (results_list (rs := [.cell 4 26, .cell 5 102, .tmp 6]) rfl (by simp) (.cell gb1336 26 #[.slice Ao15 t1338.length co15] (0, 0) _ rfl (by (with_reducible repeat (first | refine blk_drewN ?_ _ | refine blk_drew ?_ | refine blk_alloc ?_ _)); refine blk_far ?_ NB1336_1337.out _; (with_reducible repeat (first | refine blk_drewN ?_ _ | refine blk_drew ?_ | refine blk_alloc ?_ _)); refine blk_put (cs := #[.slice none 0 0]) ?_ 0 _ rfl; (with_reducible repeat (first | refine blk_drewN ?_ _ | refine blk_drew ?_ | refine blk_alloc ?_ _)); exact BK1336.out) Try.underlying26 rfl (by kernel_rfl) (.cell gb1337 102 #[.slice Ao14 y1341.length co14] (0, 0) _ rfl (by (with_reducible repeat (first | refine blk_drewN ?_ _ | refine blk_drew ?_ | refine blk_alloc ?_ _)); refine blk_put (cs := #[.slice none 0 0]) ?_ 0 _ rfl; (with_reducible repeat (first | refine blk_drewN ?_ _ | refine blk_drew ?_ | refine blk_alloc ?_ _)); refine blk_far ?_ NB1337_1336.out _; (with_reducible repeat (first | refine blk_drewN ?_ _ | refine blk_drew ?_ | refine blk_alloc ?_ _)); exact BK1337.out) Try.underlying102 rfl (by kernel_rfl) (.tmp .nil)))) rfl ?_
    exact ⟨_, _, by first | rfl | (simp [errW_none, errW_some] <;> rfl) | (simp [*, errW_none, errW_some] <;> rfl), by (with_reducible repeat (first | apply Kd.S_alloc | apply Kd.S_drewN | apply Kd.S_drew)); exact Kd.S_mono (Kd.S_far (p := ⟨gb1337, 0, none⟩) (Kd.S_far (p := ⟨gb1336, 0, none⟩) (Kd.S_types (Kd.S_types HO1340.out BK1336.out (by decide)) BK1337.out (by decide)) (fun _ hk => hk.1.2) (.slice Ao15 t1338.length co15)) (fun _ hk => hk.2) (.slice Ao14 y1341.length co14)) (fun _ hk => trivial), by (with_reducible repeat (first | apply Kd.R_alloc | apply Kd.R_drewN | apply Kd.R_drew)); exact Kd.R_mono (Kd.R_far (p := ⟨gb1337, 0, none⟩) (Kd.R_far (p := ⟨gb1336, 0, none⟩) (Kd.R_types (Kd.R_types HO1343.out BK1336.out (by decide)) BK1337.out (by decide)) (fun _ hk => hk.1.2) (.slice Ao15 t1338.length co15)) (fun _ hk => hk.2) (.slice Ao14 y1341.length co14)) (fun _ hk => trivial), by repeat (first | (with_reducible first | exact HB.out | apply below_alloc | apply pw_below_drewN | apply below_drew1 | refine below_set ?_ GE1335.out | refine below_set ?_ GE1336.out | refine below_set ?_ GE1337.out) | exact HB.out)⟩
  · rw [if_neg c3] at H
    have c3b0 : ((l1.length : Int) == 0) = false := beq_eq_false_iff_ne.mpr c3
    have c3b1 : ((l1.length : Int) != 0) = true := bne_iff_ne.mpr c3
    have c3b2 : ¬ (l1 = []) := fun h_ => c3 (by rw [h_]; rfl)
    by_cases c19 : (l1.length : Int) > 64
    · rw [if_pos c19] at H
      have c19b0 : decide (64 < (l1.length : Int)) = true := decide_eq_true c19
      have c19b1 : decide (64 < l1.length) = true := decide_eq_true (by omega)
      clear c19
      simp only [Option.some.injEq, Prod.mk.injEq] at H
      obtain ⟨rfl, rfl, rfl⟩ := H
      go_enter Try.func126, Try.ntmps126
      go_wp2_with (first | ((with_reducible refine gate_dst (N := 2) rfl ?_); (try (refine gate_guard (by rfl) ?_; dsimp only)); refine box_event ?hg (N := 2) ?hd (cs := #[.slice A0_0 l0_0.length c0_0]) (t := 26) ?hr ?_; (case hd => rfl); (case hg => rfl); (case hr => first | (go_simp; done) | (go_simp; rfl)); intro gb1335 hg w20 hbox hb; have n0_ := Aside0.mk (below_step (by repeat (first | (with_reducible first | exact HB.out | apply below_alloc | apply pw_below_drewN | apply below_drew1) | exact HB.out)) hb); have n1_ := Aside0.mk (hbox); have n2_ := Aside0.mk ((by rw [hg]; exact (below_size (by repeat (first | (with_reducible first | exact HB.out | apply below_alloc | apply pw_below_drewN | apply below_drew1) | exact HB.out))) : w.heap.size ≤ gb1335)); have n3_ := Aside0.mk ((by rw [hg]; exact (below_size (by repeat (first | (with_reducible first | exact HB.out | apply below_alloc | apply pw_below_drewN | apply below_drew1) | exact HB.out))) : w.heap.size ≤ gb1335)); clear HB; have HB := n0_; have BK1335 := n1_; have GW1335 := n2_; have GE1335 := n3_; clear n0_ n1_ n2_ n3_; clear hb hbox hg) | ((with_reducible refine gate_dst (N := 4) rfl ?_); (try (refine gate_guard (by rfl) ?_; dsimp only)); refine box_event ?hg (N := 4) ?hd (cs := #[.slice none 0 0]) (t := 26) ?hr ?_; (case hd => rfl); (case hg => rfl); (case hr => first | (go_simp; done) | (go_simp; rfl)); intro gb1336 hg w21 hbox hb; have n0_ := Aside0.mk (blk_below (g := gb1335) (o := .cells #[.slice A0_0 l0_0.length c0_0] 26 (0, 0)) (by (with_reducible repeat (first | refine blk_drewN ?_ _ | refine blk_drew ?_ | refine blk_alloc ?_ _)); exact BK1335.out) hb); have n1_ := Aside0.mk (below_step (by repeat (first | (with_reducible first | exact HB.out | apply below_alloc | apply pw_below_drewN | apply below_drew1 | refine below_set ?_ GE1335.out) | exact HB.out)) hb); have n2_ := Aside0.mk (hbox); have n3_ := Aside0.mk ((by rw [hg]; exact (below_size (by repeat (first | (with_reducible first | exact HB.out | apply below_alloc | apply pw_below_drewN | apply below_drew1 | refine below_set ?_ GE1335.out) | exact HB.out))) : w.heap.size ≤ gb1336)); have n4_ := Aside0.mk ((by rw [hg]; exact (below_size (by repeat (first | (with_reducible first | exact HB.out | apply below_alloc | apply pw_below_drewN | apply below_drew1 | refine below_set ?_ GE1335.out) | exact HB.out))) : w.heap.size ≤ gb1336)); have n5_ := Aside0.mk ((by rw [hg]; exact Nat.ne_of_lt (blk_lt (g := gb1335) (o := .cells #[.slice A0_0 l0_0.length c0_0] 26 (0, 0)) (by (with_reducible repeat (first | refine blk_drewN ?_ _ | refine blk_drew ?_ | refine blk_alloc ?_ _)); exact BK1335.out)) : gb1335 ≠ gb1336)); have n6_ := Aside0.mk ((by rw [hg]; exact Nat.ne_of_gt (blk_lt (g := gb1335) (o := .cells #[.slice A0_0 l0_0.length c0_0] 26 (0, 0)) (by (with_reducible repeat (first | refine blk_drewN ?_ _ | refine blk_drew ?_ | refine blk_alloc ?_ _)); exact BK1335.out)) : gb1336 ≠ gb1335)); clear BK1335; clear HB; have BK1335 := n0_; have HB := n1_; have BK1336 := n2_; have GW1336 := n3_; have GE1336 := n4_; have NB1335_1336 := n5_; have NB1336_1335 := n6_; clear n0_ n1_ n2_ n3_ n4_ n5_ n6_; clear hb hbox hg) | ((with_reducible refine gate_dst (N := 5) rfl ?_); (try (refine gate_guard (by rfl) ?_; dsimp only)); refine box_event ?hg (N := 5) ?hd (cs := #[.slice none 0 0]) (t := 102) ?hr ?_; (case hd => rfl); (case hg => rfl); (case hr => first | (go_simp; done) | (go_simp; rfl)); intro gb1337 hg w22 hbox hb; have n0_ := Aside0.mk (blk_below (g := gb1335) (o := .cells #[.slice A0_0 l0_0.length c0_0] 26 (0, 0)) (by (with_reducible repeat (first | refine blk_drewN ?_ _ | refine blk_drew ?_ | refine blk_alloc ?_ _)); exact BK1335.out) hb); have n1_ := Aside0.mk (blk_below (g := gb1336) (o := .cells #[.slice none 0 0] 26 (0, 0)) (by (with_reducible repeat (first | refine blk_drewN ?_ _ | refine blk_drew ?_ | refine blk_alloc ?_ _)); exact BK1336.out) hb); have n2_ := Aside0.mk (below_step (by repeat (first | (with_reducible first | exact HB.out | apply below_alloc | apply pw_below_drewN | apply below_drew1 | refine below_set ?_ GE1335.out | refine below_set ?_ GE1336.out) | exact HB.out)) hb); have n3_ := Aside0.mk (hbox); have n4_ := Aside0.mk ((by rw [hg]; exact (below_size (by repeat (first | (with_reducible first | exact HB.out | apply below_alloc | apply pw_below_drewN | apply below_drew1 | refine below_set ?_ GE1335.out | refine below_set ?_ GE1336.out) | exact HB.out))) : w.heap.size ≤ gb1337)); have n5_ := Aside0.mk ((by rw [hg]; exact (below_size (by repeat (first | (with_reducible first | exact HB.out | apply below_alloc | apply pw_below_drewN | apply below_drew1 | refine below_set ?_ GE1335.out | refine below_set ?_ GE1336.out) | exact HB.out))) : w.heap.size ≤ gb1337)); have n6_ := Aside0.mk ((by rw [hg]; exact Nat.ne_of_lt (blk_lt (g := gb1335) (o := .cells #[.slice A0_0 l0_0.length c0_0] 26 (0, 0)) (by (with_reducible repeat (first | refine blk_drewN ?_ _ | refine blk_drew ?_ | refine blk_alloc ?_ _)); exact BK1335.out)) : gb1335 ≠ gb1337)); have n7_ := Aside0.mk ((by rw [hg]; exact Nat.ne_of_gt (blk_lt (g := gb1335) (o := .cells #[.slice A0_0 l0_0.length c0_0] 26 (0, 0)) (by (with_reducible repeat (first | refine blk_drewN ?_ _ | refine blk_drew ?_ | refine blk_alloc ?_ _)); exact BK1335.out)) : gb1337 ≠ gb1335)); have n8_ := Aside0.mk ((by rw [hg]; exact Nat.ne_of_lt (blk_lt (g := gb1336) (o := .cells #[.slice none 0 0] 26 (0, 0)) (by (with_reducible repeat (first | refine blk_drewN ?_ _ | refine blk_drew ?_ | refine blk_alloc ?_ _)); exact BK1336.out)) : gb1336 ≠ gb1337)); have n9_ := Aside0.mk ((by rw [hg]; exact Nat.ne_of_gt (blk_lt (g := gb1336) (o := .cells #[.slice none 0 0] 26 (0, 0)) (by (with_reducible repeat (first | refine blk_drewN ?_ _ | refine blk_drew ?_ | refine blk_alloc ?_ _)); exact BK1336.out)) : gb1337 ≠ gb1336)); clear BK1335; clear BK1336; clear HB; have BK1335 := n0_; have BK1336 := n1_; have HB := n2_; have BK1337 := n3_; have GW1337 := n4_; have GE1337 := n5_; have NB1335_1337 := n6_; have NB1337_1335 := n7_; have NB1336_1337 := n8_; have NB1337_1336 := n9_; clear n0_ n1_ n2_ n3_ n4_ n5_ n6_ n7_ n8_ n9_; clear hb hbox hg; have hnb23 := NB1336_1335.out; have hnc23 := NB1335_1336.out; have hnb24 := NB1336_1337.out; have hnc24 := NB1337_1336.out; have hcz25_0 : w22.cell? ⟨gb1336, 0, none⟩ = some (.slice none 0 0) := (blk_cell BK1336.out 0).trans rfl; have hfz25_0 := blk_frozen BK1336.out 0; have hnb26 := NB1337_1335.out; have hnc26 := NB1335_1337.out; have hcz27_0 : w22.cell? ⟨gb1337, 0, none⟩ = some (.slice none 0 0) := (blk_cell BK1337.out 0).trans rfl; have hfz27_0 := blk_frozen BK1337.out 0))
      refine bodyPost_ret (results_list (rs := [.cell 4 26, .cell 5 102, .tmp 6]) rfl (by simp) (.cell gb1336 26 #[.slice none 0 0] (0, 0) _ rfl (by (with_reducible repeat (first | refine blk_drewN ?_ _ | refine blk_drew ?_ | refine blk_alloc ?_ _)); refine blk_far ?_ NB1336_1337.out _; (with_reducible repeat (first | refine blk_drewN ?_ _ | refine blk_drew ?_ | refine blk_alloc ?_ _)); refine blk_put (cs := #[.slice none 0 0]) ?_ 0 _ rfl; (with_reducible repeat (first | refine blk_drewN ?_ _ | refine blk_drew ?_ | refine blk_alloc ?_ _)); exact BK1336.out) Try.underlying26 rfl (by kernel_rfl) (.cell gb1337 102 #[.slice none 0 0] (0, 0) _ rfl (by (with_reducible repeat (first | refine blk_drewN ?_ _ | refine blk_drew ?_ | refine blk_alloc ?_ _)); refine blk_put (cs := #[.slice none 0 0]) ?_ 0 _ rfl; (with_reducible repeat (first | refine blk_drewN ?_ _ | refine blk_drew ?_ | refine blk_alloc ?_ _)); refine blk_far ?_ NB1337_1336.out _; (with_reducible repeat (first | refine blk_drewN ?_ _ | refine blk_drew ?_ | refine blk_alloc ?_ _)); exact BK1337.out) Try.underlying102 rfl (by kernel_rfl) (.tmp .nil)))) rfl ?_
      exact ⟨_, _, by first | rfl | (simp [errW_none, errW_some] <;> rfl) | (simp [*, errW_none, errW_some] <;> rfl), by first | exact Kd.S_nil _ _ _ _ _ | exact Kd.N_nil _ _ _ _ _ | exact Kd.V_nil _ _ _ _ _ | exact Kd.Q_nil _ _ _ _ _ | exact Kd.R_nil _ _ _ _ _, by first | exact Kd.R_nil _ _ _ _ _ | exact Kd.N_nil _ _ _ _ _ | exact Kd.V_nil _ _ _ _ _ | exact Kd.Q_nil _ _ _ _ _ | exact Kd.S_nil _ _ _ _ _, by repeat (first | (with_reducible first | exact HB.out | apply below_alloc | apply pw_below_drewN | apply below_drew1 | refine below_set ?_ GE1335.out | refine below_set ?_ GE1336.out | refine below_set ?_ GE1337.out) | exact HB.out)⟩
    · rw [if_neg c19] at H
      have c19b0 : decide (64 < (l1.length : Int)) = false := decide_eq_false c19
      have c19b1 : decide (64 < l1.length) = false := decide_eq_false (by omega)
      clear c19
      by_cases c28 : (l0_0.length : Int) = 16
      · rw [if_pos c28] at H
        have c28b0 : ((l0_0.length : Int) == 16) = true := beq_iff_eq.mpr c28
        have c28b1 : ((l0_0.length : Int) != 16) = false := bne_eq_false_iff_eq.mpr c28
        clear c28
        simp only [Option.some.injEq, Prod.mk.injEq] at H
        obtain ⟨rfl, rfl, rfl⟩ := H
        go_enter Try.func126, Try.ntmps126
        go_wp2_with (first | ((with_reducible refine gate_dst (N := 2) rfl ?_); (try (refine gate_guard (by rfl) ?_; dsimp only)); refine box_event ?hg (N := 2) ?hd (cs := #[.slice A0_0 l0_0.length c0_0]) (t := 26) ?hr ?_; (case hd => rfl); (case hg => rfl); (case hr => first | (go_simp; done) | (go_simp; rfl)); intro gb1335 hg w29 hbox hb; have n0_ := Aside0.mk (below_step (by repeat (first | (with_reducible first | exact HB.out | apply below_alloc | apply pw_below_drewN | apply below_drew1) | exact HB.out)) hb); have n1_ := Aside0.mk (hbox); have n2_ := Aside0.mk ((by rw [hg]; exact (below_size (by repeat (first | (with_reducible first | exact HB.out | apply below_alloc | apply pw_below_drewN | apply below_drew1) | exact HB.out))) : w.heap.size ≤ gb1335)); have n3_ := Aside0.mk ((by rw [hg]; exact (below_size (by repeat (first | (with_reducible first | exact HB.out | apply below_alloc | apply pw_below_drewN | apply below_drew1) | exact HB.out))) : w.heap.size ≤ gb1335)); clear HB; have HB := n0_; have BK1335 := n1_; have GW1335 := n2_; have GE1335 := n3_; clear n0_ n1_ n2_ n3_; clear hb hbox hg) | ((with_reducible refine gate_dst (N := 4) rfl ?_); (try (refine gate_guard (by rfl) ?_; dsimp only)); refine box_event ?hg (N := 4) ?hd (cs := #[.slice none 0 0]) (t := 26) ?hr ?_; (case hd => rfl); (case hg => rfl); (case hr => first | (go_simp; done) | (go_simp; rfl)); intro gb1336 hg w30 hbox hb; have n0_ := Aside0.mk (blk_below (g := gb1335) (o := .cells #[.slice A0_0 l0_0.length c0_0] 26 (0, 0)) (by (with_reducible repeat (first | refine blk_drewN ?_ _ | refine blk_drew ?_ | refine blk_alloc ?_ _)); exact BK1335.out) hb); have n1_ := Aside0.mk (below_step (by repeat (first | (with_reducible first | exact HB.out | apply below_alloc | apply pw_below_drewN | apply below_drew1 | refine below_set ?_ GE1335.out) | exact HB.out)) hb); have n2_ := Aside0.mk (hbox); have n3_ := Aside0.mk ((by rw [hg]; exact (below_size (by repeat (first | (with_reducible first | exact HB.out | apply below_alloc | apply pw_below_drewN | apply below_drew1 | refine below_set ?_ GE1335.out) | exact HB.out))) : w.heap.size ≤ gb1336)); have n4_ := Aside0.mk ((by rw [hg]; exact (below_size (by repeat (first | (with_reducible first | exact HB.out | apply below_alloc | apply pw_below_drewN | apply below_drew1 | refine below_set ?_ GE1335.out) | exact HB.out))) : w.heap.size ≤ gb1336)); have n5_ := Aside0.mk ((by rw [hg]; exact Nat.ne_of_lt (blk_lt (g := gb1335) (o := .cells #[.slice A0_0 l0_0.length c0_0] 26 (0, 0)) (by (with_reducible repeat (first | refine blk_drewN ?_ _ | refine blk_drew ?_ | refine blk_alloc ?_ _)); exact BK1335.out)) : gb1335 ≠ gb1336)); have n6_ := Aside0.mk ((by rw [hg]; exact Nat.ne_of_gt (blk_lt (g := gb1335) (o := .cells #[.slice A0_0 l0_0.length c0_0] 26 (0, 0)) (by (with_reducible repeat (first | refine blk_drewN ?_ _ | refine blk_drew ?_ | refine blk_alloc ?_ _)); exact BK1335.out)) : gb1336 ≠ gb1335)); clear BK1335; clear HB; have BK1335 := n0_; have HB := n1_; have BK1336 := n2_; have GW1336 := n3_; have GE1336 := n4_; have NB1335_1336 := n5_; have NB1336_1335 := n6_; clear n0_ n1_ n2_ n3_ n4_ n5_ n6_; clear hb hbox hg) | ((with_reducible refine gate_dst (N := 5) rfl ?_); (try (refine gate_guard (by rfl) ?_; dsimp only)); refine box_event ?hg (N := 5) ?hd (cs := #[.slice none 0 0]) (t := 102) ?hr ?_; (case hd => rfl); (case hg => rfl); (case hr => first | (go_simp; done) | (go_simp; rfl)); intro gb1337 hg w31 hbox hb; have n0_ := Aside0.mk (blk_below (g := gb1335) (o := .cells #[.slice A0_0 l0_0.length c0_0] 26 (0, 0)) (by (with_reducible repeat (first | refine blk_drewN ?_ _ | refine blk_drew ?_ | refine blk_alloc ?_ _)); exact BK1335.out) hb); have n1_ := Aside0.mk (blk_below (g := gb1336) (o := .cells #[.slice none 0 0] 26 (0, 0)) (by (with_reducible repeat (first | refine blk_drewN ?_ _ | refine blk_drew ?_ | refine blk_alloc ?_ _)); exact BK1336.out) hb); have n2_ := Aside0.mk (below_step (by repeat (first | (with_reducible first | exact HB.out | apply below_alloc | apply pw_below_drewN | apply below_drew1 | refine below_set ?_ GE1335.out | refine below_set ?_ GE1336.out) | exact HB.out)) hb); have n3_ := Aside0.mk (hbox); have n4_ := Aside0.mk ((by rw [hg]; exact (below_size (by repeat (first | (with_reducible first | exact HB.out | apply below_alloc | apply pw_below_drewN | apply below_drew1 | refine below_set ?_ GE1335.out | refine below_set ?_ GE1336.out) | exact HB.out))) : w.heap.size ≤ gb1337)); have n5_ := Aside0.mk ((by rw [hg]; exact (below_size (by repeat (first | (with_reducible first | exact HB.out | apply below_alloc | apply pw_below_drewN | apply below_drew1 | refine below_set ?_ GE1335.out | refine below_set ?_ GE1336.out) | exact HB.out))) : w.heap.size ≤ gb1337)); have n6_ := Aside0.mk ((by rw [hg]; exact Nat.ne_of_lt (blk_lt (g := gb1335) (o := .cells #[.slice A0_0 l0_0.length c0_0] 26 (0, 0)) (by (with_reducible repeat (first | refine blk_drewN ?_ _ | refine blk_drew ?_ | refine blk_alloc ?_ _)); exact BK1335.out)) : gb1335 ≠ gb1337)); have n7_ := Aside0.mk ((by rw [hg]; exact Nat.ne_of_gt (blk_lt (g := gb1335) (o := .cells #[.slice A0_0 l0_0.length c0_0] 26 (0, 0)) (by (with_reducible repeat (first | refine blk_drewN ?_ _ | refine blk_drew ?_ | refine blk_alloc ?_ _)); exact BK1335.out)) : gb1337 ≠ gb1335)); have n8_ := Aside0.mk ((by rw [hg]; exact Nat.ne_of_lt (blk_lt (g := gb1336) (o := .cells #[.slice none 0 0] 26 (0, 0)) (by (with_reducible repeat (first | refine blk_drewN ?_ _ | refine blk_drew ?_ | refine blk_alloc ?_ _)); exact BK1336.out)) : gb1336 ≠ gb1337)); have n9_ := Aside0.mk ((by rw [hg]; exact Nat.ne_of_gt (blk_lt (g := gb1336) (o := .cells #[.slice none 0 0] 26 (0, 0)) (by (with_reducible repeat (first | refine blk_drewN ?_ _ | refine blk_drew ?_ | refine blk_alloc ?_ _)); exact BK1336.out)) : gb1337 ≠ gb1336)); clear BK1335; clear BK1336; clear HB; have BK1335 := n0_; have BK1336 := n1_; have HB := n2_; have BK1337 := n3_; have GW1337 := n4_; have GE1337 := n5_; have NB1335_1337 := n6_; have NB1337_1335 := n7_; have NB1336_1337 := n8_; have NB1337_1336 := n9_; clear n0_ n1_ n2_ n3_ n4_ n5_ n6_ n7_ n8_ n9_; clear hb hbox hg; have hnb32 := NB1335_1336.out; have hnc32 := NB1336_1335.out; have hnb33 := NB1335_1337.out; have hnc33 := NB1337_1335.out; have hcz34_0 : w31.cell? ⟨gb1335, 0, none⟩ = some (.slice A0_0 l0_0.length c0_0) := (blk_cell BK1335.out 0).trans rfl; have hfz34_0 := blk_frozen BK1335.out 0; have hnb35 := NB1336_1337.out; have hnc35 := NB1337_1336.out; have hcz36_0 : w31.cell? ⟨gb1336, 0, none⟩ = some (.slice none 0 0) := (blk_cell BK1336.out 0).trans rfl; have hfz36_0 := blk_frozen BK1336.out 0; have hcz37_0 : w31.cell? ⟨gb1337, 0, none⟩ = some (.slice none 0 0) := (blk_cell BK1337.out 0).trans rfl; have hfz37_0 := blk_frozen BK1337.out 0))
        refine bodyPost_ret (results_list (rs := [.cell 4 26, .cell 5 102, .tmp 6]) rfl (by simp) (.cell gb1336 26 #[.slice none 0 0] (0, 0) _ rfl (by (with_reducible repeat (first | refine blk_drewN ?_ _ | refine blk_drew ?_ | refine blk_alloc ?_ _)); refine blk_far ?_ NB1336_1337.out _; (with_reducible repeat (first | refine blk_drewN ?_ _ | refine blk_drew ?_ | refine blk_alloc ?_ _)); refine blk_put (cs := #[.slice none 0 0]) ?_ 0 _ rfl; (with_reducible repeat (first | refine blk_drewN ?_ _ | refine blk_drew ?_ | refine blk_alloc ?_ _)); exact BK1336.out) Try.underlying26 rfl (by kernel_rfl) (.cell gb1337 102 #[.slice none 0 0] (0, 0) _ rfl (by (with_reducible repeat (first | refine blk_drewN ?_ _ | refine blk_drew ?_ | refine blk_alloc ?_ _)); refine blk_put (cs := #[.slice none 0 0]) ?_ 0 _ rfl; (with_reducible repeat (first | refine blk_drewN ?_ _ | refine blk_drew ?_ | refine blk_alloc ?_ _)); refine blk_far ?_ NB1337_1336.out _; (with_reducible repeat (first | refine blk_drewN ?_ _ | refine blk_drew ?_ | refine blk_alloc ?_ _)); exact BK1337.out) Try.underlying102 rfl (by kernel_rfl) (.tmp .nil)))) rfl ?_
        exact ⟨_, _, by first | rfl | (simp [errW_none, errW_some] <;> rfl) | (simp [*, errW_none, errW_some] <;> rfl), by first | exact Kd.S_nil _ _ _ _ _ | exact Kd.N_nil _ _ _ _ _ | exact Kd.V_nil _ _ _ _ _ | exact Kd.Q_nil _ _ _ _ _ | exact Kd.R_nil _ _ _ _ _, by first | exact Kd.R_nil _ _ _ _ _ | exact Kd.N_nil _ _ _ _ _ | exact Kd.V_nil _ _ _ _ _ | exact Kd.Q_nil _ _ _ _ _ | exact Kd.S_nil _ _ _ _ _, by repeat (first | (with_reducible first | exact HB.out | apply below_alloc | apply pw_below_drewN | apply below_drew1 | refine below_set ?_ GE1335.out | refine below_set ?_ GE1336.out | refine below_set ?_ GE1337.out) | exact HB.out)⟩
      · rw [if_neg c28] at H
        have c28b0 : ((l0_0.length : Int) == 16) = false := beq_eq_false_iff_ne.mpr c28
        have c28b1 : ((l0_0.length : Int) != 16) = true := bne_iff_ne.mpr c28
        replace H := Option.bind_eq_some_iff.mp H
        obtain ⟨⟨t1344, t1347, t1348, t1349, t1350⟩, A380, H⟩ := H
        replace H : (some (t1344, (([(⟨t1347, t1348, t1349, t1350⟩ : SimplWindow)] : List (SimplWindow))), true)) = some (r1, r2, r3) := H
        have A38 := Aside0.mk A380
        clear A380
        obtain ⟨y1353, hy1353⟩ : ∃ y_ : List (SimplWindow), y_ = (([(⟨t1347, t1348, t1349, t1350⟩ : SimplWindow)] : List (SimplWindow))) := ⟨_, rfl⟩
        replace H : (some (t1344, y1353, true)) = some (r1, r2, r3) := by first | (rw [hy1353]; with_reducible exact H) | (have H2_ := (Option.bind_some _ _).symm.trans H; rw [hy1353]; with_reducible exact H2_) | (have H2_ := (Option.bind_some _ _).symm.trans H; with_reducible exact H2_) | with_reducible exact H | (rw [hy1353]; exact H) | exact H
        have Ny1353 := Aside0.mk hy1353
        clear hy1353
        simp only [Option.some.injEq, Prod.mk.injEq] at H
        obtain ⟨rfl, rfl, rfl⟩ := H
        go_enter Try.func126, Try.ntmps126
        try go_wp2_with (first | ((with_reducible refine gate_dst (N := 2) rfl ?_); (try (refine gate_guard (by rfl) ?_; dsimp only)); refine box_event ?hg (N := 2) ?hd (cs := #[.slice A0_0 l0_0.length c0_0]) (t := 26) ?hr ?_; (case hd => rfl); (case hg => rfl); (case hr => first | (go_simp; done) | (go_simp; rfl)); intro gb1335 hg w39 hbox hb; have n0_ := Aside0.mk (below_step (by repeat (first | (with_reducible first | exact HB.out | apply below_alloc | apply pw_below_drewN | apply below_drew1) | exact HB.out)) hb); have n1_ := Aside0.mk (hbox); have n2_ := Aside0.mk ((by rw [hg]; exact (below_size (by repeat (first | (with_reducible first | exact HB.out | apply below_alloc | apply pw_below_drewN | apply below_drew1) | exact HB.out))) : w.heap.size ≤ gb1335)); have n3_ := Aside0.mk ((by rw [hg]; exact (below_size (by repeat (first | (with_reducible first | exact HB.out | apply below_alloc | apply pw_below_drewN | apply below_drew1) | exact HB.out))) : w.heap.size ≤ gb1335)); clear HB; have HB := n0_; have BK1335 := n1_; have GW1335 := n2_; have GE1335 := n3_; clear n0_ n1_ n2_ n3_; clear hb hbox hg) | ((with_reducible refine gate_dst (N := 4) rfl ?_); (try (refine gate_guard (by rfl) ?_; dsimp only)); refine box_event ?hg (N := 4) ?hd (cs := #[.slice none 0 0]) (t := 26) ?hr ?_; (case hd => rfl); (case hg => rfl); (case hr => first | (go_simp; done) | (go_simp; rfl)); intro gb1336 hg w40 hbox hb; have n0_ := Aside0.mk (blk_below (g := gb1335) (o := .cells #[.slice A0_0 l0_0.length c0_0] 26 (0, 0)) (by (with_reducible repeat (first | refine blk_drewN ?_ _ | refine blk_drew ?_ | refine blk_alloc ?_ _)); exact BK1335.out) hb); have n1_ := Aside0.mk (below_step (by repeat (first | (with_reducible first | exact HB.out | apply below_alloc | apply pw_below_drewN | apply below_drew1 | refine below_set ?_ GE1335.out) | exact HB.out)) hb); have n2_ := Aside0.mk (hbox); have n3_ := Aside0.mk ((by rw [hg]; exact (below_size (by repeat (first | (with_reducible first | exact HB.out | apply below_alloc | apply pw_below_drewN | apply below_drew1 | refine below_set ?_ GE1335.out) | exact HB.out))) : w.heap.size ≤ gb1336)); have n4_ := Aside0.mk ((by rw [hg]; exact (below_size (by repeat (first | (with_reducible first | exact HB.out | apply below_alloc | apply pw_below_drewN | apply below_drew1 | refine below_set ?_ GE1335.out) | exact HB.out))) : w.heap.size ≤ gb1336)); have n5_ := Aside0.mk ((by rw [hg]; exact Nat.ne_of_lt (blk_lt (g := gb1335) (o := .cells #[.slice A0_0 l0_0.length c0_0] 26 (0, 0)) (by (with_reducible repeat (first | refine blk_drewN ?_ _ | refine blk_drew ?_ | refine blk_alloc ?_ _)); exact BK1335.out)) : gb1335 ≠ gb1336)); have n6_ := Aside0.mk ((by rw [hg]; exact Nat.ne_of_gt (blk_lt (g := gb1335) (o := .cells #[.slice A0_0 l0_0.length c0_0] 26 (0, 0)) (by (with_reducible repeat (first | refine blk_drewN ?_ _ | refine blk_drew ?_ | refine blk_alloc ?_ _)); exact BK1335.out)) : gb1336 ≠ gb1335)); clear BK1335; clear HB; have BK1335 := n0_; have HB := n1_; have BK1336 := n2_; have GW1336 := n3_; have GE1336 := n4_; have NB1335_1336 := n5_; have NB1336_1335 := n6_; clear n0_ n1_ n2_ n3_ n4_ n5_ n6_; clear hb hbox hg) | ((with_reducible refine gate_dst (N := 5) rfl ?_); (try (refine gate_guard (by rfl) ?_; dsimp only)); refine box_event ?hg (N := 5) ?hd (cs := #[.slice none 0 0]) (t := 102) ?hr ?_; (case hd => rfl); (case hg => rfl); (case hr => first | (go_simp; done) | (go_simp; rfl)); intro gb1337 hg w41 hbox hb; have n0_ := Aside0.mk (blk_below (g := gb1335) (o := .cells #[.slice A0_0 l0_0.length c0_0] 26 (0, 0)) (by (with_reducible repeat (first | refine blk_drewN ?_ _ | refine blk_drew ?_ | refine blk_alloc ?_ _)); exact BK1335.out) hb); have n1_ := Aside0.mk (blk_below (g := gb1336) (o := .cells #[.slice none 0 0] 26 (0, 0)) (by (with_reducible repeat (first | refine blk_drewN ?_ _ | refine blk_drew ?_ | refine blk_alloc ?_ _)); exact BK1336.out) hb); have n2_ := Aside0.mk (below_step (by repeat (first | (with_reducible first | exact HB.out | apply below_alloc | apply pw_below_drewN | apply below_drew1 | refine below_set ?_ GE1335.out | refine below_set ?_ GE1336.out) | exact HB.out)) hb); have n3_ := Aside0.mk (hbox); have n4_ := Aside0.mk ((by rw [hg]; exact (below_size (by repeat (first | (with_reducible first | exact HB.out | apply below_alloc | apply pw_below_drewN | apply below_drew1 | refine below_set ?_ GE1335.out | refine below_set ?_ GE1336.out) | exact HB.out))) : w.heap.size ≤ gb1337)); have n5_ := Aside0.mk ((by rw [hg]; exact (below_size (by repeat (first | (with_reducible first | exact HB.out | apply below_alloc | apply pw_below_drewN | apply below_drew1 | refine below_set ?_ GE1335.out | refine below_set ?_ GE1336.out) | exact HB.out))) : w.heap.size ≤ gb1337)); have n6_ := Aside0.mk ((by rw [hg]; exact Nat.ne_of_lt (blk_lt (g := gb1335) (o := .cells #[.slice A0_0 l0_0.length c0_0] 26 (0, 0)) (by (with_reducible repeat (first | refine blk_drewN ?_ _ | refine blk_drew ?_ | refine blk_alloc ?_ _)); exact BK1335.out)) : gb1335 ≠ gb1337)); have n7_ := Aside0.mk ((by rw [hg]; exact Nat.ne_of_gt (blk_lt (g := gb1335) (o := .cells #[.slice A0_0 l0_0.length c0_0] 26 (0, 0)) (by (with_reducible repeat (first | refine blk_drewN ?_ _ | refine blk_drew ?_ | refine blk_alloc ?_ _)); exact BK1335.out)) : gb1337 ≠ gb1335)); have n8_ := Aside0.mk ((by rw [hg]; exact Nat.ne_of_lt (blk_lt (g := gb1336) (o := .cells #[.slice none 0 0] 26 (0, 0)) (by (with_reducible repeat (first | refine blk_drewN ?_ _ | refine blk_drew ?_ | refine blk_alloc ?_ _)); exact BK1336.out)) : gb1336 ≠ gb1337)); have n9_ := Aside0.mk ((by rw [hg]; exact Nat.ne_of_gt (blk_lt (g := gb1336) (o := .cells #[.slice none 0 0] 26 (0, 0)) (by (with_reducible repeat (first | refine blk_drewN ?_ _ | refine blk_drew ?_ | refine blk_alloc ?_ _)); exact BK1336.out)) : gb1337 ≠ gb1336)); clear BK1335; clear BK1336; clear HB; have BK1335 := n0_; have BK1336 := n1_; have HB := n2_; have BK1337 := n3_; have GW1337 := n4_; have GE1337 := n5_; have NB1335_1337 := n6_; have NB1337_1335 := n7_; have NB1336_1337 := n8_; have NB1337_1336 := n9_; clear n0_ n1_ n2_ n3_ n4_ n5_ n6_ n7_ n8_ n9_; clear hb hbox hg; have hnb42 := NB1335_1336.out; have hnc42 := NB1336_1335.out; have hnb43 := NB1335_1337.out; have hnc43 := NB1337_1335.out; have hcz44_0 : w41.cell? ⟨gb1335, 0, none⟩ = some (.slice A0_0 l0_0.length c0_0) := (blk_cell BK1335.out 0).trans rfl; have hfz44_0 := blk_frozen BK1335.out 0) | ((with_reducible refine gate_callee (f := 153) rfl ?_); refine goesL_ (some 32) rfl rfl Try.func153 (by kernel_rfl) rfl #[.agg #[.slice A0_0 l0_0.length c0_0], .slice A1 l1.length c1, .int .i64 (l1.length : Int)] rfl (by (try simp only [List.map_toArray, List.map_cons, List.map_nil]); first | done | rfl | (simp only [List.length_drop, List.length_take]; rfl)) ?_; (with_reducible refine (spec_l2New.calls k _ _ l0_0 _ _ l1 (l1.length : Int) t1344 t1347 t1348 t1349 t1350 _ ?side1 ?side2 ?side3 ?side4 A38.out).mono ?_); (case side1 => repeat (first | exact (Kd.C_below HR0_0.out HB.out) | (with_reducible refine Kd.C_alloc ?_ _) | (with_reducible refine Kd.C_drewN ?_ _) | (with_reducible refine Kd.C_drew ?_))); (case side2 => exact HC0_0.out); (case side3 => repeat (first | exact (Kd.C_below HR1.out HB.out) | (with_reducible refine Kd.C_alloc ?_ _) | (with_reducible refine Kd.C_drewN ?_ _) | (with_reducible refine Kd.C_drew ?_))); (case side4 => exact HC1.out); rintro e w45 ⟨v1345, rfl, ho0, hb⟩; refine ⟨_, rfl, ?_⟩; have n0_ := Aside0.mk (Kd.S_lower ho0 (below_size (by repeat (first | (with_reducible first | exact HB.out | apply below_alloc | apply pw_below_drewN | apply below_drew1 | refine below_set ?_ GE1335.out | refine below_set ?_ GE1336.out | refine below_set ?_ GE1337.out) | exact HB.out)))); have n1_ := Aside0.mk (blk_below (g := gb1335) (o := .cells #[.slice A0_0 l0_0.length c0_0] 26 (0, 0)) (by (with_reducible repeat (first | refine blk_drewN ?_ _ | refine blk_drew ?_ | refine blk_alloc ?_ _)); exact BK1335.out) hb); have n2_ := Aside0.mk (blk_below (g := gb1336) (o := .cells #[.slice none 0 0] 26 (0, 0)) (by (with_reducible repeat (first | refine blk_drewN ?_ _ | refine blk_drew ?_ | refine blk_alloc ?_ _)); exact BK1336.out) hb); have n3_ := Aside0.mk (blk_below (g := gb1337) (o := .cells #[.slice none 0 0] 102 (0, 0)) (by (with_reducible repeat (first | refine blk_drewN ?_ _ | refine blk_drew ?_ | refine blk_alloc ?_ _)); exact BK1337.out) hb); have n4_ := Aside0.mk (below_step (by repeat (first | (with_reducible first | exact HB.out | apply below_alloc | apply pw_below_drewN | apply below_drew1 | refine below_set ?_ GE1335.out | refine below_set ?_ GE1336.out | refine below_set ?_ GE1337.out) | exact HB.out)) hb); clear BK1335; clear BK1336; clear BK1337; clear HB; have HO1346 := n0_; have BK1335 := n1_; have BK1336 := n2_; have BK1337 := n3_; have HB := n4_; clear n0_ n1_ n2_ n3_ n4_; (try clear hb); (try clear hb2); (try clear hk); (try clear hi); (try clear ho0)) | ((with_reducible refine gate_dst (N := 7) rfl ?_); (try (refine gate_guard (by rfl) ?_; dsimp only)); refine box_event ?hg (N := 7) ?hd (cs := #[.slice none 0 0]) (t := 26) ?hr ?_; (case hd => rfl); (case hg => rfl); (case hr => first | (go_simp; done) | (go_simp; rfl)); intro gb1351 hg w46 hbox hb; have n0_ := Aside0.mk (Kd.S_below (by (with_reducible repeat (first | apply Kd.S_alloc | apply Kd.S_drewN | apply Kd.S_drew)); exact HO1346.out) hb); have n1_ := Aside0.mk (blk_below (g := gb1335) (o := .cells #[.slice A0_0 l0_0.length c0_0] 26 (0, 0)) (by (with_reducible repeat (first | refine blk_drewN ?_ _ | refine blk_drew ?_ | refine blk_alloc ?_ _)); exact BK1335.out) hb); have n2_ := Aside0.mk (blk_below (g := gb1336) (o := .cells #[.slice none 0 0] 26 (0, 0)) (by (with_reducible repeat (first | refine blk_drewN ?_ _ | refine blk_drew ?_ | refine blk_alloc ?_ _)); exact BK1336.out) hb); have n3_ := Aside0.mk (blk_below (g := gb1337) (o := .cells #[.slice none 0 0] 102 (0, 0)) (by (with_reducible repeat (first | refine blk_drewN ?_ _ | refine blk_drew ?_ | refine blk_alloc ?_ _)); exact BK1337.out) hb); have n4_ := Aside0.mk (below_step (by repeat (first | (with_reducible first | exact HB.out | apply below_alloc | apply pw_below_drewN | apply below_drew1 | refine below_set ?_ GE1335.out | refine below_set ?_ GE1336.out | refine below_set ?_ GE1337.out) | exact HB.out)) hb); have n5_ := Aside0.mk (hbox); have n6_ := Aside0.mk ((by rw [hg]; exact (below_size (by repeat (first | (with_reducible first | exact HB.out | apply below_alloc | apply pw_below_drewN | apply below_drew1 | refine below_set ?_ GE1335.out | refine below_set ?_ GE1336.out | refine below_set ?_ GE1337.out) | exact HB.out))) : w.heap.size ≤ gb1351)); have n7_ := Aside0.mk ((by rw [hg]; exact (below_size (by repeat (first | (with_reducible first | exact HB.out | apply below_alloc | apply pw_below_drewN | apply below_drew1 | refine below_set ?_ GE1335.out | refine below_set ?_ GE1336.out | refine below_set ?_ GE1337.out) | exact HB.out))) : w.heap.size ≤ gb1351)); have n8_ := Aside0.mk ((by rw [hg]; exact Nat.ne_of_lt (blk_lt (g := gb1335) (o := .cells #[.slice A0_0 l0_0.length c0_0] 26 (0, 0)) (by (with_reducible repeat (first | refine blk_drewN ?_ _ | refine blk_drew ?_ | refine blk_alloc ?_ _)); exact BK1335.out)) : gb1335 ≠ gb1351)); have n9_ := Aside0.mk ((by rw [hg]; exact Nat.ne_of_gt (blk_lt (g := gb1335) (o := .cells #[.slice A0_0 l0_0.length c0_0] 26 (0, 0)) (by (with_reducible repeat (first | refine blk_drewN ?_ _ | refine blk_drew ?_ | refine blk_alloc ?_ _)); exact BK1335.out)) : gb1351 ≠ gb1335)); have n10_ := Aside0.mk ((by rw [hg]; exact Nat.ne_of_lt (blk_lt (g := gb1336) (o := .cells #[.slice none 0 0] 26 (0, 0)) (by (with_reducible repeat (first | refine blk_drewN ?_ _ | refine blk_drew ?_ | refine blk_alloc ?_ _)); exact BK1336.out)) : gb1336 ≠ gb1351)); have n11_ := Aside0.mk ((by rw [hg]; exact Nat.ne_of_gt (blk_lt (g := gb1336) (o := .cells #[.slice none 0 0] 26 (0, 0)) (by (with_reducible repeat (first | refine blk_drewN ?_ _ | refine blk_drew ?_ | refine blk_alloc ?_ _)); exact BK1336.out)) : gb1351 ≠ gb1336)); have n12_ := Aside0.mk ((by rw [hg]; exact Nat.ne_of_lt (blk_lt (g := gb1337) (o := .cells #[.slice none 0 0] 102 (0, 0)) (by (with_reducible repeat (first | refine blk_drewN ?_ _ | refine blk_drew ?_ | refine blk_alloc ?_ _)); exact BK1337.out)) : gb1337 ≠ gb1351)); have n13_ := Aside0.mk ((by rw [hg]; exact Nat.ne_of_gt (blk_lt (g := gb1337) (o := .cells #[.slice none 0 0] 102 (0, 0)) (by (with_reducible repeat (first | refine blk_drewN ?_ _ | refine blk_drew ?_ | refine blk_alloc ?_ _)); exact BK1337.out)) : gb1351 ≠ gb1337)); clear HO1346; clear BK1335; clear BK1336; clear BK1337; clear HB; have HO1346 := n0_; have BK1335 := n1_; have BK1336 := n2_; have BK1337 := n3_; have HB := n4_; have BK1351 := n5_; have GW1351 := n6_; have GE1351 := n7_; have NB1335_1351 := n8_; have NB1351_1335 := n9_; have NB1336_1351 := n10_; have NB1351_1336 := n11_; have NB1337_1351 := n12_; have NB1351_1337 := n13_; clear n0_ n1_ n2_ n3_ n4_ n5_ n6_ n7_ n8_ n9_ n10_ n11_ n12_ n13_; clear hb hbox hg) | ((with_reducible refine gate_dst (N := 8) rfl ?_); (try (refine gate_guard (by rfl) ?_; dsimp only)); refine box_event ?hg (N := 8) ?hd (cs := #[.int .i64 0, .int .i64 0, .int .i64 0, .int .i64 0]) (t := 48) ?hr ?_; (case hd => rfl); (case hg => rfl); (case hr => first | (go_simp; done) | (go_simp; rfl)); intro gb1352 hg w47 hbox hb; have n0_ := Aside0.mk (Kd.S_below (by (with_reducible repeat (first | apply Kd.S_alloc | apply Kd.S_drewN | apply Kd.S_drew)); exact HO1346.out) hb); have n1_ := Aside0.mk (blk_below (g := gb1335) (o := .cells #[.slice A0_0 l0_0.length c0_0] 26 (0, 0)) (by (with_reducible repeat (first | refine blk_drewN ?_ _ | refine blk_drew ?_ | refine blk_alloc ?_ _)); exact BK1335.out) hb); have n2_ := Aside0.mk (blk_below (g := gb1336) (o := .cells #[.slice none 0 0] 26 (0, 0)) (by (with_reducible repeat (first | refine blk_drewN ?_ _ | refine blk_drew ?_ | refine blk_alloc ?_ _)); exact BK1336.out) hb); have n3_ := Aside0.mk (blk_below (g := gb1337) (o := .cells #[.slice none 0 0] 102 (0, 0)) (by (with_reducible repeat (first | refine blk_drewN ?_ _ | refine blk_drew ?_ | refine blk_alloc ?_ _)); exact BK1337.out) hb); have n4_ := Aside0.mk (blk_below (g := gb1351) (o := .cells #[.slice none 0 0] 26 (0, 0)) (by (with_reducible repeat (first | refine blk_drewN ?_ _ | refine blk_drew ?_ | refine blk_alloc ?_ _)); exact BK1351.out) hb); have n5_ := Aside0.mk (below_step (by repeat (first | (with_reducible first | exact HB.out | apply below_alloc | apply pw_below_drewN | apply below_drew1 | refine below_set ?_ GE1335.out | refine below_set ?_ GE1336.out | refine below_set ?_ GE1337.out | refine below_set ?_ GE1351.out) | exact HB.out)) hb); have n6_ := Aside0.mk (hbox); have n7_ := Aside0.mk ((by rw [hg]; exact (below_size (by repeat (first | (with_reducible first | exact HB.out | apply below_alloc | apply pw_below_drewN | apply below_drew1 | refine below_set ?_ GE1335.out | refine below_set ?_ GE1336.out | refine below_set ?_ GE1337.out | refine below_set ?_ GE1351.out) | exact HB.out))) : w.heap.size ≤ gb1352)); have n8_ := Aside0.mk ((by rw [hg]; exact (below_size (by repeat (first | (with_reducible first | exact HB.out | apply below_alloc | apply pw_below_drewN | apply below_drew1 | refine below_set ?_ GE1335.out | refine below_set ?_ GE1336.out | refine below_set ?_ GE1337.out | refine below_set ?_ GE1351.out) | exact HB.out))) : w.heap.size ≤ gb1352)); have n9_ := Aside0.mk ((by rw [hg]; exact Nat.ne_of_lt (blk_lt (g := gb1335) (o := .cells #[.slice A0_0 l0_0.length c0_0] 26 (0, 0)) (by (with_reducible repeat (first | refine blk_drewN ?_ _ | refine blk_drew ?_ | refine blk_alloc ?_ _)); exact BK1335.out)) : gb1335 ≠ gb1352)); have n10_ := Aside0.mk ((by rw [hg]; exact Nat.ne_of_gt (blk_lt (g := gb1335) (o := .cells #[.slice A0_0 l0_0.length c0_0] 26 (0, 0)) (by (with_reducible repeat (first | refine blk_drewN ?_ _ | refine blk_drew ?_ | refine blk_alloc ?_ _)); exact BK1335.out)) : gb1352 ≠ gb1335)); have n11_ := Aside0.mk ((by rw [hg]; exact Nat.ne_of_lt (blk_lt (g := gb1336) (o := .cells #[.slice none 0 0] 26 (0, 0)) (by (with_reducible repeat (first | refine blk_drewN ?_ _ | refine blk_drew ?_ | refine blk_alloc ?_ _)); exact BK1336.out)) : gb1336 ≠ gb1352)); have n12_ := Aside0.mk ((by rw [hg]; exact Nat.ne_of_gt (blk_lt (g := gb1336) (o := .cells #[.slice none 0 0] 26 (0, 0)) (by (with_reducible repeat (first | refine blk_drewN ?_ _ | refine blk_drew ?_ | refine blk_alloc ?_ _)); exact BK1336.out)) : gb1352 ≠ gb1336)); have n13_ := Aside0.mk ((by rw [hg]; exact Nat.ne_of_lt (blk_lt (g := gb1337) (o := .cells #[.slice none 0 0] 102 (0, 0)) (by (with_reducible repeat (first | refine blk_drewN ?_ _ | refine blk_drew ?_ | refine blk_alloc ?_ _)); exact BK1337.out)) : gb1337 ≠ gb1352)); have n14_ := Aside0.mk ((by rw [hg]; exact Nat.ne_of_gt (blk_lt (g := gb1337) (o := .cells #[.slice none 0 0] 102 (0, 0)) (by (with_reducible repeat (first | refine blk_drewN ?_ _ | refine blk_drew ?_ | refine blk_alloc ?_ _)); exact BK1337.out)) : gb1352 ≠ gb1337)); have n15_ := Aside0.mk ((by rw [hg]; exact Nat.ne_of_lt (blk_lt (g := gb1351) (o := .cells #[.slice none 0 0] 26 (0, 0)) (by (with_reducible repeat (first | refine blk_drewN ?_ _ | refine blk_drew ?_ | refine blk_alloc ?_ _)); exact BK1351.out)) : gb1351 ≠ gb1352)); have n16_ := Aside0.mk ((by rw [hg]; exact Nat.ne_of_gt (blk_lt (g := gb1351) (o := .cells #[.slice none 0 0] 26 (0, 0)) (by (with_reducible repeat (first | refine blk_drewN ?_ _ | refine blk_drew ?_ | refine blk_alloc ?_ _)); exact BK1351.out)) : gb1352 ≠ gb1351)); clear HO1346; clear BK1335; clear BK1336; clear BK1337; clear BK1351; clear HB; have HO1346 := n0_; have BK1335 := n1_; have BK1336 := n2_; have BK1337 := n3_; have BK1351 := n4_; have HB := n5_; have BK1352 := n6_; have GW1352 := n7_; have GE1352 := n8_; have NB1335_1352 := n9_; have NB1352_1335 := n10_; have NB1336_1352 := n11_; have NB1352_1336 := n12_; have NB1337_1352 := n13_; have NB1352_1337 := n14_; have NB1351_1352 := n15_; have NB1352_1351 := n16_; clear n0_ n1_ n2_ n3_ n4_ n5_ n6_ n7_ n8_ n9_ n10_ n11_ n12_ n13_ n14_ n15_ n16_; clear hb hbox hg; obtain ⟨Ao48, co48, eo48⟩ := Kd.S_slice HO1346.out; subst eo48; have hnb49 := NB1351_1335.out; have hnc49 := NB1335_1351.out; have hnb50 := NB1351_1336.out; have hnc50 := NB1336_1351.out; have hnb51 := NB1351_1337.out; have hnc51 := NB1337_1351.out; have hnb52 := NB1351_1352.out; have hnc52 := NB1352_1351.out; have hcz53_0 : w47.cell? ⟨gb1351, 0, none⟩ = some (.slice none 0 0) := (blk_cell BK1351.out 0).trans rfl; have hfz53_0 := blk_frozen BK1351.out 0; have hnb54 := NB1352_1335.out; have hnc54 := NB1335_1352.out; have hnb55 := NB1352_1336.out; have hnc55 := NB1336_1352.out; have hnb56 := NB1352_1337.out; have hnc56 := NB1337_1352.out; have hcz57_0 : w47.cell? ⟨gb1352, 0, none⟩ = some (.int .i64 0) := (blk_cell BK1352.out 0).trans rfl; have hcz57_1 : w47.cell? ⟨gb1352, 1, none⟩ = some (.int .i64 0) := (blk_cell BK1352.out 1).trans rfl; have hcz57_2 : w47.cell? ⟨gb1352, 2, none⟩ = some (.int .i64 0) := (blk_cell BK1352.out 2).trans rfl; have hcz57_3 : w47.cell? ⟨gb1352, 3, none⟩ = some (.int .i64 0) := (blk_cell BK1352.out 3).trans rfl; have hfz57_0 := blk_frozen BK1352.out 0; have hfz57_1 := blk_frozen BK1352.out 1; have hfz57_2 := blk_frozen BK1352.out 2; have hfz57_3 := blk_frozen BK1352.out 3))
        have n0_ : Aside0 (Kd.S (Kd.slice 5 (Kd.int .u8)) 119 (((((w47.setCell ⟨gb1351, 0, none⟩ (.slice Ao48 t1344.length co48)).setCell ⟨gb1352, 0, none⟩ (.int .i64 t1347)).setCell ⟨gb1352, 1, none⟩ (.int .i64 t1348)).setCell ⟨gb1352, 2, none⟩ (.int .i64 t1349)).setCell ⟨gb1352, 3, none⟩ (.int .i64 t1350)) w.heap.size (fun _ => True) (.slice Ao48 t1344.length co48) t1344) := ⟨by (with_reducible repeat (first | apply Kd.S_alloc | apply Kd.S_drewN | apply Kd.S_drew)); exact Kd.S_mono (Kd.S_far (p := ⟨gb1352, 3, none⟩) (Kd.S_far (p := ⟨gb1352, 2, none⟩) (Kd.S_far (p := ⟨gb1352, 1, none⟩) (Kd.S_far (p := ⟨gb1352, 0, none⟩) (Kd.S_far (p := ⟨gb1351, 0, none⟩) (Kd.S_types (Kd.S_types HO1346.out BK1351.out (by decide)) BK1352.out (by decide)) (fun _ hk => hk.1.2) (.slice Ao48 t1344.length co48)) (fun _ hk => hk.2) (.int .i64 t1347)) (fun _ hk => hk.2) (.int .i64 t1348)) (fun _ hk => hk.2) (.int .i64 t1349)) (fun _ hk => hk.2) (.int .i64 t1350)) (fun _ hk => trivial)⟩
        have n1_ : Aside0 ((((((w47.setCell ⟨gb1351, 0, none⟩ (.slice Ao48 t1344.length co48)).setCell ⟨gb1352, 0, none⟩ (.int .i64 t1347)).setCell ⟨gb1352, 1, none⟩ (.int .i64 t1348)).setCell ⟨gb1352, 2, none⟩ (.int .i64 t1349)).setCell ⟨gb1352, 3, none⟩ (.int .i64 t1350)).heap[gb1335]? = some (.cells #[.slice A0_0 l0_0.length c0_0] 26 (0, 0))) := ⟨by (with_reducible repeat (first | refine blk_drewN ?_ _ | refine blk_drew ?_ | refine blk_alloc ?_ _)); refine blk_far ?_ NB1335_1352.out _; (with_reducible repeat (first | refine blk_drewN ?_ _ | refine blk_drew ?_ | refine blk_alloc ?_ _)); refine blk_far ?_ NB1335_1352.out _; (with_reducible repeat (first | refine blk_drewN ?_ _ | refine blk_drew ?_ | refine blk_alloc ?_ _)); refine blk_far ?_ NB1335_1352.out _; (with_reducible repeat (first | refine blk_drewN ?_ _ | refine blk_drew ?_ | refine blk_alloc ?_ _)); refine blk_far ?_ NB1335_1352.out _; (with_reducible repeat (first | refine blk_drewN ?_ _ | refine blk_drew ?_ | refine blk_alloc ?_ _)); refine blk_far ?_ NB1335_1351.out _; (with_reducible repeat (first | refine blk_drewN ?_ _ | refine blk_drew ?_ | refine blk_alloc ?_ _)); exact BK1335.out⟩
        have n2_ : Aside0 ((((((w47.setCell ⟨gb1351, 0, none⟩ (.slice Ao48 t1344.length co48)).setCell ⟨gb1352, 0, none⟩ (.int .i64 t1347)).setCell ⟨gb1352, 1, none⟩ (.int .i64 t1348)).setCell ⟨gb1352, 2, none⟩ (.int .i64 t1349)).setCell ⟨gb1352, 3, none⟩ (.int .i64 t1350)).heap[gb1336]? = some (.cells #[.slice none 0 0] 26 (0, 0))) := ⟨by (with_reducible repeat (first | refine blk_drewN ?_ _ | refine blk_drew ?_ | refine blk_alloc ?_ _)); refine blk_far ?_ NB1336_1352.out _; (with_reducible repeat (first | refine blk_drewN ?_ _ | refine blk_drew ?_ | refine blk_alloc ?_ _)); refine blk_far ?_ NB1336_1352.out _; (with_reducible repeat (first | refine blk_drewN ?_ _ | refine blk_drew ?_ | refine blk_alloc ?_ _)); refine blk_far ?_ NB1336_1352.out _; (with_reducible repeat (first | refine blk_drewN ?_ _ | refine blk_drew ?_ | refine blk_alloc ?_ _)); refine blk_far ?_ NB1336_1352.out _; (with_reducible repeat (first | refine blk_drewN ?_ _ | refine blk_drew ?_ | refine blk_alloc ?_ _)); refine blk_far ?_ NB1336_1351.out _; (with_reducible repeat (first | refine blk_drewN ?_ _ | refine blk_drew ?_ | refine blk_alloc ?_ _)); exact BK1336.out⟩
        have n3_ : Aside0 ((((((w47.setCell ⟨gb1351, 0, none⟩ (.slice Ao48 t1344.length co48)).setCell ⟨gb1352, 0, none⟩ (.int .i64 t1347)).setCell ⟨gb1352, 1, none⟩ (.int .i64 t1348)).setCell ⟨gb1352, 2, none⟩ (.int .i64 t1349)).setCell ⟨gb1352, 3, none⟩ (.int .i64 t1350)).heap[gb1337]? = some (.cells #[.slice none 0 0] 102 (0, 0))) := ⟨by (with_reducible repeat (first | refine blk_drewN ?_ _ | refine blk_drew ?_ | refine blk_alloc ?_ _)); refine blk_far ?_ NB1337_1352.out _; (with_reducible repeat (first | refine blk_drewN ?_ _ | refine blk_drew ?_ | refine blk_alloc ?_ _)); refine blk_far ?_ NB1337_1352.out _; (with_reducible repeat (first | refine blk_drewN ?_ _ | refine blk_drew ?_ | refine blk_alloc ?_ _)); refine blk_far ?_ NB1337_1352.out _; (with_reducible repeat (first | refine blk_drewN ?_ _ | refine blk_drew ?_ | refine blk_alloc ?_ _)); refine blk_far ?_ NB1337_1352.out _; (with_reducible repeat (first | refine blk_drewN ?_ _ | refine blk_drew ?_ | refine blk_alloc ?_ _)); refine blk_far ?_ NB1337_1351.out _; (with_reducible repeat (first | refine blk_drewN ?_ _ | refine blk_drew ?_ | refine blk_alloc ?_ _)); exact BK1337.out⟩
        have n4_ : Aside0 ((((((w47.setCell ⟨gb1351, 0, none⟩ (.slice Ao48 t1344.length co48)).setCell ⟨gb1352, 0, none⟩ (.int .i64 t1347)).setCell ⟨gb1352, 1, none⟩ (.int .i64 t1348)).setCell ⟨gb1352, 2, none⟩ (.int .i64 t1349)).setCell ⟨gb1352, 3, none⟩ (.int .i64 t1350)).heap[gb1351]? = some (.cells #[.slice Ao48 t1344.length co48] 26 (0, 0))) := ⟨by (with_reducible repeat (first | refine blk_drewN ?_ _ | refine blk_drew ?_ | refine blk_alloc ?_ _)); refine blk_far ?_ NB1351_1352.out _; (with_reducible repeat (first | refine blk_drewN ?_ _ | refine blk_drew ?_ | refine blk_alloc ?_ _)); refine blk_far ?_ NB1351_1352.out _; (with_reducible repeat (first | refine blk_drewN ?_ _ | refine blk_drew ?_ | refine blk_alloc ?_ _)); refine blk_far ?_ NB1351_1352.out _; (with_reducible repeat (first | refine blk_drewN ?_ _ | refine blk_drew ?_ | refine blk_alloc ?_ _)); refine blk_far ?_ NB1351_1352.out _; (with_reducible repeat (first | refine blk_drewN ?_ _ | refine blk_drew ?_ | refine blk_alloc ?_ _)); refine blk_put (cs := #[.slice none 0 0]) ?_ 0 _ rfl; (with_reducible repeat (first | refine blk_drewN ?_ _ | refine blk_drew ?_ | refine blk_alloc ?_ _)); exact BK1351.out⟩
        have n5_ : Aside0 ((((((w47.setCell ⟨gb1351, 0, none⟩ (.slice Ao48 t1344.length co48)).setCell ⟨gb1352, 0, none⟩ (.int .i64 t1347)).setCell ⟨gb1352, 1, none⟩ (.int .i64 t1348)).setCell ⟨gb1352, 2, none⟩ (.int .i64 t1349)).setCell ⟨gb1352, 3, none⟩ (.int .i64 t1350)).heap[gb1352]? = some (.cells #[.int .i64 t1347, .int .i64 t1348, .int .i64 t1349, .int .i64 t1350] 48 (0, 0))) := ⟨by (with_reducible repeat (first | refine blk_drewN ?_ _ | refine blk_drew ?_ | refine blk_alloc ?_ _)); refine blk_put (cs := #[.int .i64 t1347, .int .i64 t1348, .int .i64 t1349, .int .i64 0]) ?_ 3 _ rfl; (with_reducible repeat (first | refine blk_drewN ?_ _ | refine blk_drew ?_ | refine blk_alloc ?_ _)); refine blk_put (cs := #[.int .i64 t1347, .int .i64 t1348, .int .i64 0, .int .i64 0]) ?_ 2 _ rfl; (with_reducible repeat (first | refine blk_drewN ?_ _ | refine blk_drew ?_ | refine blk_alloc ?_ _)); refine blk_put (cs := #[.int .i64 t1347, .int .i64 0, .int .i64 0, .int .i64 0]) ?_ 1 _ rfl; (with_reducible repeat (first | refine blk_drewN ?_ _ | refine blk_drew ?_ | refine blk_alloc ?_ _)); refine blk_put (cs := #[.int .i64 0, .int .i64 0, .int .i64 0, .int .i64 0]) ?_ 0 _ rfl; (with_reducible repeat (first | refine blk_drewN ?_ _ | refine blk_drew ?_ | refine blk_alloc ?_ _)); refine blk_far ?_ NB1352_1351.out _; (with_reducible repeat (first | refine blk_drewN ?_ _ | refine blk_drew ?_ | refine blk_alloc ?_ _)); exact BK1352.out⟩
        have n6_ : Aside0 (Below w.heap.size w (((((w47.setCell ⟨gb1351, 0, none⟩ (.slice Ao48 t1344.length co48)).setCell ⟨gb1352, 0, none⟩ (.int .i64 t1347)).setCell ⟨gb1352, 1, none⟩ (.int .i64 t1348)).setCell ⟨gb1352, 2, none⟩ (.int .i64 t1349)).setCell ⟨gb1352, 3, none⟩ (.int .i64 t1350))) := ⟨by repeat (first | (with_reducible first | exact HB.out | apply below_alloc | apply pw_below_drewN | apply below_drew1 | refine below_set ?_ GE1335.out | refine below_set ?_ GE1336.out | refine below_set ?_ GE1337.out | refine below_set ?_ GE1351.out | refine below_set ?_ GE1352.out) | exact HB.out)⟩
        (try clear HO1346)
        (try clear BK1335)
        (try clear BK1336)
        (try clear BK1337)
        (try clear BK1351)
        (try clear BK1352)
        (try clear HB)
        generalize (((((w47.setCell ⟨gb1351, 0, none⟩ (.slice Ao48 t1344.length co48)).setCell ⟨gb1352, 0, none⟩ (.int .i64 t1347)).setCell ⟨gb1352, 1, none⟩ (.int .i64 t1348)).setCell ⟨gb1352, 2, none⟩ (.int .i64 t1349)).setCell ⟨gb1352, 3, none⟩ (.int .i64 t1350)) = w58 at n0_ n1_ n2_ n3_ n4_ n5_ n6_ ⊢
        have HO1346 := n0_
        have BK1335 := n1_
        have BK1336 := n2_
        have BK1337 := n3_
        have BK1351 := n4_
        have BK1352 := n5_
        have HB := n6_
        clear n0_ n1_ n2_ n3_ n4_ n5_ n6_
        have n0_ := Aside0.mk (Kd.S_drew HO1346.out)
        have n1_ := Aside0.mk (blk_drew BK1335.out)
        have n2_ := Aside0.mk (blk_drew BK1336.out)
        have n3_ := Aside0.mk (blk_drew BK1337.out)
        have n4_ := Aside0.mk (blk_drew BK1351.out)
        have n5_ := Aside0.mk (blk_drew BK1352.out)
        have n6_ := Aside0.mk (below_drew1 HB.out)
        clear HO1346
        clear BK1335
        clear BK1336
        clear BK1337
        clear BK1351
        clear BK1352
        clear HB
        have HO1346 := n0_
        have BK1335 := n1_
        have BK1336 := n2_
        have BK1337 := n3_
        have BK1351 := n4_
        have BK1352 := n5_
        have HB := n6_
        clear n0_ n1_ n2_ n3_ n4_ n5_ n6_
        refine start_ (n := 7) (S := fun w' => True) (ds := []) #[false, false, false, false, false, false, false] (by kernel_rfl) rfl rfl trivial (fun hHeld => ?_); refine with_tabW spec_l7New.tab6 spec_l7New.bits6 (fun HT_ HW_ => ?_)
        generalize w58.drew = w59 at HO1346 BK1335 BK1336 BK1337 BK1351 BK1352 HB hHeld ⊢
        refine inv_at [0, 1, 2, 3, 4, 5, 6] (fun a0_ b a w' => ∃ (v1354 : Value) (m3_ : Value), a = putSel a0_ b [(0, 35, .agg #[.slice Ao48 t1344.length co48]), (1, 36, .agg #[.int .i64 t1347, .int .i64 t1348, .int .i64 t1349, .int .i64 t1350]), (2, 37, v1354), (3, 38, m3_), (6, 6, .bool true)] ∧ (Kd.S (Kd.slice 5 (Kd.int .u8)) 119 w' w.heap.size (fun _ => True) (.slice Ao48 t1344.length co48) t1344) ∧ (w'.heap[gb1335]? = some (.cells #[.slice A0_0 l0_0.length c0_0] 26 (0, 0))) ∧ (b 4 = false → w'.heap[gb1336]? = some (.cells #[.slice none 0 0] 26 (0, 0))) ∧ (b 5 = false → w'.heap[gb1337]? = some (.cells #[.slice none 0 0] 102 (0, 0))) ∧ (w'.heap[gb1351]? = some (.cells #[.slice Ao48 t1344.length co48] 26 (0, 0))) ∧ (w'.heap[gb1352]? = some (.cells #[.int .i64 t1347, .int .i64 t1348, .int .i64 t1349, .int .i64 t1350] 48 (0, 0))) ∧ (Below w.heap.size w w') ∧ (b 2 = true → Kd.R kimplWindow 48 w' w.heap.size (fun k_ => k_ ≠ gb1352) v1354 y1353) ∧ (b 4 = true → w'.heap[gb1336]? = some (.cells #[.slice Ao48 t1344.length co48] 26 (0, 0))) ∧ (b 5 = true → w'.heap[gb1337]? = some (.cells #[v1354] 102 (0, 0))) ∧ (b 3 = true → (m3_ : Value) = .agg #[v1354])) HT_.out HW_.out (by kernel_rfl) (by kernel_rfl) ?_ ?_ ?_
        · exact ⟨.bool false, .bool false, by simp only [putSel, Bool.false_eq_true, if_false], HO1346.out, BK1335.out, fun _ => BK1336.out, fun _ => BK1337.out, BK1351.out, BK1352.out, HB.out, fun h_ => absurd h_ (by decide), fun h_ => absurd h_ (by decide), fun h_ => absurd h_ (by decide), fun h_ => absurd h_ (by decide)⟩
        · skip
          clear BK1335 BK1336 BK1337 BK1351 BK1352 HB HO1346
          refine steps_cons ?_ ?_
          · rintro b a w' ⟨v1354, m3_, ha, Q_HO1346, Q_BK1335, Q_BK1336, Q_BK1337, Q_BK1351, Q_BK1352, Q_HB, Q_HO1355, Q_BK1336_e4, Q_BK1337_e5, Q_X3_⟩ hb_ hon hoff
            refine ⟨_, rfl, fun K hK => ?_⟩
            have e7 : a.tmps[7]? = some (.pointer (some ⟨gb1351, 0, none⟩)) := by rw [ha]; exact (putSel_off rfl).trans rfl
            replace ha := Aside0.mk ha
            have HO1346 := Aside0.mk Q_HO1346
            have BK1335 := Aside0.mk Q_BK1335
            have BK1336 := Aside0.mk (Q_BK1336 (hoff 4 (by kernel_rfl)))
            have BK1337 := Aside0.mk (Q_BK1337 (hoff 5 (by kernel_rfl)))
            have BK1351 := Aside0.mk Q_BK1351
            have BK1352 := Aside0.mk Q_BK1352
            have HB := Aside0.mk Q_HB
            have hc0_ : w'.cell? ⟨gb1351, 0, none⟩ = some (.slice Ao48 t1344.length co48) := (blk_cell BK1351.out 0).trans rfl
            refine value_ (w1 := w') (v := .agg #[.slice Ao48 t1344.length co48]) (by rfl) rfl ?_ ?_
            · go_simp
              (try simp only [i64_w])
              try rfl
            refine hK.out _ _ ⟨v1354, m3_, (by rw [ha.out]; exact putSel_upk 0 hb_ rfl rfl rfl), Q_HO1346, Q_BK1335, Q_BK1336, Q_BK1337, Q_BK1351, Q_BK1352, Q_HB, Q_HO1355, fun h0_ => absurd ((hoff 4 (by kernel_rfl)).symm.trans h0_) (by decide), fun h0_ => absurd ((hoff 5 (by kernel_rfl)).symm.trans h0_) (by decide), Q_X3_⟩
          refine steps_cons ?_ ?_
          · rintro b a w' ⟨v1354, m3_, ha, Q_HO1346, Q_BK1335, Q_BK1336, Q_BK1337, Q_BK1351, Q_BK1352, Q_HB, Q_HO1355, Q_BK1336_e4, Q_BK1337_e5, Q_X3_⟩ hb_ hon hoff
            refine ⟨_, rfl, fun K hK => ?_⟩
            have e8 : a.tmps[8]? = some (.pointer (some ⟨gb1352, 0, none⟩)) := by rw [ha]; exact (putSel_off rfl).trans rfl
            replace ha := Aside0.mk ha
            have HO1346 := Aside0.mk Q_HO1346
            have BK1335 := Aside0.mk Q_BK1335
            have BK1337 := Aside0.mk (Q_BK1337 (hoff 5 (by kernel_rfl)))
            have BK1351 := Aside0.mk Q_BK1351
            have BK1352 := Aside0.mk Q_BK1352
            have HB := Aside0.mk Q_HB
            have hc0_ : w'.cell? ⟨gb1352, 0, none⟩ = some (.int .i64 t1347) := (blk_cell BK1352.out 0).trans rfl
            have hc1_ : w'.cell? ⟨gb1352, 1, none⟩ = some (.int .i64 t1348) := (blk_cell BK1352.out 1).trans rfl
            have hc2_ : w'.cell? ⟨gb1352, 2, none⟩ = some (.int .i64 t1349) := (blk_cell BK1352.out 2).trans rfl
            have hc3_ : w'.cell? ⟨gb1352, 3, none⟩ = some (.int .i64 t1350) := (blk_cell BK1352.out 3).trans rfl
            refine value_ (w1 := w') (v := .agg #[.int .i64 t1347, .int .i64 t1348, .int .i64 t1349, .int .i64 t1350]) (by rfl) rfl ?_ ?_
            · go_simp
              (try simp only [i64_w])
              try rfl
            refine hK.out _ _ ⟨v1354, m3_, (by rw [ha.out]; exact putSel_upk 1 hb_ rfl rfl rfl), Q_HO1346, Q_BK1335, Q_BK1336, Q_BK1337, Q_BK1351, Q_BK1352, Q_HB, fun h0_ => absurd ((hoff 2 (by kernel_rfl)).symm.trans h0_) (by decide), Q_BK1336_e4, fun h0_ => absurd ((hoff 5 (by kernel_rfl)).symm.trans h0_) (by decide), fun h0_ => absurd ((hoff 3 (by kernel_rfl)).symm.trans h0_) (by decide)⟩
          refine steps_cons ?_ ?_
          · rintro b a w' ⟨v1354, m3_, ha, Q_HO1346, Q_BK1335, Q_BK1336, Q_BK1337, Q_BK1351, Q_BK1352, Q_HB, Q_HO1355, Q_BK1336_e4, Q_BK1337_e5, Q_X3_⟩ hb_ hon hoff
            refine ⟨_, rfl, fun K hK => ?_⟩
            have e36 : a.tmps[36]? = some (.agg #[.int .i64 t1347, .int .i64 t1348, .int .i64 t1349, .int .i64 t1350]) := by rw [ha]; exact putSel_on (e := (1, 36, .agg #[.int .i64 t1347, .int .i64 t1348, .int .i64 t1349, .int .i64 t1350])) 1 rfl rfl (hon 1 (by kernel_rfl)) rfl
            replace ha := Aside0.mk ha
            have HO1346 := Aside0.mk Q_HO1346
            have BK1335 := Aside0.mk Q_BK1335
            have BK1337 := Aside0.mk (Q_BK1337 (hoff 5 (by kernel_rfl)))
            have BK1351 := Aside0.mk Q_BK1351
            have BK1352 := Aside0.mk Q_BK1352
            have HB := Aside0.mk Q_HB
            refine Kd.R_lit_step kimplWindow _ 48 ?hg (N := 37) ?hd (xs := ([(⟨t1347, t1348, t1349, t1350⟩ : SimplWindow)] : List (SimplWindow))) (inner := [.int .i64 t1347, .int .i64 t1348, .int .i64 t1349, .int .i64 t1350]) (ok := fun _ => True) (okp := fun _ => True) ?hr ?hp (fun _ hk => hk) trivial (Below.refl _ _) (Nat.le_refl _) (by simp) ?_; (case hd => rfl); (case hg => rfl); (case hr => first | (go_simp; done) | (go_simp; rfl)); (case hp => exact (Reps.c4 (show Kd.M kimplWindow _ _ _ (⟨t1347, t1348, t1349, t1350⟩ : SimplWindow) [.int .i64 t1347, .int .i64 t1348, .int .i64 t1349, .int .i64 t1350] from (kimplWindow_mkM _ _ _ (⟨t1347, t1348, t1349, t1350⟩ : SimplWindow) )) (Reps.none _ _)))
            intro v1354 w60 ho61 hb hg_ hnew_
            clear hg_ hnew_
            (first | rw [← Ny1353.out] at ho61 | (simp only [Int.reduceToNat] at ho61; rw [← Ny1353.out] at ho61))
            have n0_ := Aside0.mk (Kd.S_below (by (with_reducible repeat (first | apply Kd.S_alloc | apply Kd.S_drewN | apply Kd.S_drew)); exact HO1346.out) hb)
            have n1_ := Aside0.mk (Kd.R_lower (Kd.R_newB ho61 (g := gb1352) (o := .cells #[.int .i64 t1347, .int .i64 t1348, .int .i64 t1349, .int .i64 t1350] 48 (0, 0)) (by (with_reducible repeat (first | refine blk_drewN ?_ _ | refine blk_drew ?_ | refine blk_alloc ?_ _)); exact BK1352.out)) (below_size (by repeat (first | (with_reducible first | exact HB.out | apply below_alloc | apply pw_below_drewN | apply below_drew1 | refine below_set ?_ GE1335.out | refine below_set ?_ GE1336.out | refine below_set ?_ GE1337.out | refine below_set ?_ GE1351.out | refine below_set ?_ GE1352.out) | exact HB.out))))
            have n2_ := Aside0.mk (blk_below (g := gb1335) (o := .cells #[.slice A0_0 l0_0.length c0_0] 26 (0, 0)) (by (with_reducible repeat (first | refine blk_drewN ?_ _ | refine blk_drew ?_ | refine blk_alloc ?_ _)); exact BK1335.out) hb)
            have n4_ := Aside0.mk (blk_below (g := gb1337) (o := .cells #[.slice none 0 0] 102 (0, 0)) (by (with_reducible repeat (first | refine blk_drewN ?_ _ | refine blk_drew ?_ | refine blk_alloc ?_ _)); exact BK1337.out) hb)
            have n5_ := Aside0.mk (blk_below (g := gb1351) (o := .cells #[.slice Ao48 t1344.length co48] 26 (0, 0)) (by (with_reducible repeat (first | refine blk_drewN ?_ _ | refine blk_drew ?_ | refine blk_alloc ?_ _)); exact BK1351.out) hb)
            have n6_ := Aside0.mk (blk_below (g := gb1352) (o := .cells #[.int .i64 t1347, .int .i64 t1348, .int .i64 t1349, .int .i64 t1350] 48 (0, 0)) (by (with_reducible repeat (first | refine blk_drewN ?_ _ | refine blk_drew ?_ | refine blk_alloc ?_ _)); exact BK1352.out) hb)
            have n7_ := Aside0.mk (below_step (by repeat (first | (with_reducible first | exact HB.out | apply below_alloc | apply pw_below_drewN | apply below_drew1 | refine below_set ?_ GE1335.out | refine below_set ?_ GE1336.out | refine below_set ?_ GE1337.out | refine below_set ?_ GE1351.out | refine below_set ?_ GE1352.out) | exact HB.out)) hb)
            have z_BK1336 := fun (h0_ : b 4 = false) => (show w60.heap[gb1336]? = some (.cells #[.slice none 0 0] 26 (0, 0)) from by first | exact (blk_below (g := gb1336) (o := .cells #[.slice none 0 0] 26 (0, 0)) (by (with_reducible repeat (first | refine blk_drewN ?_ _ | refine blk_drew ?_ | refine blk_alloc ?_ _)); exact (Q_BK1336 h0_)) hb))
            have z_BK1336_e4 := fun (h0_ : b 4 = true) => (show w60.heap[gb1336]? = some (.cells #[.slice Ao48 t1344.length co48] 26 (0, 0)) from by first | exact (blk_below (g := gb1336) (o := .cells #[.slice Ao48 t1344.length co48] 26 (0, 0)) (by (with_reducible repeat (first | refine blk_drewN ?_ _ | refine blk_drew ?_ | refine blk_alloc ?_ _)); exact (Q_BK1336_e4 h0_)) hb))
            clear HO1346
            clear BK1335
            clear BK1337
            clear BK1351
            clear BK1352
            clear HB
            have HO1346 := n0_
            have HO1355 := n1_
            have BK1335 := n2_
            have BK1337 := n4_
            have BK1351 := n5_
            have BK1352 := n6_
            have HB := n7_
            clear n0_ n1_ n2_ n4_ n5_ n6_ n7_
            clear hb ho61
            obtain ⟨Ao62, co62, eo62⟩ := Kd.R_slice HO1355.out
            (first | subst eo62 | (injection eo62 with f1_ f2_ f3_; have f4_ := f1_.symm; have f5_ := f3_.symm; clear f1_ f2_ f3_; subst f4_; subst f5_))
            refine hK.out _ _ ⟨.slice Ao62 y1353.length co62, m3_, (by rw [ha.out]; exact putSel_upk 2 hb_ rfl rfl rfl), (by (with_reducible repeat (first | apply Kd.S_alloc | apply Kd.S_drewN | apply Kd.S_drew)); exact HO1346.out), (by (with_reducible repeat (first | refine blk_drewN ?_ _ | refine blk_drew ?_ | refine blk_alloc ?_ _)); exact BK1335.out), z_BK1336, fun _ => (by (with_reducible repeat (first | refine blk_drewN ?_ _ | refine blk_drew ?_ | refine blk_alloc ?_ _)); exact BK1337.out), (by (with_reducible repeat (first | refine blk_drewN ?_ _ | refine blk_drew ?_ | refine blk_alloc ?_ _)); exact BK1351.out), (by (with_reducible repeat (first | refine blk_drewN ?_ _ | refine blk_drew ?_ | refine blk_alloc ?_ _)); exact BK1352.out), (by repeat (first | (with_reducible first | exact HB.out | apply below_alloc | apply pw_below_drewN | apply below_drew1 | refine below_set ?_ GE1335.out | refine below_set ?_ GE1336.out | refine below_set ?_ GE1337.out | refine below_set ?_ GE1351.out | refine below_set ?_ GE1352.out) | exact HB.out)), fun _ => (by (with_reducible repeat (first | apply Kd.R_alloc | apply Kd.R_drewN | apply Kd.R_drew)); exact Kd.R_mono HO1355.out (fun _ hk => hk.2)), z_BK1336_e4, fun h0_ => absurd ((hoff 5 (by kernel_rfl)).symm.trans h0_) (by decide), fun h0_ => absurd ((hoff 3 (by kernel_rfl)).symm.trans h0_) (by decide)⟩
          refine steps_cons ?_ ?_
          · rintro b a w' ⟨v1354, m3_, ha, Q_HO1346, Q_BK1335, Q_BK1336, Q_BK1337, Q_BK1351, Q_BK1352, Q_HB, Q_HO1355, Q_BK1336_e4, Q_BK1337_e5, Q_X3_⟩ hb_ hon hoff
            refine ⟨_, rfl, fun K hK => ?_⟩
            have e37 : a.tmps[37]? = some (v1354) := by rw [ha]; exact putSel_on (e := (2, 37, v1354)) 2 rfl rfl (hon 2 (by kernel_rfl)) rfl
            replace ha := Aside0.mk ha
            have HO1346 := Aside0.mk Q_HO1346
            have BK1335 := Aside0.mk Q_BK1335
            have BK1337 := Aside0.mk (Q_BK1337 (hoff 5 (by kernel_rfl)))
            have BK1351 := Aside0.mk Q_BK1351
            have BK1352 := Aside0.mk Q_BK1352
            have HB := Aside0.mk Q_HB
            have HO1355 := Aside0.mk (Q_HO1355 (hon 2 (by kernel_rfl)))
            obtain ⟨Ao3_0, co3_0, eo_⟩ := Kd.R_slice HO1355.out
            subst eo_
            refine value_ (w1 := w') (v := .agg #[.slice Ao3_0 y1353.length co3_0]) (by rfl) rfl ?_ ?_
            · go_simp
              (try simp only [i64_w])
              try rfl
            refine hK.out _ _ ⟨.slice Ao3_0 y1353.length co3_0, (.agg #[.slice Ao3_0 y1353.length co3_0]), (by rw [ha.out]; exact putSel_upk 3 hb_ rfl rfl rfl), Q_HO1346, Q_BK1335, Q_BK1336, Q_BK1337, Q_BK1351, Q_BK1352, Q_HB, Q_HO1355, Q_BK1336_e4, fun h0_ => absurd ((hoff 5 (by kernel_rfl)).symm.trans h0_) (by decide), fun _ => rfl⟩
          refine steps_cons ?_ ?_
          · rintro b a w' ⟨v1354, m3_, ha, Q_HO1346, Q_BK1335, Q_BK1336, Q_BK1337, Q_BK1351, Q_BK1352, Q_HB, Q_HO1355, Q_BK1336_e4, Q_BK1337_e5, Q_X3_⟩ hb_ hon hoff
            refine ⟨_, rfl, fun K hK => ?_⟩
            have e4 : a.tmps[4]? = some (.pointer (some ⟨gb1336, 0, none⟩)) := by rw [ha]; exact (putSel_off rfl).trans rfl
            have e35 : a.tmps[35]? = some (.agg #[.slice Ao48 t1344.length co48]) := by rw [ha]; exact putSel_on (e := (0, 35, .agg #[.slice Ao48 t1344.length co48])) 0 rfl rfl (hon 0 (by kernel_rfl)) rfl
            replace ha := Aside0.mk ha
            have HO1346 := Aside0.mk Q_HO1346
            have BK1335 := Aside0.mk Q_BK1335
            have BK1336 := Aside0.mk (Q_BK1336 hb_)
            have BK1337 := Aside0.mk (Q_BK1337 (hoff 5 (by kernel_rfl)))
            have BK1351 := Aside0.mk Q_BK1351
            have BK1352 := Aside0.mk Q_BK1352
            have HB := Aside0.mk Q_HB
            have hs60 : w'.cell? ⟨gb1336, 0, none⟩ = some (.slice none 0 0) := (blk_cell BK1336.out 0).trans rfl
            have hfs60 := blk_frozen BK1336.out 0
            have hns60_0 := NB1335_1336.out
            have hns60_2 := NB1337_1336.out
            have hns60_3 := NB1351_1336.out
            have hns60_4 := NB1352_1336.out
            have hms60_0 := NB1336_1335.out
            have hms60_2 := NB1336_1337.out
            have hms60_3 := NB1336_1351.out
            have hms60_4 := NB1336_1352.out
            refine skip_ (w1 := ?_) (by rfl) rfl ?_ ?_
            rotate_left
            · go_simp
              rfl
            refine hK.out _ _ ⟨v1354, m3_, (by rw [ha.out]; exact putSel_none (v := undef) rfl), (by (with_reducible repeat (first | apply Kd.S_alloc | apply Kd.S_drewN | apply Kd.S_drew)); exact Kd.S_mono (Kd.S_far (p := ⟨gb1336, 0, none⟩) (Kd.S_types HO1346.out BK1336.out (by decide)) (fun _ hk => hk.2) (.slice Ao48 t1344.length co48)) (fun _ hk => trivial)), (by (with_reducible repeat (first | refine blk_drewN ?_ _ | refine blk_drew ?_ | refine blk_alloc ?_ _)); refine blk_far ?_ NB1335_1336.out _; (with_reducible repeat (first | refine blk_drewN ?_ _ | refine blk_drew ?_ | refine blk_alloc ?_ _)); exact BK1335.out), fun h0_ => absurd ((up_self b 4).symm.trans h0_) (by decide), fun _ => (by (with_reducible repeat (first | refine blk_drewN ?_ _ | refine blk_drew ?_ | refine blk_alloc ?_ _)); refine blk_far ?_ NB1337_1336.out _; (with_reducible repeat (first | refine blk_drewN ?_ _ | refine blk_drew ?_ | refine blk_alloc ?_ _)); exact BK1337.out), (by (with_reducible repeat (first | refine blk_drewN ?_ _ | refine blk_drew ?_ | refine blk_alloc ?_ _)); refine blk_far ?_ NB1351_1336.out _; (with_reducible repeat (first | refine blk_drewN ?_ _ | refine blk_drew ?_ | refine blk_alloc ?_ _)); exact BK1351.out), (by (with_reducible repeat (first | refine blk_drewN ?_ _ | refine blk_drew ?_ | refine blk_alloc ?_ _)); refine blk_far ?_ NB1352_1336.out _; (with_reducible repeat (first | refine blk_drewN ?_ _ | refine blk_drew ?_ | refine blk_alloc ?_ _)); exact BK1352.out), (by repeat (first | (with_reducible first | exact HB.out | apply below_alloc | apply pw_below_drewN | apply below_drew1 | refine below_set ?_ GE1335.out | refine below_set ?_ GE1336.out | refine below_set ?_ GE1337.out | refine below_set ?_ GE1351.out | refine below_set ?_ GE1352.out) | exact HB.out)), fun h0_ => (by (with_reducible repeat (first | apply Kd.R_alloc | apply Kd.R_drewN | apply Kd.R_drew)); exact Kd.R_mono (Kd.R_far (p := ⟨gb1336, 0, none⟩) (Kd.R_types (Q_HO1355 h0_) BK1336.out (by decide)) (fun _ hk => hk.2) (.slice Ao48 t1344.length co48)) (fun _ hk => hk.1)), fun _ => (by (with_reducible repeat (first | refine blk_drewN ?_ _ | refine blk_drew ?_ | refine blk_alloc ?_ _)); refine blk_put (cs := #[.slice none 0 0]) ?_ 0 _ rfl; (with_reducible repeat (first | refine blk_drewN ?_ _ | refine blk_drew ?_ | refine blk_alloc ?_ _)); exact BK1336.out), fun h0_ => absurd ((hoff 5 (by kernel_rfl)).symm.trans h0_) (by decide), Q_X3_⟩
          refine steps_cons ?_ ?_
          · rintro b a w' ⟨v1354, m3_, ha, Q_HO1346, Q_BK1335, Q_BK1336, Q_BK1337, Q_BK1351, Q_BK1352, Q_HB, Q_HO1355, Q_BK1336_e4, Q_BK1337_e5, Q_X3_⟩ hb_ hon hoff
            refine ⟨_, rfl, fun K hK => ?_⟩
            have e5 : a.tmps[5]? = some (.pointer (some ⟨gb1337, 0, none⟩)) := by rw [ha]; exact (putSel_off rfl).trans rfl
            have e38 : a.tmps[38]? = some (m3_) := by rw [ha]; exact putSel_on (e := (3, 38, m3_)) 3 rfl rfl (hon 3 (by kernel_rfl)) rfl
            rw [Q_X3_ (hon 3 (by kernel_rfl))] at e38
            replace ha := Aside0.mk ha
            have HO1346 := Aside0.mk Q_HO1346
            have BK1335 := Aside0.mk Q_BK1335
            have BK1337 := Aside0.mk (Q_BK1337 hb_)
            have BK1351 := Aside0.mk Q_BK1351
            have BK1352 := Aside0.mk Q_BK1352
            have HB := Aside0.mk Q_HB
            have HO1355 := Aside0.mk (Q_HO1355 (hon 2 (by kernel_rfl)))
            have BK1336 := Aside0.mk (Q_BK1336_e4 (hon 4 (by kernel_rfl)))
            obtain ⟨Ao65, co65, eo65⟩ := Kd.R_slice HO1355.out
            (first | subst eo65 | (injection eo65 with f1_ f2_ f3_; have f4_ := f1_.symm; have f5_ := f3_.symm; clear f1_ f2_ f3_; subst f4_; subst f5_))
            have hs66 : w'.cell? ⟨gb1337, 0, none⟩ = some (.slice none 0 0) := (blk_cell BK1337.out 0).trans rfl
            have hfs66 := blk_frozen BK1337.out 0
            have hns66_0 := NB1335_1337.out
            have hns66_1 := NB1336_1337.out
            have hns66_3 := NB1351_1337.out
            have hns66_4 := NB1352_1337.out
            have hms66_0 := NB1337_1335.out
            have hms66_1 := NB1337_1336.out
            have hms66_3 := NB1337_1351.out
            have hms66_4 := NB1337_1352.out
            refine skip_ (w1 := ?_) (by rfl) rfl ?_ ?_
            rotate_left
            · go_simp
              rfl
            refine hK.out _ _ ⟨.slice Ao65 y1353.length co65, m3_, (by rw [ha.out]; exact putSel_none (v := undef) rfl), (by (with_reducible repeat (first | apply Kd.S_alloc | apply Kd.S_drewN | apply Kd.S_drew)); exact Kd.S_mono (Kd.S_far (p := ⟨gb1337, 0, none⟩) (Kd.S_types HO1346.out BK1337.out (by decide)) (fun _ hk => hk.2) (.slice Ao65 y1353.length co65)) (fun _ hk => trivial)), (by (with_reducible repeat (first | refine blk_drewN ?_ _ | refine blk_drew ?_ | refine blk_alloc ?_ _)); refine blk_far ?_ NB1335_1337.out _; (with_reducible repeat (first | refine blk_drewN ?_ _ | refine blk_drew ?_ | refine blk_alloc ?_ _)); exact BK1335.out), fun h0_ => absurd ((hon 4 (by kernel_rfl)).symm.trans h0_) (by decide), fun h0_ => absurd ((up_self b 5).symm.trans h0_) (by decide), (by (with_reducible repeat (first | refine blk_drewN ?_ _ | refine blk_drew ?_ | refine blk_alloc ?_ _)); refine blk_far ?_ NB1351_1337.out _; (with_reducible repeat (first | refine blk_drewN ?_ _ | refine blk_drew ?_ | refine blk_alloc ?_ _)); exact BK1351.out), (by (with_reducible repeat (first | refine blk_drewN ?_ _ | refine blk_drew ?_ | refine blk_alloc ?_ _)); refine blk_far ?_ NB1352_1337.out _; (with_reducible repeat (first | refine blk_drewN ?_ _ | refine blk_drew ?_ | refine blk_alloc ?_ _)); exact BK1352.out), (by repeat (first | (with_reducible first | exact HB.out | apply below_alloc | apply pw_below_drewN | apply below_drew1 | refine below_set ?_ GE1335.out | refine below_set ?_ GE1336.out | refine below_set ?_ GE1337.out | refine below_set ?_ GE1351.out | refine below_set ?_ GE1352.out) | exact HB.out)), fun _ => (by (with_reducible repeat (first | apply Kd.R_alloc | apply Kd.R_drewN | apply Kd.R_drew)); exact Kd.R_mono (Kd.R_far (p := ⟨gb1337, 0, none⟩) (Kd.R_types HO1355.out BK1337.out (by decide)) (fun _ hk => hk.2) (.slice Ao65 y1353.length co65)) (fun _ hk => hk.1)), fun _ => (by (with_reducible repeat (first | refine blk_drewN ?_ _ | refine blk_drew ?_ | refine blk_alloc ?_ _)); refine blk_far ?_ NB1336_1337.out _; (with_reducible repeat (first | refine blk_drewN ?_ _ | refine blk_drew ?_ | refine blk_alloc ?_ _)); exact BK1336.out), fun _ => (by (with_reducible repeat (first | refine blk_drewN ?_ _ | refine blk_drew ?_ | refine blk_alloc ?_ _)); refine blk_put (cs := #[.slice none 0 0]) ?_ 0 _ rfl; (with_reducible repeat (first | refine blk_drewN ?_ _ | refine blk_drew ?_ | refine blk_alloc ?_ _)); exact BK1337.out), Q_X3_⟩
          refine steps_cons ?_ ?_
          · rintro b a w' ⟨v1354, m3_, ha, Q_HO1346, Q_BK1335, Q_BK1336, Q_BK1337, Q_BK1351, Q_BK1352, Q_HB, Q_HO1355, Q_BK1336_e4, Q_BK1337_e5, Q_X3_⟩ hb_ hon hoff
            refine ⟨_, rfl, fun K hK => ?_⟩
            replace ha := Aside0.mk ha
            have HO1346 := Aside0.mk Q_HO1346
            have BK1335 := Aside0.mk Q_BK1335
            have BK1351 := Aside0.mk Q_BK1351
            have BK1352 := Aside0.mk Q_BK1352
            have HB := Aside0.mk Q_HB
            have HO1355 := Aside0.mk (Q_HO1355 (hon 2 (by kernel_rfl)))
            have BK1336 := Aside0.mk (Q_BK1336_e4 (hon 4 (by kernel_rfl)))
            have BK1337 := Aside0.mk (Q_BK1337_e5 (hon 5 (by kernel_rfl)))
            refine value_ (w1 := w') (v := .bool true) (by rfl) rfl ?_ ?_
            · go_simp
              (try simp only [i64_w])
              try rfl
            refine hK.out _ _ ⟨v1354, m3_, (by rw [ha.out]; exact putSel_upk 4 hb_ rfl rfl rfl), Q_HO1346, Q_BK1335, fun h0_ => absurd ((hon 4 (by kernel_rfl)).symm.trans h0_) (by decide), fun h0_ => absurd ((hon 5 (by kernel_rfl)).symm.trans h0_) (by decide), Q_BK1351, Q_BK1352, Q_HB, Q_HO1355, Q_BK1336_e4, Q_BK1337_e5, Q_X3_⟩
          exact steps_nil
        rintro b a w65 hall ⟨v1354, m3_, ha, Q_HO1346, Q_BK1335, Q_BK1336, Q_BK1337, Q_BK1351, Q_BK1352, Q_HB, Q_HO1355, Q_BK1336_e4, Q_BK1337_e5, Q_X3_⟩
        clear BK1335 BK1336 BK1337 BK1351 BK1352 HB HO1346
        have hb0_ := hall 0 (by kernel_rfl)
        have hb1_ := hall 1 (by kernel_rfl)
        have hb2_ := hall 2 (by kernel_rfl)
        have hb3_ := hall 3 (by kernel_rfl)
        have hb4_ := hall 4 (by kernel_rfl)
        have hb5_ := hall 5 (by kernel_rfl)
        have hb6_ := hall 6 (by kernel_rfl)
        subst ha
        obtain rfl := Q_X3_ hb3_
        simp only [putSel, hb0_, hb1_, hb2_, hb3_, hb4_, hb5_, hb6_, if_true, Act.put, List.setIfInBounds_toArray, List.set_cons_zero, List.set_cons_succ]
        have HO1346 := Aside0.mk Q_HO1346
        clear Q_HO1346
        have BK1335 := Aside0.mk Q_BK1335
        clear Q_BK1335
        clear Q_BK1336
        clear Q_BK1337
        have BK1351 := Aside0.mk Q_BK1351
        clear Q_BK1351
        have BK1352 := Aside0.mk Q_BK1352
        clear Q_BK1352
        have HB := Aside0.mk Q_HB
        clear Q_HB
        have HO1355 := Aside0.mk (Q_HO1355 hb2_)
        clear Q_HO1355
        have BK1336 := Aside0.mk (Q_BK1336_e4 hb4_)
        clear Q_BK1336_e4
        have BK1337 := Aside0.mk (Q_BK1337_e5 hb5_)
        clear Q_BK1337_e5
        clear hall hb0_ hb1_ hb2_ hb3_ hb4_ hb5_ hb6_
        obtain ⟨Ao66, co66, eo66⟩ := Kd.R_slice HO1355.out
        (first | subst eo66 | (injection eo66 with f1_ f2_ f3_; have f4_ := f1_.symm; have f5_ := f3_.symm; clear f1_ f2_ f3_; subst f4_; subst f5_))
        try go_wp2
        refine bodyPost_ret (results_list (rs := [.cell 4 26, .cell 5 102, .tmp 6]) rfl (by simp) (.cell gb1336 26 #[.slice Ao48 t1344.length co48] (0, 0) _ rfl (by (with_reducible repeat (first | refine blk_drewN ?_ _ | refine blk_drew ?_ | refine blk_alloc ?_ _)); exact BK1336.out) Try.underlying26 rfl (by kernel_rfl) (.cell gb1337 102 #[.slice Ao66 y1353.length co66] (0, 0) _ rfl (by (with_reducible repeat (first | refine blk_drewN ?_ _ | refine blk_drew ?_ | refine blk_alloc ?_ _)); exact BK1337.out) Try.underlying102 rfl (by kernel_rfl) (.tmp .nil)))) rfl ?_
        exact ⟨_, _, by first | rfl | (simp [errW_none, errW_some] <;> rfl) | (simp [*, errW_none, errW_some] <;> rfl), by (with_reducible repeat (first | apply Kd.S_alloc | apply Kd.S_drewN | apply Kd.S_drew)); exact HO1346.out, by (with_reducible repeat (first | apply Kd.R_alloc | apply Kd.R_drewN | apply Kd.R_drew)); exact Kd.R_mono HO1355.out (fun _ hk => trivial), by repeat (first | (with_reducible first | exact HB.out | apply below_alloc | apply pw_below_drewN | apply below_drew1 | refine below_set ?_ GE1335.out | refine below_set ?_ GE1336.out | refine below_set ?_ GE1337.out | refine below_set ?_ GE1351.out | refine below_set ?_ GE1352.out) | exact HB.out)⟩

end Go.Proofs.Ytoomjghabiojkaa.P


namespace Go.Proofs.Ytoomjghabiojkaa.P
open Go.RowKit Go.Proofs.YtoomjghabiojkaaW.PrintWords Go.Proofs.YtoomjghabiojkaaW.PrintLast Go.Proofs.YtoomjghabiojkaaW.PrintMore
attribute [local go_sem] max2_int min2_int max_two min_two max_three min_three max_four min_four   -- for this text's walks alone
set_option linter.unusedVariables false
set_option linter.unusedSimpArgs false

def spec_l7Text.l0 : Nat → List Int → Int → List (List Int) → List (SimplWindow) → Option (List Int)
  | 0, _, _, _, _ => none
  | k + 1, x5, x6, x1357000, x1358000 => if x6 < (x1358000.length : Int) then (if 0 ≤ x6 then ((spec_l2Bytes.f k x1357000 ((rd_TimplWindow x1358000 x6).f0) ((rd_TimplWindow x1358000 x6).f1) ((rd_TimplWindow x1358000 x6).f2) ((rd_TimplWindow x1358000 x6).f3)).bind fun t1362 => (if x5.length + t1362.length < 140737488355328 then (spec_l7Text.l0 k (x5 ++ t1362) (wrap64 (x6 + 1)) x1357000 x1358000) else (none))) else (none)) else (some x5)
def spec_l7Text.f (k : Nat) (l0_0 : List (List Int)) (l1_0 : List (SimplWindow)) : Option (List Int) := spec_l7Text.l0 k (([] : List Int)) 0 l0_0 l1_0
def spec_l7Text.T5 : Bool × List (List Nat × List Nat) := (true, [([], []), ([], []), ([], []), ([2], [2]), ([], []), ([3, 4], [3, 4]), ([5], [5]), ([1, 6], [1, 6]), ([0, 7, 7], [0, 7]), ([8, 8, 0, 1, 2, 3, 4, 5, 6, 7, 8], [0, 8])])
def spec_l7Text.B5 : List Nat := [0, 0, 0, 4, 0, 28, 60, 126, 255, 511]
theorem spec_l7Text.tab5 : rtab .any (opsOf Try.f127 5) = spec_l7Text.T5 := by kernel_rfl
theorem spec_l7Text.bits5 : waitsOk spec_l7Text.T5.2 spec_l7Text.B5 = true := by kernel_rfl
set_option maxHeartbeats 8000000 in
set_option maxRecDepth 100000 in
theorem spec_l7Text.calls (k : Nat) (A0_0 : Option Addr) (c0_0 : Nat) (l0_0 : List (List Int)) (A1_0 : Option Addr) (c1_0 : Nat) (l1_0 : List (SimplWindow)) (r : List Int) (w : World) (hr0_0 : Kd.C (Kd.slice 5 (Kd.int .u8)) w A0_0 l0_0.length l0_0) (hc0_0 : l0_0.length ≤ c0_0) (hr1_0 : Kd.C kimplWindow w A1_0 l1_0.length l1_0) (hc1_0 : l1_0.length ≤ c1_0) (h : spec_l7Text.f k l0_0 l1_0 = some r) :
    Calls Try.prog 127 #[.agg #[.slice A0_0 l0_0.length c0_0], .agg #[.slice A1_0 l1_0.length c1_0]] w fun e w' => ∃ v0_ : Value, e = .returned (v0_) ∧ Kd.R (Kd.int .u8) 5 w' w.heap.size (fun _ => True) v0_ r ∧ Below w.heap.size w w' := by
  have hu26 := Try.underlying26
  have hu102 := Try.underlying102
  have hu48 := Try.underlying48
  have HR0_0 := Aside0.mk hr0_0
  have HC0_0 := Aside0.mk hc0_0
  clear hr0_0 hc0_0
  have HR1_0 := Aside0.mk hr1_0
  have HC1_0 := Aside0.mk hc1_0
  clear hr1_0 hc1_0
  have HB := Aside0.mk (Below.refl w.heap.size w)
  have H : (spec_l7Text.l0 k (([] : List Int)) 0 l0_0 l1_0) = some r := h
  clear h
  obtain ⟨y1358, hy1358⟩ : ∃ y_ : List Int, y_ = (([] : List Int)) := ⟨_, rfl⟩
  replace H : (spec_l7Text.l0 k y1358 0 l0_0 l1_0) = some r := by first | (rw [hy1358]; with_reducible exact H) | (have H2_ := (Option.bind_some _ _).symm.trans H; rw [hy1358]; with_reducible exact H2_) | (have H2_ := (Option.bind_some _ _).symm.trans H; with_reducible exact H2_) | with_reducible exact H | (rw [hy1358]; exact H) | exact H
  have Ny1358 := Aside0.mk hy1358
  clear hy1358
  have H' := Aside0.mk H
  clear H
  go_enter Try.func127, Try.ntmps127
  go_wp2_with (first | ((with_reducible refine gate_dst (N := 2) rfl ?_); refine box_event ?hg (N := 2) ?hd (cs := #[.slice A0_0 l0_0.length c0_0]) (t := 26) ?hr ?_; (case hd => rfl); (case hg => rfl); (case hr => first | (go_simp; done) | (go_simp; rfl)); intro gb1356 hg w3 hbox hb; have n0_ := Aside0.mk (below_step (by repeat (first | (with_reducible first | exact HB.out | apply below_alloc | apply pw_below_drewN | apply below_drew1) | exact HB.out)) hb); have n1_ := Aside0.mk (hbox); have n2_ := Aside0.mk ((by rw [hg]; exact (below_size (by repeat (first | (with_reducible first | exact HB.out | apply below_alloc | apply pw_below_drewN | apply below_drew1) | exact HB.out))) : w.heap.size ≤ gb1356)); have n3_ := Aside0.mk ((by rw [hg]; exact (below_size (by repeat (first | (with_reducible first | exact HB.out | apply below_alloc | apply pw_below_drewN | apply below_drew1) | exact HB.out))) : w.heap.size ≤ gb1356)); clear HB; have HB := n0_; have BK1356 := n1_; have GW1356 := n2_; have GE1356 := n3_; clear n0_ n1_ n2_ n3_; clear hb hbox hg) | ((with_reducible refine gate_dst (N := 3) rfl ?_); refine box_event ?hg (N := 3) ?hd (cs := #[.slice A1_0 l1_0.length c1_0]) (t := 102) ?hr ?_; (case hd => rfl); (case hg => rfl); (case hr => first | (go_simp; done) | (go_simp; rfl)); intro gb1357 hg w4 hbox hb; have n0_ := Aside0.mk (blk_below (g := gb1356) (o := .cells #[.slice A0_0 l0_0.length c0_0] 26 (0, 0)) (by (with_reducible repeat (first | refine blk_drewN ?_ _ | refine blk_drew ?_ | refine blk_alloc ?_ _)); exact BK1356.out) hb); have n1_ := Aside0.mk (below_step (by repeat (first | (with_reducible first | exact HB.out | apply below_alloc | apply pw_below_drewN | apply below_drew1 | refine below_set ?_ GE1356.out) | exact HB.out)) hb); have n2_ := Aside0.mk (hbox); have n3_ := Aside0.mk ((by rw [hg]; exact (below_size (by repeat (first | (with_reducible first | exact HB.out | apply below_alloc | apply pw_below_drewN | apply below_drew1 | refine below_set ?_ GE1356.out) | exact HB.out))) : w.heap.size ≤ gb1357)); have n4_ := Aside0.mk ((by rw [hg]; exact (below_size (by repeat (first | (with_reducible first | exact HB.out | apply below_alloc | apply pw_below_drewN | apply below_drew1 | refine below_set ?_ GE1356.out) | exact HB.out))) : w.heap.size ≤ gb1357)); have n5_ := Aside0.mk ((by rw [hg]; exact Nat.ne_of_lt (blk_lt (g := gb1356) (o := .cells #[.slice A0_0 l0_0.length c0_0] 26 (0, 0)) (by (with_reducible repeat (first | refine blk_drewN ?_ _ | refine blk_drew ?_ | refine blk_alloc ?_ _)); exact BK1356.out)) : gb1356 ≠ gb1357)); have n6_ := Aside0.mk ((by rw [hg]; exact Nat.ne_of_gt (blk_lt (g := gb1356) (o := .cells #[.slice A0_0 l0_0.length c0_0] 26 (0, 0)) (by (with_reducible repeat (first | refine blk_drewN ?_ _ | refine blk_drew ?_ | refine blk_alloc ?_ _)); exact BK1356.out)) : gb1357 ≠ gb1356)); clear BK1356; clear HB; have BK1356 := n0_; have HB := n1_; have BK1357 := n2_; have GW1357 := n3_; have GE1357 := n4_; have NB1356_1357 := n5_; have NB1357_1356 := n6_; clear n0_ n1_ n2_ n3_ n4_ n5_ n6_; clear hb hbox hg) | ((with_reducible refine gate_dst (N := 7) rfl ?_); refine Kd.R_lit (Kd.int .u8) _ 5 ?hg (N := 7) ?hd (xs := ([] : List Int)) (inner := []) (ok := fun _ => True) (okp := fun _ => True) ?hr ?hp (fun _ hk => hk) trivial (Below.refl _ _) (Nat.le_refl _) (by simp) ?_; (case hd => rfl); (case hg => rfl); (case hr => first | (go_simp; done) | (go_simp; rfl)); (case hp => exact (Reps.none _ _)); intro v1359 w5 ho6 hb hg_ hnew_; clear hg_ hnew_; (first | rw [← Ny1358.out] at ho6 | (simp only [Int.reduceToNat] at ho6; rw [← Ny1358.out] at ho6)); have n0_ := Aside0.mk (Kd.R_lower ho6 (below_size (by repeat (first | (with_reducible first | exact HB.out | apply below_alloc | apply pw_below_drewN | apply below_drew1 | refine below_set ?_ GE1356.out | refine below_set ?_ GE1357.out) | exact HB.out)))); have n1_ := Aside0.mk (blk_below (g := gb1356) (o := .cells #[.slice A0_0 l0_0.length c0_0] 26 (0, 0)) (by (with_reducible repeat (first | refine blk_drewN ?_ _ | refine blk_drew ?_ | refine blk_alloc ?_ _)); exact BK1356.out) hb); have n2_ := Aside0.mk (blk_below (g := gb1357) (o := .cells #[.slice A1_0 l1_0.length c1_0] 102 (0, 0)) (by (with_reducible repeat (first | refine blk_drewN ?_ _ | refine blk_drew ?_ | refine blk_alloc ?_ _)); exact BK1357.out) hb); have n3_ := Aside0.mk (below_step (by repeat (first | (with_reducible first | exact HB.out | apply below_alloc | apply pw_below_drewN | apply below_drew1 | refine below_set ?_ GE1356.out | refine below_set ?_ GE1357.out) | exact HB.out)) hb); clear BK1356; clear BK1357; clear HB; have HO1360 := n0_; have BK1356 := n1_; have BK1357 := n2_; have HB := n3_; clear n0_ n1_ n2_ n3_; clear hb ho6))
  go_loopg [5, 6] k (fun kq v5 v6 w' => ∃ (x5_1 : List Int) (x6_1 : Int), v6 = .int .i64 x6_1 ∧ Aside0 (spec_l7Text.l0 kq x5_1 x6_1 l0_0 l1_0 = some r) ∧ Aside0 (kq ≤ k) ∧ Aside0 (Kd.R (Kd.int .u8) 5 w' w.heap.size (fun _ => True) v5 x5_1) ∧ Aside0 (w'.heap[gb1356]? = some (.cells #[(.slice A0_0 l0_0.length c0_0)] 26 (0, 0))) ∧ Aside0 (w'.heap[gb1357]? = some (.cells #[(.slice A1_0 l1_0.length c1_0)] 102 (0, 0))) ∧ Aside0 (Below w.heap.size w w'))
  case atStart => exact ⟨(y1358), (0), (by first | rfl | (simp; done) | (simp [*]; done)), H', ⟨Nat.le_refl _⟩, ⟨by (with_reducible repeat (first | apply Kd.R_alloc | apply Kd.R_drewN | apply Kd.R_drew)); exact HO1360.out⟩, ⟨by (with_reducible repeat (first | refine blk_drewN ?_ _ | refine blk_drew ?_ | refine blk_alloc ?_ _)); exact BK1356.out⟩, ⟨by (with_reducible repeat (first | refine blk_drewN ?_ _ | refine blk_drew ?_ | refine blk_alloc ?_ _)); exact BK1357.out⟩, ⟨by repeat (first | (with_reducible first | exact HB.out | apply below_alloc | apply pw_below_drewN | apply below_drew1 | refine below_set ?_ GE1356.out | refine below_set ?_ GE1357.out) | exact HB.out)⟩⟩
  case round =>
    clear H'
    try clear c1
    try clear p2
    obtain ⟨x5_1, x6_1, rfl, HA, HK1, HO_5, BK1356, BK1357, HB⟩ := hrel
    cases gk with
    | zero => exact absurd HA.out (by simp [spec_l7Text.l0])
    | succ k1 =>
      have H := HA.out
      clear HA
      simp only [spec_l7Text.l0] at H
      by_cases c7 : x6_1 < (l1_0.length : Int)
      · rw [if_pos c7] at H
        have c7b0 : decide (x6_1 < (l1_0.length : Int)) = true := decide_eq_true c7
        clear c7
        by_cases c8 : 0 ≤ x6_1
        · rw [if_pos c8] at H
          have c8b0 : decide (0 ≤ x6_1) = true := decide_eq_true c8
          clear c8
          replace H := Option.bind_eq_some_iff.mp H
          obtain ⟨t1362, A90, H⟩ := H
          replace H : (if x5_1.length + t1362.length < 140737488355328 then (spec_l7Text.l0 k1 (x5_1 ++ t1362) (wrap64 (x6_1 + 1)) l0_0 l1_0) else (none)) = some r := H
          have A9 := Aside0.mk A90
          clear A90
          by_cases c10 : x5_1.length + t1362.length < 140737488355328
          · rw [if_pos c10] at H
            have LMc10 := Aside0.mk c10
            clear c10
            obtain ⟨y1365, hy1365⟩ : ∃ y_ : List Int, y_ = (x5_1 ++ t1362) := ⟨_, rfl⟩
            replace H : (spec_l7Text.l0 k1 y1365 (wrap64 (x6_1 + 1)) l0_0 l1_0) = some r := by first | (rw [hy1365]; with_reducible exact H) | (have H2_ := (Option.bind_some _ _).symm.trans H; rw [hy1365]; with_reducible exact H2_) | (have H2_ := (Option.bind_some _ _).symm.trans H; with_reducible exact H2_) | with_reducible exact H | (rw [hy1365]; exact H) | exact H
            have Ny1365 := Aside0.mk hy1365
            clear hy1365
            have H' := Aside0.mk H
            clear H
            have hnb11 := NB1357_1356.out
            have hnc11 := NB1356_1357.out
            have hcz12_0 : wr.cell? ⟨gb1357, 0, none⟩ = some (.slice A1_0 l1_0.length c1_0) := (blk_cell BK1357.out 0).trans rfl
            have hfz12_0 := blk_frozen BK1357.out 0
            try go_wp2
            have n0_ := Aside0.mk (Kd.R_drew HO_5.out)
            have n1_ := Aside0.mk (blk_drew BK1356.out)
            have n2_ := Aside0.mk (blk_drew BK1357.out)
            have n3_ := Aside0.mk (below_drew1 HB.out)
            clear HO_5
            clear BK1356
            clear BK1357
            clear HB
            have HO_5 := n0_
            have BK1356 := n1_
            have BK1357 := n2_
            have HB := n3_
            clear n0_ n1_ n2_ n3_
            have p1361 : 0 ≤ (x6_1 : Int) := of_decide_eq_true (by first | (with_reducible assumption) | assumption)
            have q1361 : x6_1 < (l1_0.length : Int) := of_decide_eq_true (by first | (with_reducible assumption) | assumption)
            obtain ⟨ad1361, e1361, hx1361_0, hx1361_1, hx1361_2, hx1361_3⟩ := at_TimplWindow HR1_0.out x6_1 p1361 q1361
            have hw1361_3 := hx1361_3
            have hw1361_2 := hx1361_2
            have hw1361_1 := hx1361_1
            have hw1361_0 := hx1361_0
            cases e1361
            replace hx1361_0 := (HB.out.cell (World.block_lt_of_cell? w _ hx1361_0)).trans hx1361_0
            replace hx1361_1 := (HB.out.cell (World.block_lt_of_cell? w _ hx1361_1)).trans hx1361_1
            replace hx1361_2 := (HB.out.cell (World.block_lt_of_cell? w _ hx1361_2)).trans hx1361_2
            replace hx1361_3 := (HB.out.cell (World.block_lt_of_cell? w _ hx1361_3)).trans hx1361_3
            replace p1361 := eq_true p1361
            replace q1361 := eq_true q1361
            refine start_ (n := 10) (S := fun w' => w'.cell? ⟨gb1356, 0, none⟩ = some (.slice A0_0 l0_0.length c0_0) ∧ w'.cell? ⟨gb1357, 0, none⟩ = some (.slice (some ad1361) l1_0.length c1_0) ∧ w'.cell? (ad1361.add ((x6_1).toNat * 4)) = some (.int .i64 ((rd_TimplWindow l1_0 x6_1).f0)) ∧ w'.cell? ⟨(ad1361.add ((x6_1).toNat * 4)).block, (ad1361.add ((x6_1).toNat * 4)).off + 1, none⟩ = some (.int .i64 ((rd_TimplWindow l1_0 x6_1).f1)) ∧ w'.cell? ⟨(ad1361.add ((x6_1).toNat * 4)).block, (ad1361.add ((x6_1).toNat * 4)).off + 2, none⟩ = some (.int .i64 ((rd_TimplWindow l1_0 x6_1).f2)) ∧ w'.cell? ⟨(ad1361.add ((x6_1).toNat * 4)).block, (ad1361.add ((x6_1).toNat * 4)).off + 3, none⟩ = some (.int .i64 ((rd_TimplWindow l1_0 x6_1).f3))) (ds := []) #[false, false, false, false, false, false, false, false, false, false] (by kernel_rfl) rfl rfl ⟨(blk_cell BK1356.out 0).trans rfl, (blk_cell BK1357.out 0).trans rfl, (by have h_ := ((HB.out.cell (World.block_lt_of_cell? w _ hw1361_0)).trans hw1361_0); first | exact h_ | (simp only [*] at h_; exact h_) | (simp [*]; done) | simpa [*] using h_), (by have h_ := ((HB.out.cell (World.block_lt_of_cell? w _ hw1361_1)).trans hw1361_1); first | exact h_ | (simp only [*] at h_; exact h_) | (simp [*]; done) | simpa [*] using h_), (by have h_ := ((HB.out.cell (World.block_lt_of_cell? w _ hw1361_2)).trans hw1361_2); first | exact h_ | (simp only [*] at h_; exact h_) | (simp [*]; done) | simpa [*] using h_), (by have h_ := ((HB.out.cell (World.block_lt_of_cell? w _ hw1361_3)).trans hw1361_3); first | exact h_ | (simp only [*] at h_; exact h_) | (simp [*]; done) | simpa [*] using h_)⟩ (fun hHeld => ?_); refine with_tabW spec_l7Text.tab5 spec_l7Text.bits5 (fun HT_ HW_ => ?_)
            generalize wr.drew = w13 at HO_5 BK1356 BK1357 HB hx1361_0 hx1361_1 hx1361_2 hx1361_3 hHeld ⊢
            refine pure_ (i := 0) (N := some 15) (v := ?_) (a' := ?_) #[true, false, false, false, false, false, false, false, false, false] rfl rfl (any_of HT_.out (by kernel_rfl)) (fun _ _ _ h => h) (Or.inl ⟨by rfl, ?_⟩) ?_ ?_
            rotate_left
            · intro w'
              go_simp
              with_reducible rfl
            rotate_left
            · simp only [Act.put, List.setIfInBounds_toArray, List.set_cons_zero, List.set_cons_succ, i64_w, i32_w]
              rfl
            refine pure_ (i := 2) (N := some 17) (v := ?_) (a' := ?_) #[true, false, true, false, false, false, false, false, false, false] rfl rfl (any_of HT_.out (by kernel_rfl)) (fun _ _ _ h => h) (Or.inl ⟨by rfl, ?_⟩) ?_ ?_
            rotate_left
            · intro w'
              go_simp
              with_reducible rfl
            rotate_left
            · simp only [Act.put, List.setIfInBounds_toArray, List.set_cons_zero, List.set_cons_succ, i64_w, i32_w]
              rfl
            refine pure_ (i := 4) (N := some 19) (v := ?_) (a' := ?_) #[true, false, true, false, true, false, false, false, false, false] rfl rfl (any_of HT_.out (by kernel_rfl)) (fun _ _ _ h => h) (Or.inl ⟨by rfl, ?_⟩) ?_ ?_
            rotate_left
            · intro w'
              go_simp
              with_reducible rfl
            rotate_left
            · simp only [Act.put, List.setIfInBounds_toArray, List.set_cons_zero, List.set_cons_succ, i64_w, i32_w]
              rfl
            refine take_ (i := 1) (N := some 16) (v := ?_) (a' := ?_) #[true, true, true, false, true, false, false, false, false, false] rfl rfl (take_ofW HT_.out HW_.out (by kernel_rfl)) (fun _ _ _ h => h) (Or.inl ⟨by rfl, ?_⟩) hHeld ?_ ?_
            rotate_left
            · rintro w' ⟨s0, s1, s2, s3, s4, s5⟩
              go_simp
              with_reducible rfl
            rotate_left
            · simp only [Act.put, List.setIfInBounds_toArray, List.set_cons_zero, List.set_cons_succ, i64_w, i32_w]
              rfl
            refine take_ (i := 3) (N := some 18) (v := ?_) (a' := ?_) #[true, true, true, true, true, false, false, false, false, false] rfl rfl (take_ofW HT_.out HW_.out (by kernel_rfl)) (fun _ _ _ h => h) (Or.inl ⟨by rfl, ?_⟩) hHeld ?_ ?_
            rotate_left
            · rintro w' ⟨s0, s1, s2, s3, s4, s5⟩
              go_simp
              with_reducible rfl
            rotate_left
            · simp only [Act.put, List.setIfInBounds_toArray, List.set_cons_zero, List.set_cons_succ, i64_w, i32_w]
              rfl
            refine pure_ (i := 5) (N := some 20) (v := ?_) (a' := ?_) #[true, true, true, true, true, true, false, false, false, false] rfl rfl (any_of HT_.out (by kernel_rfl)) (fun _ _ _ h => h) (Or.inl ⟨by rfl, ?_⟩) ?_ ?_
            rotate_left
            · intro w'
              go_simp
              with_reducible rfl
            rotate_left
            · simp only [Act.put, List.setIfInBounds_toArray, List.set_cons_zero, List.set_cons_succ, i64_w, i32_w]
              rfl
            refine take_ (i := 6) (N := some 21) (v := ?_) (a' := ?_) #[true, true, true, true, true, true, true, false, false, false] rfl rfl (take_ofW HT_.out HW_.out (by kernel_rfl)) (fun _ _ _ h => h) (Or.inl ⟨by rfl, ?_⟩) hHeld ?_ ?_
            rotate_left
            · rintro w' ⟨s0, s1, s2, s3, s4, s5⟩
              go_simp
              with_reducible rfl
            rotate_left
            · simp only [Act.put, List.setIfInBounds_toArray, List.set_cons_zero, List.set_cons_succ, i64_w, i32_w]
              rfl
            refine one_ (i := 7) (N := some 22) #[true, true, true, true, true, true, true, true, false, false] rfl rfl (one_of HT_.out (by kernel_rfl)) (by decide) (fun K hK => ?_)
            refine goes_ Try.func142 (by kernel_rfl) rfl #[.agg #[.slice A0_0 l0_0.length c0_0], .agg #[.int .i64 ((rd_TimplWindow l1_0 x6_1).f0), .int .i64 ((rd_TimplWindow l1_0 x6_1).f1), .int .i64 ((rd_TimplWindow l1_0 x6_1).f2), .int .i64 ((rd_TimplWindow l1_0 x6_1).f3)]] (by rfl) rfl rfl (by (try simp only [List.map_toArray, List.map_cons, List.map_nil]); first | done | rfl | (simp only [List.length_drop, List.length_take]; rfl)) ?_
            with_reducible refine (spec_l2Bytes.calls k1 _ _ l0_0 ((rd_TimplWindow l1_0 x6_1).f0) ((rd_TimplWindow l1_0 x6_1).f1) ((rd_TimplWindow l1_0 x6_1).f2) ((rd_TimplWindow l1_0 x6_1).f3) t1362 _ ?side1 ?side2 A9.out).mono ?_
            (case side1 => repeat (first | exact (Kd.C_below HR0_0.out HB.out) | (with_reducible refine Kd.C_alloc ?_ _) | (with_reducible refine Kd.C_drewN ?_ _) | (with_reducible refine Kd.C_drew ?_)))
            (case side2 => exact HC0_0.out)
            rintro e w14 ⟨v1363, rfl, ho0, hb⟩
            refine ⟨_, rfl, ?_⟩
            have n0_ := Aside0.mk (Kd.R_elder' (by (with_reducible repeat (first | apply Kd.R_alloc | apply Kd.R_drewN | apply Kd.R_drew)); exact HO_5.out) (Kd.R_base ho0) hb)
            have n1_ := Aside0.mk (Kd.R_lower (Kd.R_new' ho0 (Kd.R_lt (by (with_reducible repeat (first | apply Kd.R_alloc | apply Kd.R_drewN | apply Kd.R_drew)); exact HO_5.out))) (below_size (by repeat (first | (with_reducible first | exact HB.out | apply below_alloc | apply pw_below_drewN | apply below_drew1 | refine below_set ?_ GE1356.out | refine below_set ?_ GE1357.out) | exact HB.out))))
            have n2_ := Aside0.mk (blk_below (g := gb1356) (o := .cells #[.slice A0_0 l0_0.length c0_0] 26 (0, 0)) (by (with_reducible repeat (first | refine blk_drewN ?_ _ | refine blk_drew ?_ | refine blk_alloc ?_ _)); exact BK1356.out) hb)
            have n3_ := Aside0.mk (blk_below (g := gb1357) (o := .cells #[.slice (some ad1361) l1_0.length c1_0] 102 (0, 0)) (by (with_reducible repeat (first | refine blk_drewN ?_ _ | refine blk_drew ?_ | refine blk_alloc ?_ _)); exact BK1357.out) hb)
            have n4_ := Aside0.mk (below_step (by repeat (first | (with_reducible first | exact HB.out | apply below_alloc | apply pw_below_drewN | apply below_drew1 | refine below_set ?_ GE1356.out | refine below_set ?_ GE1357.out) | exact HB.out)) hb)
            clear HO_5
            clear BK1356
            clear BK1357
            clear HB
            have HO_5 := n0_
            have HO1364 := n1_
            have BK1356 := n2_
            have BK1357 := n3_
            have HB := n4_
            clear n0_ n1_ n2_ n3_ n4_
            (try clear hb)
            (try clear hb2)
            (try clear hk)
            (try clear hi)
            (try clear ho0)
            obtain ⟨Ao16, co16, eo16⟩ := Kd.R_slice HO1364.out
            (first | subst eo16 | (injection eo16 with f1_ f2_ f3_; have f4_ := f1_.symm; have f5_ := f3_.symm; clear f1_ f2_ f3_; subst f4_; subst f5_))
            refine hK.out _ _ ⟨(blk_cell BK1356.out 0).trans rfl, (blk_cell BK1357.out 0).trans rfl, (by have h_ := ((HB.out.cell (World.block_lt_of_cell? w _ hw1361_0)).trans hw1361_0); first | exact h_ | (simp only [*] at h_; exact h_) | (simp [*]; done) | simpa [*] using h_), (by have h_ := ((HB.out.cell (World.block_lt_of_cell? w _ hw1361_1)).trans hw1361_1); first | exact h_ | (simp only [*] at h_; exact h_) | (simp [*]; done) | simpa [*] using h_), (by have h_ := ((HB.out.cell (World.block_lt_of_cell? w _ hw1361_2)).trans hw1361_2); first | exact h_ | (simp only [*] at h_; exact h_) | (simp [*]; done) | simpa [*] using h_), (by have h_ := ((HB.out.cell (World.block_lt_of_cell? w _ hw1361_3)).trans hw1361_3); first | exact h_ | (simp only [*] at h_; exact h_) | (simp [*]; done) | simpa [*] using h_)⟩ (fun hHeld => ?_)
            clear hK K
            refine norm_ (a' := ?_) ?_ ?_
            rotate_left
            · show Act.put _ (some 22) _ = _
              simp only [Act.put, List.setIfInBounds_toArray, List.set_cons_zero, List.set_cons_succ, i64_w, i32_w]
              rfl
            refine one_ (i := 8) (N := some 23) #[true, true, true, true, true, true, true, true, true, false] rfl rfl (one_of HT_.out (by kernel_rfl)) (by decide) (fun K hK => ?_)
            refine Kd.R_append_rows_step (Kd.int .u8) (w0 := w) w.heap.size (by rfl) (.tmp 15) (.tmp 22) 119 5 (.int .u8 0) 1 rfl Try.underlying119 info5 rfl (by decide) (by omega) u5 x5_1 t1362 _ _ _ (fun k_ => some k_ ≠ (.slice Ao16 t1362.length co16 : Value).ownBlock) (fun _ => False) rfl rfl ?aO ?aR (fun _ _ h => h) (fun _ h => h.elim) ?aF ?aB ?aS ?aL ?_
            (case aR => repeat (first | exact (Kd.R_reads' HO1364.out).2.2 | (with_reducible refine Kd.C_alloc ?_ _) | (with_reducible refine Kd.C_drewN ?_ _) | (with_reducible refine Kd.C_drew ?_)))
            (case aB => exact (by repeat (first | (with_reducible first | exact HB.out | apply below_alloc | apply pw_below_drewN | apply below_drew1 | refine below_set ?_ GE1356.out | refine below_set ?_ GE1357.out) | exact HB.out)))
            (case aF => exact (fun k_ hk => Kd.fresh' (Kd.R_lt (by (with_reducible repeat (first | apply Kd.R_alloc | apply Kd.R_drewN | apply Kd.R_drew)); exact HO1364.out)) k_ hk))
            (case aO => exact (by (with_reducible repeat (first | apply Kd.R_alloc | apply Kd.R_drewN | apply Kd.R_drew)); exact Kd.R_mono HO_5.out (fun _ hk => hk.2)))
            (case aS => exact (below_size (by repeat (first | (with_reducible first | exact HB.out | apply below_alloc | apply pw_below_drewN | apply below_drew1 | refine below_set ?_ GE1356.out | refine below_set ?_ GE1357.out) | exact HB.out))))
            (case aL => have := LMc10.out; omega)
            intro v1366 w15 ho hb hg hat
            rw [← Ny1365.out] at ho
            have n0_ := Aside0.mk (blk_grown (g := gb1356) (o := .cells #[.slice A0_0 l0_0.length c0_0] 26 (0, 0)) (by (with_reducible repeat (first | refine blk_drewN ?_ _ | refine blk_drew ?_ | refine blk_alloc ?_ _)); exact BK1356.out) hg (Kd.R_ne HO_5.out BK1356.out (by decide)))
            have n1_ := Aside0.mk (blk_grown (g := gb1357) (o := .cells #[.slice (some ad1361) l1_0.length c1_0] 102 (0, 0)) (by (with_reducible repeat (first | refine blk_drewN ?_ _ | refine blk_drew ?_ | refine blk_alloc ?_ _)); exact BK1357.out) hg (Kd.R_ne HO_5.out BK1357.out (by decide)))
            have n2_ := Aside0.mk (Kd.R_after (ok := (fun _ => True)) (by (with_reducible repeat (first | apply Kd.R_alloc | apply Kd.R_drewN | apply Kd.R_drew)); exact HO1364.out) hg hat)
            have n3_ := Aside0.mk (hb)
            have n4_ := Aside0.mk (ho)
            clear BK1356
            clear BK1357
            clear HO1364
            clear HB
            clear HO_5
            have BK1356 := n0_
            have BK1357 := n1_
            have HO1364 := n2_
            have HB := n3_
            have HO1367 := n4_
            clear n0_ n1_ n2_ n3_ n4_
            clear ho hb hg hat
            refine hK.out _ _ ⟨(blk_cell BK1356.out 0).trans rfl, (blk_cell BK1357.out 0).trans rfl, (by have h_ := ((HB.out.cell (World.block_lt_of_cell? w _ hw1361_0)).trans hw1361_0); first | exact h_ | (simp only [*] at h_; exact h_) | (simp [*]; done) | simpa [*] using h_), (by have h_ := ((HB.out.cell (World.block_lt_of_cell? w _ hw1361_1)).trans hw1361_1); first | exact h_ | (simp only [*] at h_; exact h_) | (simp [*]; done) | simpa [*] using h_), (by have h_ := ((HB.out.cell (World.block_lt_of_cell? w _ hw1361_2)).trans hw1361_2); first | exact h_ | (simp only [*] at h_; exact h_) | (simp [*]; done) | simpa [*] using h_), (by have h_ := ((HB.out.cell (World.block_lt_of_cell? w _ hw1361_3)).trans hw1361_3); first | exact h_ | (simp only [*] at h_; exact h_) | (simp [*]; done) | simpa [*] using h_)⟩ (fun hHeld => ?_)
            clear hK K
            refine norm_ (a' := ?_) ?_ ?_
            rotate_left
            · show Act.put _ (some 23) _ = _
              simp only [Act.put, List.setIfInBounds_toArray, List.set_cons_zero, List.set_cons_succ, i64_w, i32_w]
              rfl
            refine pure_ (i := 9) (N := some 5) (v := ?_) (a' := ?_) #[true, true, true, true, true, true, true, true, true, true] rfl rfl (any_of HT_.out (by kernel_rfl)) (fun _ _ _ h => h) (Or.inl ⟨by rfl, ?_⟩) ?_ ?_
            rotate_left
            · intro w'
              go_simp
              with_reducible rfl
            rotate_left
            · simp only [Act.put, List.setIfInBounds_toArray, List.set_cons_zero, List.set_cons_succ, i64_w, i32_w]
              rfl
            refine done_ (done_of HT_.out (by kernel_rfl)) ?_
            try go_wp2
            go_roundg k1
            case measure => have := HK1.out; omega
            case rel => exact ⟨(y1365), (wrap64 (x6_1 + 1)), (by first | rfl | (simp; done) | (simp [*]; done)), H', ⟨by have := HK1.out; omega⟩, ⟨by (with_reducible repeat (first | apply Kd.R_alloc | apply Kd.R_drewN | apply Kd.R_drew)); exact Kd.R_mono HO1367.out (fun _ hk => trivial)⟩, ⟨by (with_reducible repeat (first | refine blk_drewN ?_ _ | refine blk_drew ?_ | refine blk_alloc ?_ _)); exact BK1356.out⟩, ⟨by (with_reducible repeat (first | refine blk_drewN ?_ _ | refine blk_drew ?_ | refine blk_alloc ?_ _)); exact BK1357.out⟩, ⟨by repeat (first | (with_reducible first | exact HB.out | apply below_alloc | apply pw_below_drewN | apply below_drew1 | refine below_set ?_ GE1356.out | refine below_set ?_ GE1357.out) | exact HB.out)⟩⟩
          · rw [if_neg c10] at H
            exact absurd H (by simp)
        · rw [if_neg c8] at H
          exact absurd H (by simp)
      · rw [if_neg c7] at H
        have c7b0 : decide (x6_1 < (l1_0.length : Int)) = false := decide_eq_false c7
        clear c7
        obtain rfl := Option.some.inj H
        have hnb17 := NB1357_1356.out
        have hnc17 := NB1356_1357.out
        have hcz18_0 : wr.cell? ⟨gb1357, 0, none⟩ = some (.slice A1_0 l1_0.length c1_0) := (blk_cell BK1357.out 0).trans rfl
        have hfz18_0 := blk_frozen BK1357.out 0
        go_wp2
        go_ret
        exact ⟨_, by first | rfl | (simp [errW_none, errW_some] <;> rfl) | (simp [*, errW_none, errW_some] <;> rfl), by (with_reducible repeat (first | apply Kd.R_alloc | apply Kd.R_drewN | apply Kd.R_drew)); exact HO_5.out, by repeat (first | (with_reducible first | exact HB.out | apply below_alloc | apply pw_below_drewN | apply below_drew1 | refine below_set ?_ GE1356.out | refine below_set ?_ GE1357.out) | exact HB.out)⟩

end Go.Proofs.Ytoomjghabiojkaa.P


namespace Go.Proofs.Ytoomjghabiojkaa.P
open Go.RowKit Go.Proofs.YtoomjghabiojkaaW.PrintWords Go.Proofs.YtoomjghabiojkaaW.PrintLast Go.Proofs.YtoomjghabiojkaaW.PrintMore
attribute [local go_sem] max2_int min2_int max_two min_two max_three min_three max_four min_four   -- for this text's walks alone
set_option linter.unusedVariables false
set_option linter.unusedSimpArgs false

def spec_FlattenRope.f (k : Nat) (l0_0 : List (List Int)) (l1_0 : List (SimplWindow)) : Option ((List (List Int)) × (List (SimplWindow)) × Bool) := (spec_l7Rope.f k l0_0 l1_0).bind fun t1372 => (if t1372 = true then ((spec_l7Text.f k l0_0 l1_0).bind fun t1373 => ((spec_l7New.f k l0_0 t1373).bind fun bt1376 => (some (bt1376.1, bt1376.2.1, bt1376.2.2)))) else (some (([] : List (List Int)), ([] : List (SimplWindow)), false)))
def spec_FlattenRope.T3 : Bool × List (List Nat × List Nat) := (true, [([], []), ([], []), ([], []), ([1, 2], [1, 2]), ([0, 3, 3], [0, 3]), ([4], [4]), ([4], [4]), ([4], [4]), ([5, 4, 0, 1, 2, 3, 4, 5, 6, 7], [5]), ([6, 8, 0, 1, 2, 3, 4, 5, 6, 7, 8], [6]), ([7, 9, 0, 1, 2, 3, 4, 5, 6, 7, 8, 9], [7])])
def spec_FlattenRope.B3 : List Nat := [0, 0, 0, 6, 15, 31, 31, 31, 255, 511, 1023]
theorem spec_FlattenRope.tab3 : rtab .any (opsOf Try.f64 3) = spec_FlattenRope.T3 := by kernel_rfl
theorem spec_FlattenRope.bits3 : waitsOk spec_FlattenRope.T3.2 spec_FlattenRope.B3 = true := by kernel_rfl
set_option maxHeartbeats 8000000 in
set_option maxRecDepth 100000 in
theorem spec_FlattenRope.calls (k : Nat) (A0_0 : Option Addr) (c0_0 : Nat) (l0_0 : List (List Int)) (A1_0 : Option Addr) (c1_0 : Nat) (l1_0 : List (SimplWindow)) (r1 : List (List Int)) (r2 : List (SimplWindow)) (r3 : Bool) (w : World) (hr0_0 : Kd.C (Kd.slice 5 (Kd.int .u8)) w A0_0 l0_0.length l0_0) (hc0_0 : l0_0.length ≤ c0_0) (hr1_0 : Kd.C kimplWindow w A1_0 l1_0.length l1_0) (hc1_0 : l1_0.length ≤ c1_0) (h : spec_FlattenRope.f k l0_0 l1_0 = some (r1, r2, r3)) :
    Calls Try.prog 64 #[.agg #[.slice A0_0 l0_0.length c0_0], .agg #[.slice A1_0 l1_0.length c1_0]] w fun e w' => ∃ v0_ v1_ : Value, e = .returned (.tuple #[.agg #[v0_], .agg #[v1_], .bool r3]) ∧ Kd.S (Kd.slice 5 (Kd.int .u8)) 119 w' w.heap.size (fun _ => True) v0_ r1 ∧ Kd.R kimplWindow 48 w' w.heap.size (fun _ => True) v1_ r2 ∧ Below w.heap.size w w' := by
  have hu26 := Try.underlying26
  have hu102 := Try.underlying102
  have HR0_0 := Aside0.mk hr0_0
  have HC0_0 := Aside0.mk hc0_0
  clear hr0_0 hc0_0
  have HR1_0 := Aside0.mk hr1_0
  have HC1_0 := Aside0.mk hc1_0
  clear hr1_0 hc1_0
  have HB := Aside0.mk (Below.refl w.heap.size w)
  have H : ((spec_l7Rope.f k l0_0 l1_0).bind fun t1372 => (if t1372 = true then ((spec_l7Text.f k l0_0 l1_0).bind fun t1373 => ((spec_l7New.f k l0_0 t1373).bind fun bt1376 => (some (bt1376.1, bt1376.2.1, bt1376.2.2)))) else (some (([] : List (List Int)), ([] : List (SimplWindow)), false)))) = some (r1, r2, r3) := h
  clear h
  replace H := Option.bind_eq_some_iff.mp H
  obtain ⟨t1372, A30, H⟩ := H
  replace H : (if t1372 = true then ((spec_l7Text.f k l0_0 l1_0).bind fun t1373 => ((spec_l7New.f k l0_0 t1373).bind fun bt1376 => (some (bt1376.1, bt1376.2.1, bt1376.2.2)))) else (some (([] : List (List Int)), ([] : List (SimplWindow)), false))) = some (r1, r2, r3) := H
  have A3 := Aside0.mk A30
  clear A30
  by_cases c4 : t1372 = true
  · subst c4
    have H1 : ((spec_l7Text.f k l0_0 l1_0).bind fun t1373 => ((spec_l7New.f k l0_0 t1373).bind fun bt1376 => (some (bt1376.1, bt1376.2.1, bt1376.2.2)))) = some (r1, r2, r3) := by rw [if_pos rfl] at H; exact H
    clear H
    have H := H1
    clear H1
    replace H := Option.bind_eq_some_iff.mp H
    obtain ⟨t1373, A50, H⟩ := H
    replace H : ((spec_l7New.f k l0_0 t1373).bind fun bt1376 => (some (bt1376.1, bt1376.2.1, bt1376.2.2))) = some (r1, r2, r3) := H
    have A5 := Aside0.mk A50
    clear A50
    replace H := Option.bind_eq_some_iff.mp H
    obtain ⟨⟨t1376, t1379, t1382⟩, A60, H⟩ := H
    replace H : (some (t1376, t1379, t1382)) = some (r1, r2, r3) := H
    have A6 := Aside0.mk A60
    clear A60
    simp only [Option.some.injEq, Prod.mk.injEq] at H
    obtain ⟨rfl, rfl, rfl⟩ := H
    go_enter Try.func64, Try.ntmps64
    try go_wp2_with (first | ((with_reducible refine gate_dst (N := 2) rfl ?_); refine box_event ?hg (N := 2) ?hd (cs := #[.slice A0_0 l0_0.length c0_0]) (t := 26) ?hr ?_; (case hd => rfl); (case hg => rfl); (case hr => first | (go_simp; done) | (go_simp; rfl)); intro gb1368 hg w7 hbox hb; have n0_ := Aside0.mk (below_step (by repeat (first | (with_reducible first | exact HB.out | apply below_alloc | apply pw_below_drewN | apply below_drew1) | exact HB.out)) hb); have n1_ := Aside0.mk (hbox); have n2_ := Aside0.mk ((by rw [hg]; exact (below_size (by repeat (first | (with_reducible first | exact HB.out | apply below_alloc | apply pw_below_drewN | apply below_drew1) | exact HB.out))) : w.heap.size ≤ gb1368)); have n3_ := Aside0.mk ((by rw [hg]; exact (below_size (by repeat (first | (with_reducible first | exact HB.out | apply below_alloc | apply pw_below_drewN | apply below_drew1) | exact HB.out))) : w.heap.size ≤ gb1368)); clear HB; have HB := n0_; have BK1368 := n1_; have GW1368 := n2_; have GE1368 := n3_; clear n0_ n1_ n2_ n3_; clear hb hbox hg) | ((with_reducible refine gate_dst (N := 3) rfl ?_); refine box_event ?hg (N := 3) ?hd (cs := #[.slice A1_0 l1_0.length c1_0]) (t := 102) ?hr ?_; (case hd => rfl); (case hg => rfl); (case hr => first | (go_simp; done) | (go_simp; rfl)); intro gb1369 hg w8 hbox hb; have n0_ := Aside0.mk (blk_below (g := gb1368) (o := .cells #[.slice A0_0 l0_0.length c0_0] 26 (0, 0)) (by (with_reducible repeat (first | refine blk_drewN ?_ _ | refine blk_drew ?_ | refine blk_alloc ?_ _)); exact BK1368.out) hb); have n1_ := Aside0.mk (below_step (by repeat (first | (with_reducible first | exact HB.out | apply below_alloc | apply pw_below_drewN | apply below_drew1 | refine below_set ?_ GE1368.out) | exact HB.out)) hb); have n2_ := Aside0.mk (hbox); have n3_ := Aside0.mk ((by rw [hg]; exact (below_size (by repeat (first | (with_reducible first | exact HB.out | apply below_alloc | apply pw_below_drewN | apply below_drew1 | refine below_set ?_ GE1368.out) | exact HB.out))) : w.heap.size ≤ gb1369)); have n4_ := Aside0.mk ((by rw [hg]; exact (below_size (by repeat (first | (with_reducible first | exact HB.out | apply below_alloc | apply pw_below_drewN | apply below_drew1 | refine below_set ?_ GE1368.out) | exact HB.out))) : w.heap.size ≤ gb1369)); have n5_ := Aside0.mk ((by rw [hg]; exact Nat.ne_of_lt (blk_lt (g := gb1368) (o := .cells #[.slice A0_0 l0_0.length c0_0] 26 (0, 0)) (by (with_reducible repeat (first | refine blk_drewN ?_ _ | refine blk_drew ?_ | refine blk_alloc ?_ _)); exact BK1368.out)) : gb1368 ≠ gb1369)); have n6_ := Aside0.mk ((by rw [hg]; exact Nat.ne_of_gt (blk_lt (g := gb1368) (o := .cells #[.slice A0_0 l0_0.length c0_0] 26 (0, 0)) (by (with_reducible repeat (first | refine blk_drewN ?_ _ | refine blk_drew ?_ | refine blk_alloc ?_ _)); exact BK1368.out)) : gb1369 ≠ gb1368)); clear BK1368; clear HB; have BK1368 := n0_; have HB := n1_; have BK1369 := n2_; have GW1369 := n3_; have GE1369 := n4_; have NB1368_1369 := n5_; have NB1369_1368 := n6_; clear n0_ n1_ n2_ n3_ n4_ n5_ n6_; clear hb hbox hg) | ((with_reducible refine gate_dst (N := 4) rfl ?_); refine box_event ?hg (N := 4) ?hd (cs := #[.slice none 0 0]) (t := 26) ?hr ?_; (case hd => rfl); (case hg => rfl); (case hr => first | (go_simp; done) | (go_simp; rfl)); intro gb1370 hg w9 hbox hb; have n0_ := Aside0.mk (blk_below (g := gb1368) (o := .cells #[.slice A0_0 l0_0.length c0_0] 26 (0, 0)) (by (with_reducible repeat (first | refine blk_drewN ?_ _ | refine blk_drew ?_ | refine blk_alloc ?_ _)); exact BK1368.out) hb); have n1_ := Aside0.mk (blk_below (g := gb1369) (o := .cells #[.slice A1_0 l1_0.length c1_0] 102 (0, 0)) (by (with_reducible repeat (first | refine blk_drewN ?_ _ | refine blk_drew ?_ | refine blk_alloc ?_ _)); exact BK1369.out) hb); have n2_ := Aside0.mk (below_step (by repeat (first | (with_reducible first | exact HB.out | apply below_alloc | apply pw_below_drewN | apply below_drew1 | refine below_set ?_ GE1368.out | refine below_set ?_ GE1369.out) | exact HB.out)) hb); have n3_ := Aside0.mk (hbox); have n4_ := Aside0.mk ((by rw [hg]; exact (below_size (by repeat (first | (with_reducible first | exact HB.out | apply below_alloc | apply pw_below_drewN | apply below_drew1 | refine below_set ?_ GE1368.out | refine below_set ?_ GE1369.out) | exact HB.out))) : w.heap.size ≤ gb1370)); have n5_ := Aside0.mk ((by rw [hg]; exact (below_size (by repeat (first | (with_reducible first | exact HB.out | apply below_alloc | apply pw_below_drewN | apply below_drew1 | refine below_set ?_ GE1368.out | refine below_set ?_ GE1369.out) | exact HB.out))) : w.heap.size ≤ gb1370)); have n6_ := Aside0.mk ((by rw [hg]; exact Nat.ne_of_lt (blk_lt (g := gb1368) (o := .cells #[.slice A0_0 l0_0.length c0_0] 26 (0, 0)) (by (with_reducible repeat (first | refine blk_drewN ?_ _ | refine blk_drew ?_ | refine blk_alloc ?_ _)); exact BK1368.out)) : gb1368 ≠ gb1370)); have n7_ := Aside0.mk ((by rw [hg]; exact Nat.ne_of_gt (blk_lt (g := gb1368) (o := .cells #[.slice A0_0 l0_0.length c0_0] 26 (0, 0)) (by (with_reducible repeat (first | refine blk_drewN ?_ _ | refine blk_drew ?_ | refine blk_alloc ?_ _)); exact BK1368.out)) : gb1370 ≠ gb1368)); have n8_ := Aside0.mk ((by rw [hg]; exact Nat.ne_of_lt (blk_lt (g := gb1369) (o := .cells #[.slice A1_0 l1_0.length c1_0] 102 (0, 0)) (by (with_reducible repeat (first | refine blk_drewN ?_ _ | refine blk_drew ?_ | refine blk_alloc ?_ _)); exact BK1369.out)) : gb1369 ≠ gb1370)); have n9_ := Aside0.mk ((by rw [hg]; exact Nat.ne_of_gt (blk_lt (g := gb1369) (o := .cells #[.slice A1_0 l1_0.length c1_0] 102 (0, 0)) (by (with_reducible repeat (first | refine blk_drewN ?_ _ | refine blk_drew ?_ | refine blk_alloc ?_ _)); exact BK1369.out)) : gb1370 ≠ gb1369)); clear BK1368; clear BK1369; clear HB; have BK1368 := n0_; have BK1369 := n1_; have HB := n2_; have BK1370 := n3_; have GW1370 := n4_; have GE1370 := n5_; have NB1368_1370 := n6_; have NB1370_1368 := n7_; have NB1369_1370 := n8_; have NB1370_1369 := n9_; clear n0_ n1_ n2_ n3_ n4_ n5_ n6_ n7_ n8_ n9_; clear hb hbox hg) | ((with_reducible refine gate_dst (N := 5) rfl ?_); refine box_event ?hg (N := 5) ?hd (cs := #[.slice none 0 0]) (t := 102) ?hr ?_; (case hd => rfl); (case hg => rfl); (case hr => first | (go_simp; done) | (go_simp; rfl)); intro gb1371 hg w10 hbox hb; have n0_ := Aside0.mk (blk_below (g := gb1368) (o := .cells #[.slice A0_0 l0_0.length c0_0] 26 (0, 0)) (by (with_reducible repeat (first | refine blk_drewN ?_ _ | refine blk_drew ?_ | refine blk_alloc ?_ _)); exact BK1368.out) hb); have n1_ := Aside0.mk (blk_below (g := gb1369) (o := .cells #[.slice A1_0 l1_0.length c1_0] 102 (0, 0)) (by (with_reducible repeat (first | refine blk_drewN ?_ _ | refine blk_drew ?_ | refine blk_alloc ?_ _)); exact BK1369.out) hb); have n2_ := Aside0.mk (blk_below (g := gb1370) (o := .cells #[.slice none 0 0] 26 (0, 0)) (by (with_reducible repeat (first | refine blk_drewN ?_ _ | refine blk_drew ?_ | refine blk_alloc ?_ _)); exact BK1370.out) hb); have n3_ := Aside0.mk (below_step (by repeat (first | (with_reducible first | exact HB.out | apply below_alloc | apply pw_below_drewN | apply below_drew1 | refine below_set ?_ GE1368.out | refine below_set ?_ GE1369.out | refine below_set ?_ GE1370.out) | exact HB.out)) hb); have n4_ := Aside0.mk (hbox); have n5_ := Aside0.mk ((by rw [hg]; exact (below_size (by repeat (first | (with_reducible first | exact HB.out | apply below_alloc | apply pw_below_drewN | apply below_drew1 | refine below_set ?_ GE1368.out | refine below_set ?_ GE1369.out | refine below_set ?_ GE1370.out) | exact HB.out))) : w.heap.size ≤ gb1371)); have n6_ := Aside0.mk ((by rw [hg]; exact (below_size (by repeat (first | (with_reducible first | exact HB.out | apply below_alloc | apply pw_below_drewN | apply below_drew1 | refine below_set ?_ GE1368.out | refine below_set ?_ GE1369.out | refine below_set ?_ GE1370.out) | exact HB.out))) : w.heap.size ≤ gb1371)); have n7_ := Aside0.mk ((by rw [hg]; exact Nat.ne_of_lt (blk_lt (g := gb1368) (o := .cells #[.slice A0_0 l0_0.length c0_0] 26 (0, 0)) (by (with_reducible repeat (first | refine blk_drewN ?_ _ | refine blk_drew ?_ | refine blk_alloc ?_ _)); exact BK1368.out)) : gb1368 ≠ gb1371)); have n8_ := Aside0.mk ((by rw [hg]; exact Nat.ne_of_gt (blk_lt (g := gb1368) (o := .cells #[.slice A0_0 l0_0.length c0_0] 26 (0, 0)) (by (with_reducible repeat (first | refine blk_drewN ?_ _ | refine blk_drew ?_ | refine blk_alloc ?_ _)); exact BK1368.out)) : gb1371 ≠ gb1368)); have n9_ := Aside0.mk ((by rw [hg]; exact Nat.ne_of_lt (blk_lt (g := gb1369) (o := .cells #[.slice A1_0 l1_0.length c1_0] 102 (0, 0)) (by (with_reducible repeat (first | refine blk_drewN ?_ _ | refine blk_drew ?_ | refine blk_alloc ?_ _)); exact BK1369.out)) : gb1369 ≠ gb1371)); have n10_ := Aside0.mk ((by rw [hg]; exact Nat.ne_of_gt (blk_lt (g := gb1369) (o := .cells #[.slice A1_0 l1_0.length c1_0] 102 (0, 0)) (by (with_reducible repeat (first | refine blk_drewN ?_ _ | refine blk_drew ?_ | refine blk_alloc ?_ _)); exact BK1369.out)) : gb1371 ≠ gb1369)); have n11_ := Aside0.mk ((by rw [hg]; exact Nat.ne_of_lt (blk_lt (g := gb1370) (o := .cells #[.slice none 0 0] 26 (0, 0)) (by (with_reducible repeat (first | refine blk_drewN ?_ _ | refine blk_drew ?_ | refine blk_alloc ?_ _)); exact BK1370.out)) : gb1370 ≠ gb1371)); have n12_ := Aside0.mk ((by rw [hg]; exact Nat.ne_of_gt (blk_lt (g := gb1370) (o := .cells #[.slice none 0 0] 26 (0, 0)) (by (with_reducible repeat (first | refine blk_drewN ?_ _ | refine blk_drew ?_ | refine blk_alloc ?_ _)); exact BK1370.out)) : gb1371 ≠ gb1370)); clear BK1368; clear BK1369; clear BK1370; clear HB; have BK1368 := n0_; have BK1369 := n1_; have BK1370 := n2_; have HB := n3_; have BK1371 := n4_; have GW1371 := n5_; have GE1371 := n6_; have NB1368_1371 := n7_; have NB1371_1368 := n8_; have NB1369_1371 := n9_; have NB1371_1369 := n10_; have NB1370_1371 := n11_; have NB1371_1370 := n12_; clear n0_ n1_ n2_ n3_ n4_ n5_ n6_ n7_ n8_ n9_ n10_ n11_ n12_; clear hb hbox hg; have hnb11 := NB1368_1369.out; have hnc11 := NB1369_1368.out; have hnb12 := NB1368_1370.out; have hnc12 := NB1370_1368.out; have hnb13 := NB1368_1371.out; have hnc13 := NB1371_1368.out; have hcz14_0 : w10.cell? ⟨gb1368, 0, none⟩ = some (.slice A0_0 l0_0.length c0_0) := (blk_cell BK1368.out 0).trans rfl; have hfz14_0 := blk_frozen BK1368.out 0; have hnb15 := NB1369_1370.out; have hnc15 := NB1370_1369.out; have hnb16 := NB1369_1371.out; have hnc16 := NB1371_1369.out; have hcz17_0 : w10.cell? ⟨gb1369, 0, none⟩ = some (.slice A1_0 l1_0.length c1_0) := (blk_cell BK1369.out 0).trans rfl; have hfz17_0 := blk_frozen BK1369.out 0) | ((with_reducible refine gate_callee (f := 125) rfl ?_); refine goesL_ (some 9) rfl rfl Try.func125 (by kernel_rfl) rfl #[.agg #[.slice A0_0 l0_0.length c0_0], .agg #[.slice A1_0 l1_0.length c1_0]] rfl (by (try simp only [List.map_toArray, List.map_cons, List.map_nil]); first | done | rfl | (simp only [List.length_drop, List.length_take]; rfl)) ?_; (with_reducible refine (spec_l7Rope.calls k _ _ l0_0 _ _ l1_0 true _ ?side1 ?side2 ?side3 ?side4 A3.out).mono ?_); (case side1 => repeat (first | exact (Kd.C_below HR0_0.out HB.out) | (with_reducible refine Kd.C_alloc ?_ _) | (with_reducible refine Kd.C_drewN ?_ _) | (with_reducible refine Kd.C_drew ?_))); (case side2 => exact HC0_0.out); (case side3 => repeat (first | exact (Kd.C_below HR1_0.out HB.out) | (with_reducible refine Kd.C_alloc ?_ _) | (with_reducible refine Kd.C_drewN ?_ _) | (with_reducible refine Kd.C_drew ?_))); (case side4 => exact HC1_0.out); rintro e w18 ⟨rfl, hb⟩; refine ⟨_, rfl, ?_⟩; have n0_ := Aside0.mk (blk_below (g := gb1368) (o := .cells #[.slice A0_0 l0_0.length c0_0] 26 (0, 0)) (by (with_reducible repeat (first | refine blk_drewN ?_ _ | refine blk_drew ?_ | refine blk_alloc ?_ _)); exact BK1368.out) hb); have n1_ := Aside0.mk (blk_below (g := gb1369) (o := .cells #[.slice A1_0 l1_0.length c1_0] 102 (0, 0)) (by (with_reducible repeat (first | refine blk_drewN ?_ _ | refine blk_drew ?_ | refine blk_alloc ?_ _)); exact BK1369.out) hb); have n2_ := Aside0.mk (blk_below (g := gb1370) (o := .cells #[.slice none 0 0] 26 (0, 0)) (by (with_reducible repeat (first | refine blk_drewN ?_ _ | refine blk_drew ?_ | refine blk_alloc ?_ _)); exact BK1370.out) hb); have n3_ := Aside0.mk (blk_below (g := gb1371) (o := .cells #[.slice none 0 0] 102 (0, 0)) (by (with_reducible repeat (first | refine blk_drewN ?_ _ | refine blk_drew ?_ | refine blk_alloc ?_ _)); exact BK1371.out) hb); have n4_ := Aside0.mk (below_step (by repeat (first | (with_reducible first | exact HB.out | apply below_alloc | apply pw_below_drewN | apply below_drew1 | refine below_set ?_ GE1368.out | refine below_set ?_ GE1369.out | refine below_set ?_ GE1370.out | refine below_set ?_ GE1371.out) | exact HB.out)) hb); clear BK1368; clear BK1369; clear BK1370; clear BK1371; clear HB; have BK1368 := n0_; have BK1369 := n1_; have BK1370 := n2_; have BK1371 := n3_; have HB := n4_; clear n0_ n1_ n2_ n3_ n4_; (try clear hb); (try clear hb2); (try clear hk); (try clear hi)))
    have n0_ := Aside0.mk (blk_drew BK1368.out)
    have n1_ := Aside0.mk (blk_drew BK1369.out)
    have n2_ := Aside0.mk (blk_drew BK1370.out)
    have n3_ := Aside0.mk (blk_drew BK1371.out)
    have n4_ := Aside0.mk (below_drew1 HB.out)
    clear BK1368
    clear BK1369
    clear BK1370
    clear BK1371
    clear HB
    have BK1368 := n0_
    have BK1369 := n1_
    have BK1370 := n2_
    have BK1371 := n3_
    have HB := n4_
    clear n0_ n1_ n2_ n3_ n4_
    refine start_ (n := 11) (S := fun w' => w'.cell? ⟨gb1368, 0, none⟩ = some (.slice A0_0 l0_0.length c0_0) ∧ w'.cell? ⟨gb1369, 0, none⟩ = some (.slice A1_0 l1_0.length c1_0)) (ds := []) #[false, false, false, false, false, false, false, false, false, false, false] (by kernel_rfl) rfl rfl ⟨(blk_cell BK1368.out 0).trans rfl, (blk_cell BK1369.out 0).trans rfl⟩ (fun hHeld => ?_); refine with_tabW spec_FlattenRope.tab3 spec_FlattenRope.bits3 (fun HT_ HW_ => ?_)
    generalize w18.drew = w19 at BK1368 BK1369 BK1370 BK1371 HB hHeld ⊢
    refine take_ (i := 0) (N := some 13) (v := ?_) (a' := ?_) #[true, false, false, false, false, false, false, false, false, false, false] rfl rfl (take_ofW HT_.out HW_.out (by kernel_rfl)) (fun _ _ _ h => h) (Or.inl ⟨by rfl, ?_⟩) hHeld ?_ ?_
    rotate_left
    · rintro w' ⟨s0, s1⟩
      go_simp
      with_reducible rfl
    rotate_left
    · simp only [Act.put, List.setIfInBounds_toArray, List.set_cons_zero, List.set_cons_succ, i64_w, i32_w]
      rfl
    refine take_ (i := 1) (N := some 14) (v := ?_) (a' := ?_) #[true, true, false, false, false, false, false, false, false, false, false] rfl rfl (take_ofW HT_.out HW_.out (by kernel_rfl)) (fun _ _ _ h => h) (Or.inl ⟨by rfl, ?_⟩) hHeld ?_ ?_
    rotate_left
    · rintro w' ⟨s0, s1⟩
      go_simp
      with_reducible rfl
    rotate_left
    · simp only [Act.put, List.setIfInBounds_toArray, List.set_cons_zero, List.set_cons_succ, i64_w, i32_w]
      rfl
    refine take_ (i := 2) (N := some 15) (v := ?_) (a' := ?_) #[true, true, true, false, false, false, false, false, false, false, false] rfl rfl (take_ofW HT_.out HW_.out (by kernel_rfl)) (fun _ _ _ h => h) (Or.inl ⟨by rfl, ?_⟩) hHeld ?_ ?_
    rotate_left
    · rintro w' ⟨s0, s1⟩
      go_simp
      with_reducible rfl
    rotate_left
    · simp only [Act.put, List.setIfInBounds_toArray, List.set_cons_zero, List.set_cons_succ, i64_w, i32_w]
      rfl
    refine one_ (i := 3) (N := some 16) #[true, true, true, true, false, false, false, false, false, false, false] rfl rfl (one_of HT_.out (by kernel_rfl)) (by decide) (fun K hK => ?_)
    refine goes_ Try.func127 (by kernel_rfl) rfl #[.agg #[.slice A0_0 l0_0.length c0_0], .agg #[.slice A1_0 l1_0.length c1_0]] (by rfl) rfl rfl (by (try simp only [List.map_toArray, List.map_cons, List.map_nil]); first | done | rfl | (simp only [List.length_drop, List.length_take]; rfl)) ?_
    with_reducible refine (spec_l7Text.calls k _ _ l0_0 _ _ l1_0 t1373 _ ?side1 ?side2 ?side3 ?side4 A5.out).mono ?_
    (case side1 => repeat (first | exact (Kd.C_below HR0_0.out HB.out) | (with_reducible refine Kd.C_alloc ?_ _) | (with_reducible refine Kd.C_drewN ?_ _) | (with_reducible refine Kd.C_drew ?_)))
    (case side2 => exact HC0_0.out)
    (case side3 => repeat (first | exact (Kd.C_below HR1_0.out HB.out) | (with_reducible refine Kd.C_alloc ?_ _) | (with_reducible refine Kd.C_drewN ?_ _) | (with_reducible refine Kd.C_drew ?_)))
    (case side4 => exact HC1_0.out)
    rintro e w20 ⟨v1374, rfl, ho0, hb⟩
    refine ⟨_, rfl, ?_⟩
    have n0_ := Aside0.mk (Kd.R_lower ho0 (below_size (by repeat (first | (with_reducible first | exact HB.out | apply below_alloc | apply pw_below_drewN | apply below_drew1 | refine below_set ?_ GE1368.out | refine below_set ?_ GE1369.out | refine below_set ?_ GE1370.out | refine below_set ?_ GE1371.out) | exact HB.out))))
    have n1_ := Aside0.mk (blk_below (g := gb1368) (o := .cells #[.slice A0_0 l0_0.length c0_0] 26 (0, 0)) (by (with_reducible repeat (first | refine blk_drewN ?_ _ | refine blk_drew ?_ | refine blk_alloc ?_ _)); exact BK1368.out) hb)
    have n2_ := Aside0.mk (blk_below (g := gb1369) (o := .cells #[.slice A1_0 l1_0.length c1_0] 102 (0, 0)) (by (with_reducible repeat (first | refine blk_drewN ?_ _ | refine blk_drew ?_ | refine blk_alloc ?_ _)); exact BK1369.out) hb)
    have n3_ := Aside0.mk (blk_below (g := gb1370) (o := .cells #[.slice none 0 0] 26 (0, 0)) (by (with_reducible repeat (first | refine blk_drewN ?_ _ | refine blk_drew ?_ | refine blk_alloc ?_ _)); exact BK1370.out) hb)
    have n4_ := Aside0.mk (blk_below (g := gb1371) (o := .cells #[.slice none 0 0] 102 (0, 0)) (by (with_reducible repeat (first | refine blk_drewN ?_ _ | refine blk_drew ?_ | refine blk_alloc ?_ _)); exact BK1371.out) hb)
    have n5_ := Aside0.mk (below_step (by repeat (first | (with_reducible first | exact HB.out | apply below_alloc | apply pw_below_drewN | apply below_drew1 | refine below_set ?_ GE1368.out | refine below_set ?_ GE1369.out | refine below_set ?_ GE1370.out | refine below_set ?_ GE1371.out) | exact HB.out)) hb)
    clear BK1368
    clear BK1369
    clear BK1370
    clear BK1371
    clear HB
    have HO1375 := n0_
    have BK1368 := n1_
    have BK1369 := n2_
    have BK1370 := n3_
    have BK1371 := n4_
    have HB := n5_
    clear n0_ n1_ n2_ n3_ n4_ n5_
    (try clear hb)
    (try clear hb2)
    (try clear hk)
    (try clear hi)
    (try clear ho0)
    obtain ⟨Ao21, co21, eo21⟩ := Kd.R_slice HO1375.out
    (first | subst eo21 | (injection eo21 with f1_ f2_ f3_; have f4_ := f1_.symm; have f5_ := f3_.symm; clear f1_ f2_ f3_; subst f4_; subst f5_))
    refine hK.out _ _ ⟨(blk_cell BK1368.out 0).trans rfl, (blk_cell BK1369.out 0).trans rfl⟩ (fun hHeld => ?_)
    clear hK K
    refine norm_ (a' := ?_) ?_ ?_
    rotate_left
    · show Act.put _ (some 16) _ = _
      simp only [Act.put, List.setIfInBounds_toArray, List.set_cons_zero, List.set_cons_succ, i64_w, i32_w]
      rfl
    refine one_ (i := 4) (N := some 17) #[true, true, true, true, true, false, false, false, false, false, false] rfl rfl (one_of HT_.out (by kernel_rfl)) (by decide) (fun K hK => ?_)
    refine goes_ Try.func126 (by kernel_rfl) rfl #[.agg #[.slice A0_0 l0_0.length c0_0], .slice Ao21 t1373.length co21] (by rfl) rfl rfl (by (try simp only [List.map_toArray, List.map_cons, List.map_nil]); first | done | rfl | (simp only [List.length_drop, List.length_take]; rfl)) ?_
    with_reducible refine (spec_l7New.calls k _ _ l0_0 _ _ t1373 t1376 t1379 t1382 _ ?side1 ?side2 ?side3 ?side4 A6.out).mono ?_
    (case side1 => repeat (first | exact (Kd.C_below HR0_0.out HB.out) | (with_reducible refine Kd.C_alloc ?_ _) | (with_reducible refine Kd.C_drewN ?_ _) | (with_reducible refine Kd.C_drew ?_)))
    (case side2 => exact HC0_0.out)
    (case side3 => repeat (first | exact (Kd.R_reads' HO1375.out).2.2 | (with_reducible refine Kd.C_alloc ?_ _) | (with_reducible refine Kd.C_drewN ?_ _) | (with_reducible refine Kd.C_drew ?_)))
    (case side4 => exact (Kd.R_reads' HO1375.out).2.1)
    rintro e w22 ⟨v1377, v1380, rfl, ho0, ho1, hb⟩
    refine ⟨_, rfl, ?_⟩
    have n0_ := Aside0.mk (Kd.R_below (by (with_reducible repeat (first | apply Kd.R_alloc | apply Kd.R_drewN | apply Kd.R_drew)); exact HO1375.out) hb)
    have n1_ := Aside0.mk (Kd.S_lower (Kd.S_new' ho0 (Kd.R_lt (by (with_reducible repeat (first | apply Kd.R_alloc | apply Kd.R_drewN | apply Kd.R_drew)); exact HO1375.out))) (below_size (by repeat (first | (with_reducible first | exact HB.out | apply below_alloc | apply pw_below_drewN | apply below_drew1 | refine below_set ?_ GE1368.out | refine below_set ?_ GE1369.out | refine below_set ?_ GE1370.out | refine below_set ?_ GE1371.out) | exact HB.out))))
    have n2_ := Aside0.mk (Kd.R_lower ho1 (below_size (by repeat (first | (with_reducible first | exact HB.out | apply below_alloc | apply pw_below_drewN | apply below_drew1 | refine below_set ?_ GE1368.out | refine below_set ?_ GE1369.out | refine below_set ?_ GE1370.out | refine below_set ?_ GE1371.out) | exact HB.out))))
    have n3_ := Aside0.mk (blk_below (g := gb1368) (o := .cells #[.slice A0_0 l0_0.length c0_0] 26 (0, 0)) (by (with_reducible repeat (first | refine blk_drewN ?_ _ | refine blk_drew ?_ | refine blk_alloc ?_ _)); exact BK1368.out) hb)
    have n4_ := Aside0.mk (blk_below (g := gb1369) (o := .cells #[.slice A1_0 l1_0.length c1_0] 102 (0, 0)) (by (with_reducible repeat (first | refine blk_drewN ?_ _ | refine blk_drew ?_ | refine blk_alloc ?_ _)); exact BK1369.out) hb)
    have n5_ := Aside0.mk (blk_below (g := gb1370) (o := .cells #[.slice none 0 0] 26 (0, 0)) (by (with_reducible repeat (first | refine blk_drewN ?_ _ | refine blk_drew ?_ | refine blk_alloc ?_ _)); exact BK1370.out) hb)
    have n6_ := Aside0.mk (blk_below (g := gb1371) (o := .cells #[.slice none 0 0] 102 (0, 0)) (by (with_reducible repeat (first | refine blk_drewN ?_ _ | refine blk_drew ?_ | refine blk_alloc ?_ _)); exact BK1371.out) hb)
    have n7_ := Aside0.mk (below_step (by repeat (first | (with_reducible first | exact HB.out | apply below_alloc | apply pw_below_drewN | apply below_drew1 | refine below_set ?_ GE1368.out | refine below_set ?_ GE1369.out | refine below_set ?_ GE1370.out | refine below_set ?_ GE1371.out) | exact HB.out)) hb)
    clear HO1375
    clear BK1368
    clear BK1369
    clear BK1370
    clear BK1371
    clear HB
    have HO1375 := n0_
    have HO1378 := n1_
    have HO1381 := n2_
    have BK1368 := n3_
    have BK1369 := n4_
    have BK1370 := n5_
    have BK1371 := n6_
    have HB := n7_
    clear n0_ n1_ n2_ n3_ n4_ n5_ n6_ n7_
    (try clear hb)
    (try clear hb2)
    (try clear hk)
    (try clear hi)
    (try clear ho0)
    (try clear ho1)
    obtain ⟨Ao23, co23, eo23⟩ := Kd.S_slice HO1378.out
    (first | subst eo23 | (injection eo23 with f1_ f2_ f3_; have f4_ := f1_.symm; have f5_ := f3_.symm; clear f1_ f2_ f3_; subst f4_; subst f5_))
    obtain ⟨Ao25, co25, eo25⟩ := Kd.R_slice HO1381.out
    (first | subst eo25 | (injection eo25 with f1_ f2_ f3_; have f4_ := f1_.symm; have f5_ := f3_.symm; clear f1_ f2_ f3_; subst f4_; subst f5_))
    refine hK.out _ _ ⟨(blk_cell BK1368.out 0).trans rfl, (blk_cell BK1369.out 0).trans rfl⟩ (fun hHeld => ?_)
    clear hK K
    refine norm_ (a' := ?_) ?_ ?_
    rotate_left
    · show Act.put _ (some 17) _ = _
      simp only [Act.put, List.setIfInBounds_toArray, List.set_cons_zero, List.set_cons_succ, i64_w, i32_w]
      rfl
    refine pure_ (i := 5) (N := some 18) (v := ?_) (a' := ?_) #[true, true, true, true, true, true, false, false, false, false, false] rfl rfl (any_of HT_.out (by kernel_rfl)) (fun _ _ _ h => h) (Or.inl ⟨by rfl, ?_⟩) ?_ ?_
    rotate_left
    · intro w'
      go_simp
      with_reducible rfl
    rotate_left
    · simp only [Act.put, List.setIfInBounds_toArray, List.set_cons_zero, List.set_cons_succ, i64_w, i32_w]
      rfl
    refine pure_ (i := 6) (N := some 19) (v := ?_) (a' := ?_) #[true, true, true, true, true, true, true, false, false, false, false] rfl rfl (any_of HT_.out (by kernel_rfl)) (fun _ _ _ h => h) (Or.inl ⟨by rfl, ?_⟩) ?_ ?_
    rotate_left
    · intro w'
      go_simp
      with_reducible rfl
    rotate_left
    · simp only [Act.put, List.setIfInBounds_toArray, List.set_cons_zero, List.set_cons_succ, i64_w, i32_w]
      rfl
    refine pure_ (i := 7) (N := some 20) (v := ?_) (a' := ?_) #[true, true, true, true, true, true, true, true, false, false, false] rfl rfl (any_of HT_.out (by kernel_rfl)) (fun _ _ _ h => h) (Or.inl ⟨by rfl, ?_⟩) ?_ ?_
    rotate_left
    · intro w'
      go_simp
      with_reducible rfl
    rotate_left
    · simp only [Act.put, List.setIfInBounds_toArray, List.set_cons_zero, List.set_cons_succ, i64_w, i32_w]
      rfl
    refine one_ (i := 8) (N := none) #[true, true, true, true, true, true, true, true, true, false, false] rfl rfl (one_of HT_.out (by kernel_rfl)) (by decide) (fun K hK => ?_)
    have hs24 : w22.cell? ⟨gb1370, 0, none⟩ = some (.slice none 0 0) := (blk_cell BK1370.out 0).trans rfl
    have hfs24 := blk_frozen BK1370.out 0
    have hns24_0 := NB1368_1370.out
    have hns24_1 := NB1369_1370.out
    have hns24_3 := NB1371_1370.out
    have hms24_0 := NB1370_1368.out
    have hms24_1 := NB1370_1369.out
    have hms24_3 := NB1370_1371.out
    refine skip_ (w1 := ?_) (by rfl) rfl ?_ ?_
    rotate_left
    · go_simp
      rfl
    refine hK.out _ _ ⟨((cell_far (p := ⟨gb1370, _, none⟩) NB1368_1370.out _).trans (hHeld.1)), ((cell_far (p := ⟨gb1370, _, none⟩) NB1369_1370.out _).trans (hHeld.2))⟩ (fun hHeld => ?_)
    clear hK K
    refine one_ (i := 9) (N := none) #[true, true, true, true, true, true, true, true, true, true, false] rfl rfl (one_of HT_.out (by kernel_rfl)) (by decide) (fun K hK => ?_)
    have hs26 : w22.cell? ⟨gb1371, 0, none⟩ = some (.slice none 0 0) := (blk_cell BK1371.out 0).trans rfl
    have hfs26 := blk_frozen BK1371.out 0
    have hns26_0 := NB1368_1371.out
    have hns26_1 := NB1369_1371.out
    have hns26_2 := NB1370_1371.out
    have hms26_0 := NB1371_1368.out
    have hms26_1 := NB1371_1369.out
    have hms26_2 := NB1371_1370.out
    refine skip_ (w1 := ?_) (by rfl) rfl ?_ ?_
    rotate_left
    · go_simp
      rfl
    refine hK.out _ _ ⟨((cell_far (p := ⟨gb1371, _, none⟩) NB1368_1371.out _).trans (hHeld.1)), ((cell_far (p := ⟨gb1371, _, none⟩) NB1369_1371.out _).trans (hHeld.2))⟩ (fun hHeld => ?_)
    clear hK K
    refine pure_ (i := 10) (N := some 6) (v := ?_) (a' := ?_) #[true, true, true, true, true, true, true, true, true, true, true] rfl rfl (any_of HT_.out (by kernel_rfl)) (fun _ _ _ h => h) (Or.inl ⟨by rfl, ?_⟩) ?_ ?_
    rotate_left
    · intro w'
      go_simp
      with_reducible rfl
    rotate_left
    · simp only [Act.put, List.setIfInBounds_toArray, List.set_cons_zero, List.set_cons_succ, i64_w, i32_w]
      rfl
    refine done_ (done_of HT_.out (by kernel_rfl)) ?_
    try go_wp2
    refine bodyPost_ret (results_list (rs := [.cell 4 26, .cell 5 102, .tmp 6]) rfl (by simp) (.cell gb1370 26 #[.slice Ao23 t1376.length co23] (0, 0) _ rfl (by (with_reducible repeat (first | refine blk_drewN ?_ _ | refine blk_drew ?_ | refine blk_alloc ?_ _)); refine blk_far ?_ NB1370_1371.out _; (with_reducible repeat (first | refine blk_drewN ?_ _ | refine blk_drew ?_ | refine blk_alloc ?_ _)); refine blk_put (cs := #[.slice none 0 0]) ?_ 0 _ rfl; (with_reducible repeat (first | refine blk_drewN ?_ _ | refine blk_drew ?_ | refine blk_alloc ?_ _)); exact BK1370.out) Try.underlying26 rfl (by kernel_rfl) (.cell gb1371 102 #[.slice Ao25 t1379.length co25] (0, 0) _ rfl (by (with_reducible repeat (first | refine blk_drewN ?_ _ | refine blk_drew ?_ | refine blk_alloc ?_ _)); refine blk_put (cs := #[.slice none 0 0]) ?_ 0 _ rfl; (with_reducible repeat (first | refine blk_drewN ?_ _ | refine blk_drew ?_ | refine blk_alloc ?_ _)); refine blk_far ?_ NB1371_1370.out _; (with_reducible repeat (first | refine blk_drewN ?_ _ | refine blk_drew ?_ | refine blk_alloc ?_ _)); exact BK1371.out) Try.underlying102 rfl (by kernel_rfl) (.tmp .nil)))) rfl ?_
    exact ⟨_, _, by first | rfl | (simp [errW_none, errW_some] <;> rfl) | (simp [*, errW_none, errW_some] <;> rfl), by (with_reducible repeat (first | apply Kd.S_alloc | apply Kd.S_drewN | apply Kd.S_drew)); exact Kd.S_mono (Kd.S_far (p := ⟨gb1371, 0, none⟩) (Kd.S_far (p := ⟨gb1370, 0, none⟩) (Kd.S_types (Kd.S_types HO1378.out BK1370.out (by decide)) BK1371.out (by decide)) (fun _ hk => hk.1.2) (.slice Ao23 t1376.length co23)) (fun _ hk => hk.2) (.slice Ao25 t1379.length co25)) (fun _ hk => trivial), by (with_reducible repeat (first | apply Kd.R_alloc | apply Kd.R_drewN | apply Kd.R_drew)); exact Kd.R_mono (Kd.R_far (p := ⟨gb1371, 0, none⟩) (Kd.R_far (p := ⟨gb1370, 0, none⟩) (Kd.R_types (Kd.R_types HO1381.out BK1370.out (by decide)) BK1371.out (by decide)) (fun _ hk => hk.1.2) (.slice Ao23 t1376.length co23)) (fun _ hk => hk.2) (.slice Ao25 t1379.length co25)) (fun _ hk => trivial), by repeat (first | (with_reducible first | exact HB.out | apply below_alloc | apply pw_below_drewN | apply below_drew1 | refine below_set ?_ GE1368.out | refine below_set ?_ GE1369.out | refine below_set ?_ GE1370.out | refine below_set ?_ GE1371.out) | exact HB.out)⟩
  · replace c4 := Bool.eq_false_iff.mpr c4
    subst c4
    have H1 : (some (([] : List (List Int)), ([] : List (SimplWindow)), false)) = some (r1, r2, r3) := by rw [if_neg (show ¬ (false = true) by decide)] at H; exact H
    clear H
    have H := H1
    clear H1
    simp only [Option.some.injEq, Prod.mk.injEq] at H
    obtain ⟨rfl, rfl, rfl⟩ := H
    go_enter Try.func64, Try.ntmps64
    go_wp2_with (first | ((with_reducible refine gate_dst (N := 2) rfl ?_); refine box_event ?hg (N := 2) ?hd (cs := #[.slice A0_0 l0_0.length c0_0]) (t := 26) ?hr ?_; (case hd => rfl); (case hg => rfl); (case hr => first | (go_simp; done) | (go_simp; rfl)); intro gb1368 hg w27 hbox hb; have n0_ := Aside0.mk (below_step (by repeat (first | (with_reducible first | exact HB.out | apply below_alloc | apply pw_below_drewN | apply below_drew1) | exact HB.out)) hb); have n1_ := Aside0.mk (hbox); have n2_ := Aside0.mk ((by rw [hg]; exact (below_size (by repeat (first | (with_reducible first | exact HB.out | apply below_alloc | apply pw_below_drewN | apply below_drew1) | exact HB.out))) : w.heap.size ≤ gb1368)); have n3_ := Aside0.mk ((by rw [hg]; exact (below_size (by repeat (first | (with_reducible first | exact HB.out | apply below_alloc | apply pw_below_drewN | apply below_drew1) | exact HB.out))) : w.heap.size ≤ gb1368)); clear HB; have HB := n0_; have BK1368 := n1_; have GW1368 := n2_; have GE1368 := n3_; clear n0_ n1_ n2_ n3_; clear hb hbox hg) | ((with_reducible refine gate_dst (N := 3) rfl ?_); refine box_event ?hg (N := 3) ?hd (cs := #[.slice A1_0 l1_0.length c1_0]) (t := 102) ?hr ?_; (case hd => rfl); (case hg => rfl); (case hr => first | (go_simp; done) | (go_simp; rfl)); intro gb1369 hg w28 hbox hb; have n0_ := Aside0.mk (blk_below (g := gb1368) (o := .cells #[.slice A0_0 l0_0.length c0_0] 26 (0, 0)) (by (with_reducible repeat (first | refine blk_drewN ?_ _ | refine blk_drew ?_ | refine blk_alloc ?_ _)); exact BK1368.out) hb); have n1_ := Aside0.mk (below_step (by repeat (first | (with_reducible first | exact HB.out | apply below_alloc | apply pw_below_drewN | apply below_drew1 | refine below_set ?_ GE1368.out) | exact HB.out)) hb); have n2_ := Aside0.mk (hbox); have n3_ := Aside0.mk ((by rw [hg]; exact (below_size (by repeat (first | (with_reducible first | exact HB.out | apply below_alloc | apply pw_below_drewN | apply below_drew1 | refine below_set ?_ GE1368.out) | exact HB.out))) : w.heap.size ≤ gb1369)); have n4_ := Aside0.mk ((by rw [hg]; exact (below_size (by repeat (first | (with_reducible first | exact HB.out | apply below_alloc | apply pw_below_drewN | apply below_drew1 | refine below_set ?_ GE1368.out) | exact HB.out))) : w.heap.size ≤ gb1369)); have n5_ := Aside0.mk ((by rw [hg]; exact Nat.ne_of_lt (blk_lt (g := gb1368) (o := .cells #[.slice A0_0 l0_0.length c0_0] 26 (0, 0)) (by (with_reducible repeat (first | refine blk_drewN ?_ _ | refine blk_drew ?_ | refine blk_alloc ?_ _)); exact BK1368.out)) : gb1368 ≠ gb1369)); have n6_ := Aside0.mk ((by rw [hg]; exact Nat.ne_of_gt (blk_lt (g := gb1368) (o := .cells #[.slice A0_0 l0_0.length c0_0] 26 (0, 0)) (by (with_reducible repeat (first | refine blk_drewN ?_ _ | refine blk_drew ?_ | refine blk_alloc ?_ _)); exact BK1368.out)) : gb1369 ≠ gb1368)); clear BK1368; clear HB; have BK1368 := n0_; have HB := n1_; have BK1369 := n2_; have GW1369 := n3_; have GE1369 := n4_; have NB1368_1369 := n5_; have NB1369_1368 := n6_; clear n0_ n1_ n2_ n3_ n4_ n5_ n6_; clear hb hbox hg) | ((with_reducible refine gate_dst (N := 4) rfl ?_); refine box_event ?hg (N := 4) ?hd (cs := #[.slice none 0 0]) (t := 26) ?hr ?_; (case hd => rfl); (case hg => rfl); (case hr => first | (go_simp; done) | (go_simp; rfl)); intro gb1370 hg w29 hbox hb; have n0_ := Aside0.mk (blk_below (g := gb1368) (o := .cells #[.slice A0_0 l0_0.length c0_0] 26 (0, 0)) (by (with_reducible repeat (first | refine blk_drewN ?_ _ | refine blk_drew ?_ | refine blk_alloc ?_ _)); exact BK1368.out) hb); have n1_ := Aside0.mk (blk_below (g := gb1369) (o := .cells #[.slice A1_0 l1_0.length c1_0] 102 (0, 0)) (by (with_reducible repeat (first | refine blk_drewN ?_ _ | refine blk_drew ?_ | refine blk_alloc ?_ _)); exact BK1369.out) hb); have n2_ := Aside0.mk (below_step (by repeat (first | (with_reducible first | exact HB.out | apply below_alloc | apply pw_below_drewN | apply below_drew1 | refine below_set ?_ GE1368.out | refine below_set ?_ GE1369.out) | exact HB.out)) hb); have n3_ := Aside0.mk (hbox); have n4_ := Aside0.mk ((by rw [hg]; exact (below_size (by repeat (first | (with_reducible first | exact HB.out | apply below_alloc | apply pw_below_drewN | apply below_drew1 | refine below_set ?_ GE1368.out | refine below_set ?_ GE1369.out) | exact HB.out))) : w.heap.size ≤ gb1370)); have n5_ := Aside0.mk ((by rw [hg]; exact (below_size (by repeat (first | (with_reducible first | exact HB.out | apply below_alloc | apply pw_below_drewN | apply below_drew1 | refine below_set ?_ GE1368.out | refine below_set ?_ GE1369.out) | exact HB.out))) : w.heap.size ≤ gb1370)); have n6_ := Aside0.mk ((by rw [hg]; exact Nat.ne_of_lt (blk_lt (g := gb1368) (o := .cells #[.slice A0_0 l0_0.length c0_0] 26 (0, 0)) (by (with_reducible repeat (first | refine blk_drewN ?_ _ | refine blk_drew ?_ | refine blk_alloc ?_ _)); exact BK1368.out)) : gb1368 ≠ gb1370)); have n7_ := Aside0.mk ((by rw [hg]; exact Nat.ne_of_gt (blk_lt (g := gb1368) (o := .cells #[.slice A0_0 l0_0.length c0_0] 26 (0, 0)) (by (with_reducible repeat (first | refine blk_drewN ?_ _ | refine blk_drew ?_ | refine blk_alloc ?_ _)); exact BK1368.out)) : gb1370 ≠ gb1368)); have n8_ := Aside0.mk ((by rw [hg]; exact Nat.ne_of_lt (blk_lt (g := gb1369) (o := .cells #[.slice A1_0 l1_0.length c1_0] 102 (0, 0)) (by (with_reducible repeat (first | refine blk_drewN ?_ _ | refine blk_drew ?_ | refine blk_alloc ?_ _)); exact BK1369.out)) : gb1369 ≠ gb1370)); have n9_ := Aside0.mk ((by rw [hg]; exact Nat.ne_of_gt (blk_lt (g := gb1369) (o := .cells #[.slice A1_0 l1_0.length c1_0] 102 (0, 0)) (by (with_reducible repeat (first | refine blk_drewN ?_ _ | refine blk_drew ?_ | refine blk_alloc ?_ _)); exact BK1369.out)) : gb1370 ≠ gb1369)); clear BK1368; clear BK1369; clear HB; have BK1368 := n0_; have BK1369 := n1_; have HB := n2_; have BK1370 := n3_; have GW1370 := n4_; have GE1370 := n5_; have NB1368_1370 := n6_; have NB1370_1368 := n7_; have NB1369_1370 := n8_; have NB1370_1369 := n9_; clear n0_ n1_ n2_ n3_ n4_ n5_ n6_ n7_ n8_ n9_; clear hb hbox hg) | ((with_reducible refine gate_dst (N := 5) rfl ?_); refine box_event ?hg (N := 5) ?hd (cs := #[.slice none 0 0]) (t := 102) ?hr ?_; (case hd => rfl); (case hg => rfl); (case hr => first | (go_simp; done) | (go_simp; rfl)); intro gb1371 hg w30 hbox hb; have n0_ := Aside0.mk (blk_below (g := gb1368) (o := .cells #[.slice A0_0 l0_0.length c0_0] 26 (0, 0)) (by (with_reducible repeat (first | refine blk_drewN ?_ _ | refine blk_drew ?_ | refine blk_alloc ?_ _)); exact BK1368.out) hb); have n1_ := Aside0.mk (blk_below (g := gb1369) (o := .cells #[.slice A1_0 l1_0.length c1_0] 102 (0, 0)) (by (with_reducible repeat (first | refine blk_drewN ?_ _ | refine blk_drew ?_ | refine blk_alloc ?_ _)); exact BK1369.out) hb); have n2_ := Aside0.mk (blk_below (g := gb1370) (o := .cells #[.slice none 0 0] 26 (0, 0)) (by (with_reducible repeat (first | refine blk_drewN ?_ _ | refine blk_drew ?_ | refine blk_alloc ?_ _)); exact BK1370.out) hb); have n3_ := Aside0.mk (below_step (by repeat (first | (with_reducible first | exact HB.out | apply below_alloc | apply pw_below_drewN | apply below_drew1 | refine below_set ?_ GE1368.out | refine below_set ?_ GE1369.out | refine below_set ?_ GE1370.out) | exact HB.out)) hb); have n4_ := Aside0.mk (hbox); have n5_ := Aside0.mk ((by rw [hg]; exact (below_size (by repeat (first | (with_reducible first | exact HB.out | apply below_alloc | apply pw_below_drewN | apply below_drew1 | refine below_set ?_ GE1368.out | refine below_set ?_ GE1369.out | refine below_set ?_ GE1370.out) | exact HB.out))) : w.heap.size ≤ gb1371)); have n6_ := Aside0.mk ((by rw [hg]; exact (below_size (by repeat (first | (with_reducible first | exact HB.out | apply below_alloc | apply pw_below_drewN | apply below_drew1 | refine below_set ?_ GE1368.out | refine below_set ?_ GE1369.out | refine below_set ?_ GE1370.out) | exact HB.out))) : w.heap.size ≤ gb1371)); have n7_ := Aside0.mk ((by rw [hg]; exact Nat.ne_of_lt (blk_lt (g := gb1368) (o := .cells #[.slice A0_0 l0_0.length c0_0] 26 (0, 0)) (by (with_reducible repeat (first | refine blk_drewN ?_ _ | refine blk_drew ?_ | refine blk_alloc ?_ _)); exact BK1368.out)) : gb1368 ≠ gb1371)); have n8_ := Aside0.mk ((by rw [hg]; exact Nat.ne_of_gt (blk_lt (g := gb1368) (o := .cells #[.slice A0_0 l0_0.length c0_0] 26 (0, 0)) (by (with_reducible repeat (first | refine blk_drewN ?_ _ | refine blk_drew ?_ | refine blk_alloc ?_ _)); exact BK1368.out)) : gb1371 ≠ gb1368)); have n9_ := Aside0.mk ((by rw [hg]; exact Nat.ne_of_lt (blk_lt (g := gb1369) (o := .cells #[.slice A1_0 l1_0.length c1_0] 102 (0, 0)) (by (with_reducible repeat (first | refine blk_drewN ?_ _ | refine blk_drew ?_ | refine blk_alloc ?_ _)); exact BK1369.out)) : gb1369 ≠ gb1371)); have n10_ := Aside0.mk ((by rw [hg]; exact Nat.ne_of_gt (blk_lt (g := gb1369) (o := .cells #[.slice A1_0 l1_0.length c1_0] 102 (0, 0)) (by (with_reducible repeat (first | refine blk_drewN ?_ _ | refine blk_drew ?_ | refine blk_alloc ?_ _)); exact BK1369.out)) : gb1371 ≠ gb1369)); have n11_ := Aside0.mk ((by rw [hg]; exact Nat.ne_of_lt (blk_lt (g := gb1370) (o := .cells #[.slice none 0 0] 26 (0, 0)) (by (with_reducible repeat (first | refine blk_drewN ?_ _ | refine blk_drew ?_ | refine blk_alloc ?_ _)); exact BK1370.out)) : gb1370 ≠ gb1371)); have n12_ := Aside0.mk ((by rw [hg]; exact Nat.ne_of_gt (blk_lt (g := gb1370) (o := .cells #[.slice none 0 0] 26 (0, 0)) (by (with_reducible repeat (first | refine blk_drewN ?_ _ | refine blk_drew ?_ | refine blk_alloc ?_ _)); exact BK1370.out)) : gb1371 ≠ gb1370)); clear BK1368; clear BK1369; clear BK1370; clear HB; have BK1368 := n0_; have BK1369 := n1_; have BK1370 := n2_; have HB := n3_; have BK1371 := n4_; have GW1371 := n5_; have GE1371 := n6_; have NB1368_1371 := n7_; have NB1371_1368 := n8_; have NB1369_1371 := n9_; have NB1371_1369 := n10_; have NB1370_1371 := n11_; have NB1371_1370 := n12_; clear n0_ n1_ n2_ n3_ n4_ n5_ n6_ n7_ n8_ n9_ n10_ n11_ n12_; clear hb hbox hg; have hnb31 := NB1368_1369.out; have hnc31 := NB1369_1368.out; have hnb32 := NB1368_1370.out; have hnc32 := NB1370_1368.out; have hnb33 := NB1368_1371.out; have hnc33 := NB1371_1368.out; have hcz34_0 : w30.cell? ⟨gb1368, 0, none⟩ = some (.slice A0_0 l0_0.length c0_0) := (blk_cell BK1368.out 0).trans rfl; have hfz34_0 := blk_frozen BK1368.out 0; have hnb35 := NB1369_1370.out; have hnc35 := NB1370_1369.out; have hnb36 := NB1369_1371.out; have hnc36 := NB1371_1369.out; have hcz37_0 : w30.cell? ⟨gb1369, 0, none⟩ = some (.slice A1_0 l1_0.length c1_0) := (blk_cell BK1369.out 0).trans rfl; have hfz37_0 := blk_frozen BK1369.out 0) | ((with_reducible refine gate_callee (f := 125) rfl ?_); refine goesL_ (some 9) rfl rfl Try.func125 (by kernel_rfl) rfl #[.agg #[.slice A0_0 l0_0.length c0_0], .agg #[.slice A1_0 l1_0.length c1_0]] rfl (by (try simp only [List.map_toArray, List.map_cons, List.map_nil]); first | done | rfl | (simp only [List.length_drop, List.length_take]; rfl)) ?_; (with_reducible refine (spec_l7Rope.calls k _ _ l0_0 _ _ l1_0 false _ ?side1 ?side2 ?side3 ?side4 A3.out).mono ?_); (case side1 => repeat (first | exact (Kd.C_below HR0_0.out HB.out) | (with_reducible refine Kd.C_alloc ?_ _) | (with_reducible refine Kd.C_drewN ?_ _) | (with_reducible refine Kd.C_drew ?_))); (case side2 => exact HC0_0.out); (case side3 => repeat (first | exact (Kd.C_below HR1_0.out HB.out) | (with_reducible refine Kd.C_alloc ?_ _) | (with_reducible refine Kd.C_drewN ?_ _) | (with_reducible refine Kd.C_drew ?_))); (case side4 => exact HC1_0.out); rintro e w38 ⟨rfl, hb⟩; refine ⟨_, rfl, ?_⟩; have n0_ := Aside0.mk (blk_below (g := gb1368) (o := .cells #[.slice A0_0 l0_0.length c0_0] 26 (0, 0)) (by (with_reducible repeat (first | refine blk_drewN ?_ _ | refine blk_drew ?_ | refine blk_alloc ?_ _)); exact BK1368.out) hb); have n1_ := Aside0.mk (blk_below (g := gb1369) (o := .cells #[.slice A1_0 l1_0.length c1_0] 102 (0, 0)) (by (with_reducible repeat (first | refine blk_drewN ?_ _ | refine blk_drew ?_ | refine blk_alloc ?_ _)); exact BK1369.out) hb); have n2_ := Aside0.mk (blk_below (g := gb1370) (o := .cells #[.slice none 0 0] 26 (0, 0)) (by (with_reducible repeat (first | refine blk_drewN ?_ _ | refine blk_drew ?_ | refine blk_alloc ?_ _)); exact BK1370.out) hb); have n3_ := Aside0.mk (blk_below (g := gb1371) (o := .cells #[.slice none 0 0] 102 (0, 0)) (by (with_reducible repeat (first | refine blk_drewN ?_ _ | refine blk_drew ?_ | refine blk_alloc ?_ _)); exact BK1371.out) hb); have n4_ := Aside0.mk (below_step (by repeat (first | (with_reducible first | exact HB.out | apply below_alloc | apply pw_below_drewN | apply below_drew1 | refine below_set ?_ GE1368.out | refine below_set ?_ GE1369.out | refine below_set ?_ GE1370.out | refine below_set ?_ GE1371.out) | exact HB.out)) hb); clear BK1368; clear BK1369; clear BK1370; clear BK1371; clear HB; have BK1368 := n0_; have BK1369 := n1_; have BK1370 := n2_; have BK1371 := n3_; have HB := n4_; clear n0_ n1_ n2_ n3_ n4_; (try clear hb); (try clear hb2); (try clear hk); (try clear hi); have hnb39 := NB1370_1371.out; have hnc39 := NB1371_1370.out; have hcz40_0 : w38.cell? ⟨gb1370, 0, none⟩ = some (.slice none 0 0) := (blk_cell BK1370.out 0).trans rfl; have hfz40_0 := blk_frozen BK1370.out 0; have hcz41_0 : w38.cell? ⟨gb1371, 0, none⟩ = some (.slice none 0 0) := (blk_cell BK1371.out 0).trans rfl; have hfz41_0 := blk_frozen BK1371.out 0))
    refine bodyPost_ret (results_list (rs := [.cell 4 26, .cell 5 102, .tmp 6]) rfl (by simp) (.cell gb1370 26 #[.slice none 0 0] (0, 0) _ rfl (by (with_reducible repeat (first | refine blk_drewN ?_ _ | refine blk_drew ?_ | refine blk_alloc ?_ _)); refine blk_far ?_ NB1370_1371.out _; (with_reducible repeat (first | refine blk_drewN ?_ _ | refine blk_drew ?_ | refine blk_alloc ?_ _)); refine blk_put (cs := #[.slice none 0 0]) ?_ 0 _ rfl; (with_reducible repeat (first | refine blk_drewN ?_ _ | refine blk_drew ?_ | refine blk_alloc ?_ _)); exact BK1370.out) Try.underlying26 rfl (by kernel_rfl) (.cell gb1371 102 #[.slice none 0 0] (0, 0) _ rfl (by (with_reducible repeat (first | refine blk_drewN ?_ _ | refine blk_drew ?_ | refine blk_alloc ?_ _)); refine blk_put (cs := #[.slice none 0 0]) ?_ 0 _ rfl; (with_reducible repeat (first | refine blk_drewN ?_ _ | refine blk_drew ?_ | refine blk_alloc ?_ _)); refine blk_far ?_ NB1371_1370.out _; (with_reducible repeat (first | refine blk_drewN ?_ _ | refine blk_drew ?_ | refine blk_alloc ?_ _)); exact BK1371.out) Try.underlying102 rfl (by kernel_rfl) (.tmp .nil)))) rfl ?_
    exact ⟨_, _, by first | rfl | (simp [errW_none, errW_some] <;> rfl) | (simp [*, errW_none, errW_some] <;> rfl), by first | exact Kd.S_nil _ _ _ _ _ | exact Kd.N_nil _ _ _ _ _ | exact Kd.V_nil _ _ _ _ _ | exact Kd.Q_nil _ _ _ _ _ | exact Kd.R_nil _ _ _ _ _, by first | exact Kd.R_nil _ _ _ _ _ | exact Kd.N_nil _ _ _ _ _ | exact Kd.V_nil _ _ _ _ _ | exact Kd.Q_nil _ _ _ _ _ | exact Kd.S_nil _ _ _ _ _, by repeat (first | (with_reducible first | exact HB.out | apply below_alloc | apply pw_below_drewN | apply below_drew1 | refine below_set ?_ GE1368.out | refine below_set ?_ GE1369.out | refine below_set ?_ GE1370.out | refine below_set ?_ GE1371.out) | exact HB.out)⟩

end Go.Proofs.Ytoomjghabiojkaa.P


/- FlattenRope: what the printed functions come to. -/
namespace Go.Proofs.Ytoomjghabiojkaa.P
open Go.RowKit Go.Proofs.YtoomjghabiojkaaW.PrintWords
set_option linter.unusedVariables false
set_option linter.unusedSimpArgs false
theorem l7Rope_ev (m : List (List Int)) (hm : m.length ≤ 9223372036854775807) (hx : ∀ x ∈ m, x.length ≤ 9223372036854775807) (suf : List SimplWindow) : ∀ (pre : List SimplWindow), pre.length ≤ 13 → pre.length + suf.length ≤ 9223372036854775807 → (∀ x ∈ suf, wfW x) →
    Ev (fun k => spec_l7Rope.l0 k (pre.length : Int) m (pre ++ suf)) (memB m && suf.all (winW m) && decide ((pre ++ suf).length ≤ 12)) := by
  have fin : ∀ (l : List SimplWindow), Ev (fun k => (spec_l2Memory.f k m).bind fun t => if t = true then some (decide ((l.length : Int) ≤ 12)) else some false) (memB m && decide (l.length ≤ 12)) := by
    intro l
    refine Ev.bind (l2Memory_f m hm) ?_
    cases hb : memB m
    · exact Ev.now _
    · simp only [if_true, Bool.true_and]
      have : decide ((l.length : Int) ≤ 12) = decide (l.length ≤ 12) := by rw [decide_eq_decide]; omega
      rw [this]
      exact Ev.now _
  induction suf with
  | nil =>
    intro pre h1 h2 h3
    refine Ev.step (f := fun k => spec_l7Rope.j1 k (pre.length : Int) false m (pre ++ [])) (fun k => ?_) (Ev.step (f := fun k => (spec_l2Memory.f k m).bind fun t => if t = true then some (decide (((pre ++ [] : List SimplWindow).length : Int) ≤ 12)) else some false) (fun k => ?_) ?_)
    rotate_left
    · simp only [spec_l7Rope.j1, Bool.false_eq_true, if_false]
    · have := fin (pre ++ [])
      simpa using this
    · simp only [spec_l7Rope.l0]
      rw [if_neg (by simp)]
  | cons x suf ih =>
    intro pre h1 h2 h3
    simp only [List.length_cons] at h2
    by_cases h13 : pre.length ≤ 12
    · refine Ev.step (f := fun k => spec_l7Rope.j1 k (pre.length : Int) true m (pre ++ x :: suf)) (fun k => ?_) ?_
      · simp only [spec_l7Rope.l0]
        rw [if_pos (by simp; omega), decide_eq_true (by omega)]
      · refine Ev.step (f := fun k => (spec_l2Window.f k m x.f0 x.f1 x.f2 x.f3).bind fun t => if t = true then spec_l7Rope.l0 k ((pre ++ [x]).length : Int) m ((pre ++ [x]) ++ suf) else some false) (fun k => ?_) ?_
        · simp only [spec_l7Rope.j1]
          rw [if_pos trivial, if_pos (by omega), if_pos (by simp; omega), rdW_mid, wrap_len (by omega)]
          simp
        · refine Ev.bind (l2Window_f m x.f0 x.f1 x.f2 x.f3 hm hx (h3 x (by simp)).2.1) ?_
          cases hb : memB m
          · simp only [Bool.false_and, Bool.false_eq_true, if_false]
            exact Ev.now _
          · cases hw : winB m x.f0 x.f1 x.f2 x.f3
            · simp only [Bool.and_false, Bool.false_eq_true, if_false]
              have : (x :: suf).all (winW m) = false := by simp [winW, hw]
              rw [this]
              exact Ev.now _
            · simp only [Bool.and_self, if_true]
              have := ih (pre ++ [x]) (by simp; omega) (by simp; omega) (fun y hy => h3 y (by simp [hy]))
              have e : (x :: suf).all (winW m) = suf.all (winW m) := by simp [winW, hw]
              rw [e]
              simpa [hb] using this
    · refine Ev.step (f := fun k => spec_l7Rope.j1 k (pre.length : Int) false m (pre ++ x :: suf)) (fun k => ?_) (Ev.step (f := fun k => (spec_l2Memory.f k m).bind fun t => if t = true then some (decide (((pre ++ x :: suf : List SimplWindow).length : Int) ≤ 12)) else some false) (fun k => ?_) ?_)
      rotate_left
      · simp only [spec_l7Rope.j1, Bool.false_eq_true, if_false]
      · have := fin (pre ++ x :: suf)
        have hl : decide ((pre ++ x :: suf).length ≤ 12) = false := by simp; omega
        rw [hl] at this ⊢
        simpa using this
      · simp only [spec_l7Rope.l0]
        rw [if_pos (by simp; omega), decide_eq_false (by omega)]
def ropeB (m : List (List Int)) (l : List SimplWindow) : Bool := memB m && l.all (winW m) && decide (l.length ≤ 12)
theorem l7Rope_f (m : List (List Int)) (l : List SimplWindow) (h : okM m) (hl : l.length ≤ 1048576) (hw : ∀ x ∈ l, wfW x) : Ev (fun k => spec_l7Rope.f k m l) (ropeB m l) := by
  have := l7Rope_ev m h.len h.rows l [] (by simp) (by simp; omega) hw
  simpa [spec_l7Rope.f, ropeB] using this
theorem ropeB_of {m : List (List Int)} {l : List SimplWindow} (h : ropeB m l = true) : memB m = true ∧ (∀ x ∈ l, WinOk m x.f0 x.f1 x.f2 x.f3) ∧ l.length ≤ 12 := by
  unfold ropeB at h
  simp only [Bool.and_eq_true, decide_eq_true_eq, List.all_eq_true] at h
  exact ⟨h.1.1, fun x hx => WinOk.of h.1.1 (h.1.2 x hx), h.2⟩
theorem seenR_f {m : List (List Int)} {a s n c : Int} (hw : WinOk m a s n c) : impl_Memory_seen.f m a s n c = some (seeB m a s n) := by
  have h1 := hw.a0; have h2 := hw.a1; have h3 := hw.s0; have h4 := hw.n0; have h5 := hw.s1; have h6 := hw.n1; have h7 := hw.r1
  have he : rd_Lsu8 m a = rowB m a := rfl
  unfold impl_Memory_seen.f
  rw [wrap_ok (x := s + n) (by omega) (by omega), he, if_pos h1, if_pos h2, if_pos h3, if_pos (by omega), if_pos (by omega), List.drop_take, show (s + n).toNat - s.toNat = n.toNat by omega]
  rfl
def textB (m : List (List Int)) : List SimplWindow → List Int
  | [] => []
  | x :: xs => seeB m x.f0 x.f1 x.f2 ++ textB m xs
theorem see_len {m : List (List Int)} {a s n c : Int} (hw : WinOk m a s n c) : (seeB m a s n).length ≤ 64 := by
  have := seeB_length hw; have := hw.n1; have := hw.r1; have := hw.s0; have := hw.s1
  omega
theorem textB_len (m : List (List Int)) : ∀ (l : List SimplWindow), (∀ x ∈ l, WinOk m x.f0 x.f1 x.f2 x.f3) → (textB m l).length ≤ 64 * l.length
  | [], _ => by simp [textB]
  | x :: l, h => by
    have h1 := see_len (h x (by simp))
    have h2 := textB_len m l (fun y hy => h y (by simp [hy]))
    simp only [textB, List.length_append, List.length_cons]
    omega
theorem implText_ev (m : List (List Int)) (suf : List SimplWindow) : ∀ (pre : List SimplWindow) (acc : List Int), pre.length + suf.length ≤ 1000 → acc.length + 64 * suf.length ≤ 1000000 → (∀ x ∈ suf, WinOk m x.f0 x.f1 x.f2 x.f3) →
    Ev (fun k => impl_Memory_ropeText.l0 k acc (pre ++ suf) ((pre ++ suf).length : Int) (pre.length : Int) m) (acc ++ textB m suf) := by
  induction suf with
  | nil =>
    intro pre acc h1 h2 h3
    refine Ev.step (f := fun k => some acc) (fun k => ?_) (by simpa [textB] using Ev.now acc)
    have e1 : ¬ ((pre.length : Int) < ((pre ++ ([] : List SimplWindow)).length : Int)) := by simp
    simp only [impl_Memory_ropeText.l0, e1, if_false]
  | cons x suf ih =>
    intro pre acc h1 h2 h3
    simp only [List.length_cons] at h1 h2
    have hx := see_len (h3 x (by simp))
    have := ih (pre ++ [x]) (acc ++ seeB m x.f0 x.f1 x.f2) (by simp; omega) (by simp; omega) (fun y hy => h3 y (by simp [hy]))
    rw [show acc ++ textB m (x :: suf) = acc ++ seeB m x.f0 x.f1 x.f2 ++ textB m suf by simp [textB]]
    refine Ev.step (fun k => ?_) this
    have e0 : (0 : Int) ≤ (pre.length : Int) := by omega
    have e1 : (pre.length : Int) < ((pre ++ x :: suf).length : Int) := by simp; omega
    have e2 : acc.length + (seeB m x.f0 x.f1 x.f2).length < 140737488355328 := by omega
    simp only [impl_Memory_ropeText.l0, e0, e1, if_true, rdW_mid, seenR_f (h3 x (by simp)), Option.bind_some, e2]
    rw [wrap_len (by omega)]
    simp
theorem implText_f {m : List (List Int)} {l : List SimplWindow} (h : ropeB m l = true) : Ev (fun k => impl_Memory_ropeText.f k m l) (textB m l) := by
  obtain ⟨h1, h2, h3⟩ := ropeB_of h
  have := implText_ev m l [] [] (by simp; omega) (by simp; omega) h2
  simpa [impl_Memory_ropeText.f] using this
theorem specText_ev (m : List (List Int)) (suf : List SimplWindow) : ∀ (pre : List SimplWindow) (acc : List Int), pre.length + suf.length ≤ 1000 → acc.length + 64 * suf.length ≤ 1000000 → (∀ x ∈ suf, WinOk m x.f0 x.f1 x.f2 x.f3) →
    Ev (fun k => spec_l7Text.l0 k acc (pre.length : Int) m (pre ++ suf)) (acc ++ textB m suf) := by
  induction suf with
  | nil =>
    intro pre acc h1 h2 h3
    refine Ev.step (f := fun k => some acc) (fun k => ?_) (by simpa [textB] using Ev.now acc)
    have e1 : ¬ ((pre.length : Int) < ((pre ++ ([] : List SimplWindow)).length : Int)) := by simp
    simp only [spec_l7Text.l0, e1, if_false]
  | cons x suf ih =>
    intro pre acc h1 h2 h3
    simp only [List.length_cons] at h1 h2
    have hx := see_len (h3 x (by simp))
    have := ih (pre ++ [x]) (acc ++ seeB m x.f0 x.f1 x.f2) (by simp; omega) (by simp; omega) (fun y hy => h3 y (by simp [hy]))
    rw [show acc ++ textB m (x :: suf) = acc ++ seeB m x.f0 x.f1 x.f2 ++ textB m suf by simp [textB]]
    have e0 : (0 : Int) ≤ (pre.length : Int) := by omega
    have e1 : (pre.length : Int) < ((pre ++ x :: suf).length : Int) := by simp; omega
    have e2 : acc.length + (seeB m x.f0 x.f1 x.f2).length < 140737488355328 := by omega
    refine Ev.step (f := fun k => (spec_l2Bytes.f k m x.f0 x.f1 x.f2 x.f3).bind fun t => if acc.length + t.length < 140737488355328 then spec_l7Text.l0 k (acc ++ t) ((pre.length + 1 : Nat) : Int) m (pre ++ x :: suf) else none) (fun k => ?_) (Ev.bind (l2Bytes_f (h3 x (by simp))) ?_)
    · simp only [spec_l7Text.l0, e0, e1, if_true, rdW_mid]
      rw [wrap_len (by omega)]
    · simp only [e2, if_true]
      simpa using this
theorem specText_f {m : List (List Int)} {l : List SimplWindow} (h : ropeB m l = true) : Ev (fun k => spec_l7Text.f k m l) (textB m l) := by
  obtain ⟨h1, h2, h3⟩ := ropeB_of h
  have := specText_ev m l [] [] (by simp; omega) (by simp; omega) h2
  simpa [spec_l7Text.f] using this
def flatB (m : List (List Int)) (l : List SimplWindow) : List (List Int) × List SimplWindow × Bool :=
  if ropeB m l = true then
    if (textB m l).length = 0 then (m, [], true)
    else if 64 < (textB m l).length ∨ m.length = 16 then ([], [], false)
    else (m ++ [textB m l], [⟨(m.length : Int), 0, ((textB m l).length : Int), ((textB m l).length : Int)⟩], true)
  else ([], [], false)
theorem specFlat_f (m : List (List Int)) (l : List SimplWindow) (h : okM m) (hl : l.length ≤ 1048576) (hw : ∀ x ∈ l, wfW x) : Ev (fun k => spec_FlattenRope.f k m l) (flatB m l) := by
  refine Ev.bind (l7Rope_f m l h hl hw) ?_
  unfold flatB
  cases hr : ropeB m l
  · simp only [Bool.false_eq_true, if_false]
    exact Ev.now _
  · simp only [if_true]
    obtain ⟨h1, h2, h3⟩ := ropeB_of hr
    have ht := textB_len m l h2
    refine Ev.bind (specText_f hr) ?_
    generalize textB m l = t at ht
    have hn : Ev (fun k => spec_l7New.f k m t) (if t.length = 0 then (m, [], true) else if 64 < t.length ∨ m.length = 16 then ([], [], false) else (m ++ [t], [⟨(m.length : Int), 0, (t.length : Int), (t.length : Int)⟩], true)) := by
      unfold spec_l7New.f
      by_cases e0 : t.length = 0
      · have e0' : (t.length : Int) = 0 := by omega
        simp only [e0', e0, if_true]
        exact Ev.bind (l2Own_f m h) (Ev.now _)
      · have e0' : ¬ (t.length : Int) = 0 := by omega
        by_cases e1 : 64 < t.length
        · have e1' : (t.length : Int) > 64 := by omega
          simp only [e0', e0, e1', e1, if_true, if_false, true_or]
          exact Ev.now _
        · have e1' : ¬ (t.length : Int) > 64 := by omega
          by_cases e2 : m.length = 16
          · have e2' : (m.length : Int) = 16 := by omega
            simp only [e0', e0, e1', e1, e2', e2, if_true, if_false, or_true]
            exact Ev.now _
          · have e2' : ¬ (m.length : Int) = 16 := by omega
            simp only [e0', e0, e1', e1, e2', e2, if_false, or_self]
            exact Ev.bind (l2New_f m t (t.length : Int) h (by omega)) (Ev.now _)
    exact Ev.bind hn (Ev.now _)
end Go.Proofs.Ytoomjghabiojkaa.P


