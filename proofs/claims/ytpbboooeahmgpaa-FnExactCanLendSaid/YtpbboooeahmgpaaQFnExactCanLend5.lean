/- Part 5 of the proof of the law FnExactCanLend: contracts of the functions that it reaches. -/
import Derived.Test.YtpbboooeahmgpaaQFnExactCanLend4
namespace Go.Proofs.Ytpbboooeahmgpaa.P
open Go.RowKit Go.Proofs.YtpbboooeahmgpaaW.PrintWords Go.Proofs.YtpbboooeahmgpaaW.PrintLast Go.Proofs.YtpbboooeahmgpaaW.PrintMore
attribute [local go_sem] max2_int min2_int max_two min_two max_three min_three max_four min_four   -- for this text's walks alone
set_option linter.unusedVariables false
set_option linter.unusedSimpArgs false

/-! ### impl_common: function 128 -/
def impl_common.f (a0_0 : Int) (a0_1 : Int) (a0_2 : Int) (a0_3 : Int) (a1_0 : Int) (a1_1 : Int) (a1_2 : Int) (a1_3 : Int) : Option (Int × Int) := if a0_0 = a1_0 then (if (mx a0_1 a1_1) ≥ (mn (wrap64 (a0_1 + a0_2)) (wrap64 (a1_1 + a1_2))) then (some (0, (-1))) else (some (wrap64 ((mn (wrap64 (a0_1 + a0_2)) (wrap64 (a1_1 + a1_2))) - (mx a0_1 a1_1)), mx a0_1 a1_1))) else (some (0, (-1)))
set_option maxHeartbeats 8000000 in
set_option maxRecDepth 100000 in
theorem impl_common.calls (a0_0 : Int) (a0_1 : Int) (a0_2 : Int) (a0_3 : Int) (a1_0 : Int) (a1_1 : Int) (a1_2 : Int) (a1_3 : Int) (r1 : Int) (r2 : Int) (w : World) (h : impl_common.f a0_0 a0_1 a0_2 a0_3 a1_0 a1_1 a1_2 a1_3 = some (r1, r2)) :
    Calls Try.prog 128 #[.agg #[.int .i64 a0_0, .int .i64 a0_1, .int .i64 a0_2, .int .i64 a0_3], .agg #[.int .i64 a1_0, .int .i64 a1_1, .int .i64 a1_2, .int .i64 a1_3]] w fun e w' => e = .returned (.tuple #[.int .i64 r1, .int .i64 r2]) ∧ Below w.heap.size w w' := by
  have hu28 := Try.underlying28
  have HB := Aside0.mk (Below.refl w.heap.size w)
  have H : (if a0_0 = a1_0 then (if (mx a0_1 a1_1) ≥ (mn (wrap64 (a0_1 + a0_2)) (wrap64 (a1_1 + a1_2))) then (some (0, (-1))) else (some (wrap64 ((mn (wrap64 (a0_1 + a0_2)) (wrap64 (a1_1 + a1_2))) - (mx a0_1 a1_1)), mx a0_1 a1_1))) else (some (0, (-1)))) = some (r1, r2) := h
  clear h
  obtain ⟨ji3, hji3⟩ : ∃ j_ : Int, (mx a0_1 a1_1) = j_ := ⟨_, rfl⟩
  replace H : (if a0_0 = a1_0 then (if (ji3) ≥ (mn (wrap64 (a0_1 + a0_2)) (wrap64 (a1_1 + a1_2))) then (some (0, (-1))) else (some (wrap64 ((mn (wrap64 (a0_1 + a0_2)) (wrap64 (a1_1 + a1_2))) - (ji3)), ji3))) else (some (0, (-1)))) = some (r1, r2) := by first | (rw [hji3] at H; exact H) | (simp only [hji3] at H ⊢; exact H)
  have hji3_ : (if a0_1 < a1_1 then a1_1 else a0_1) = ji3 := hji3
  obtain ⟨ji4, hji4⟩ : ∃ j_ : Int, (mn (wrap64 (a0_1 + a0_2)) (wrap64 (a1_1 + a1_2))) = j_ := ⟨_, rfl⟩
  replace H : (if a0_0 = a1_0 then (if (ji3) ≥ (ji4) then (some (0, (-1))) else (some (wrap64 ((ji4) - (ji3)), ji3))) else (some (0, (-1)))) = some (r1, r2) := by first | (rw [hji4] at H; exact H) | (simp only [hji4] at H ⊢; exact H)
  have hji4_ : (if (wrap64 (a1_1 + a1_2)) < (wrap64 (a0_1 + a0_2)) then (wrap64 (a1_1 + a1_2)) else (wrap64 (a0_1 + a0_2))) = ji4 := hji4
  by_cases c5 : a0_0 = a1_0
  · rw [if_pos c5] at H
    have c5b0 : (a0_0 == a1_0) = true := beq_iff_eq.mpr c5
    have c5b1 : (a0_0 != a1_0) = false := bne_eq_false_iff_eq.mpr c5
    clear c5
    by_cases c6 : (ji3) ≥ (ji4)
    · rw [if_pos c6] at H
      have c6b0 : decide ((ji4) ≤ (ji3)) = true := decide_eq_true c6
      clear c6
      simp only [Option.some.injEq, Prod.mk.injEq] at H
      obtain ⟨rfl, rfl⟩ := H
      go_enter Try.func128, Try.ntmps128
      go_wp2_with (first | ((with_reducible refine gate_dst (N := 2) rfl ?_); refine box_event ?hg (N := 2) ?hd (cs := #[.int .i64 a0_0, .int .i64 a0_1, .int .i64 a0_2, .int .i64 a0_3]) (t := 28) ?hr ?_; (case hd => rfl); (case hg => rfl); (case hr => first | (go_simp; done) | (go_simp; rfl)); intro gb481 hg w7 hbox hb; have n0_ := Aside0.mk (below_step (by repeat (first | (with_reducible first | exact HB.out | apply below_alloc | apply pw_below_drewN | apply below_drew1) | exact HB.out)) hb); have n1_ := Aside0.mk (hbox); have n2_ := Aside0.mk ((by rw [hg]; exact (below_size (by repeat (first | (with_reducible first | exact HB.out | apply below_alloc | apply pw_below_drewN | apply below_drew1) | exact HB.out))) : w.heap.size ≤ gb481)); have n3_ := Aside0.mk ((by rw [hg]; exact (below_size (by repeat (first | (with_reducible first | exact HB.out | apply below_alloc | apply pw_below_drewN | apply below_drew1) | exact HB.out))) : w.heap.size ≤ gb481)); clear HB; have HB := n0_; have BK481 := n1_; have GW481 := n2_; have GE481 := n3_; clear n0_ n1_ n2_ n3_; clear hb hbox hg) | ((with_reducible refine gate_dst (N := 3) rfl ?_); refine box_event ?hg (N := 3) ?hd (cs := #[.int .i64 a1_0, .int .i64 a1_1, .int .i64 a1_2, .int .i64 a1_3]) (t := 28) ?hr ?_; (case hd => rfl); (case hg => rfl); (case hr => first | (go_simp; done) | (go_simp; rfl)); intro gb482 hg w8 hbox hb; have n0_ := Aside0.mk (blk_below (g := gb481) (o := .cells #[.int .i64 a0_0, .int .i64 a0_1, .int .i64 a0_2, .int .i64 a0_3] 28 (0, 0)) (by (with_reducible repeat (first | refine blk_drewN ?_ _ | refine blk_drew ?_ | refine blk_alloc ?_ _)); exact BK481.out) hb); have n1_ := Aside0.mk (below_step (by repeat (first | (with_reducible first | exact HB.out | apply below_alloc | apply pw_below_drewN | apply below_drew1 | refine below_set ?_ GE481.out) | exact HB.out)) hb); have n2_ := Aside0.mk (hbox); have n3_ := Aside0.mk ((by rw [hg]; exact (below_size (by repeat (first | (with_reducible first | exact HB.out | apply below_alloc | apply pw_below_drewN | apply below_drew1 | refine below_set ?_ GE481.out) | exact HB.out))) : w.heap.size ≤ gb482)); have n4_ := Aside0.mk ((by rw [hg]; exact (below_size (by repeat (first | (with_reducible first | exact HB.out | apply below_alloc | apply pw_below_drewN | apply below_drew1 | refine below_set ?_ GE481.out) | exact HB.out))) : w.heap.size ≤ gb482)); have n5_ := Aside0.mk ((by rw [hg]; exact Nat.ne_of_lt (blk_lt (g := gb481) (o := .cells #[.int .i64 a0_0, .int .i64 a0_1, .int .i64 a0_2, .int .i64 a0_3] 28 (0, 0)) (by (with_reducible repeat (first | refine blk_drewN ?_ _ | refine blk_drew ?_ | refine blk_alloc ?_ _)); exact BK481.out)) : gb481 ≠ gb482)); have n6_ := Aside0.mk ((by rw [hg]; exact Nat.ne_of_gt (blk_lt (g := gb481) (o := .cells #[.int .i64 a0_0, .int .i64 a0_1, .int .i64 a0_2, .int .i64 a0_3] 28 (0, 0)) (by (with_reducible repeat (first | refine blk_drewN ?_ _ | refine blk_drew ?_ | refine blk_alloc ?_ _)); exact BK481.out)) : gb482 ≠ gb481)); clear BK481; clear HB; have BK481 := n0_; have HB := n1_; have BK482 := n2_; have GW482 := n3_; have GE482 := n4_; have NB481_482 := n5_; have NB482_481 := n6_; clear n0_ n1_ n2_ n3_ n4_ n5_ n6_; clear hb hbox hg; have hnb9 := NB481_482.out; have hnc9 := NB482_481.out; have hcz10_0 : w8.cell? ⟨gb481, 0, none⟩ = some (.int .i64 a0_0) := (blk_cell BK481.out 0).trans rfl; have hcz10_1 : w8.cell? ⟨gb481, 1, none⟩ = some (.int .i64 a0_1) := (blk_cell BK481.out 1).trans rfl; have hcz10_2 : w8.cell? ⟨gb481, 2, none⟩ = some (.int .i64 a0_2) := (blk_cell BK481.out 2).trans rfl; have hcz10_3 : w8.cell? ⟨gb481, 3, none⟩ = some (.int .i64 a0_3) := (blk_cell BK481.out 3).trans rfl; have hfz10_0 := blk_frozen BK481.out 0; have hfz10_1 := blk_frozen BK481.out 1; have hfz10_2 := blk_frozen BK481.out 2; have hfz10_3 := blk_frozen BK481.out 3; have hcz11_0 : w8.cell? ⟨gb482, 0, none⟩ = some (.int .i64 a1_0) := (blk_cell BK482.out 0).trans rfl; have hcz11_1 : w8.cell? ⟨gb482, 1, none⟩ = some (.int .i64 a1_1) := (blk_cell BK482.out 1).trans rfl; have hcz11_2 : w8.cell? ⟨gb482, 2, none⟩ = some (.int .i64 a1_2) := (blk_cell BK482.out 2).trans rfl; have hcz11_3 : w8.cell? ⟨gb482, 3, none⟩ = some (.int .i64 a1_3) := (blk_cell BK482.out 3).trans rfl; have hfz11_0 := blk_frozen BK482.out 0; have hfz11_1 := blk_frozen BK482.out 1; have hfz11_2 := blk_frozen BK482.out 2; have hfz11_3 := blk_frozen BK482.out 3))
      repeat (go_quiet (first | ((with_reducible refine gate_dst (N := 2) rfl ?_); refine box_event ?hg (N := 2) ?hd (cs := #[.int .i64 a0_0, .int .i64 a0_1, .int .i64 a0_2, .int .i64 a0_3]) (t := 28) ?hr ?_; (case hd => rfl); (case hg => rfl); (case hr => first | (go_simp; done) | (go_simp; rfl)); intro gb481 hg w7 hbox hb; have n0_ := Aside0.mk (below_step (by repeat (first | (with_reducible first | exact HB.out | apply below_alloc | apply pw_below_drewN | apply below_drew1) | exact HB.out)) hb); have n1_ := Aside0.mk (hbox); have n2_ := Aside0.mk ((by rw [hg]; exact (below_size (by repeat (first | (with_reducible first | exact HB.out | apply below_alloc | apply pw_below_drewN | apply below_drew1) | exact HB.out))) : w.heap.size ≤ gb481)); have n3_ := Aside0.mk ((by rw [hg]; exact (below_size (by repeat (first | (with_reducible first | exact HB.out | apply below_alloc | apply pw_below_drewN | apply below_drew1) | exact HB.out))) : w.heap.size ≤ gb481)); clear HB; have HB := n0_; have BK481 := n1_; have GW481 := n2_; have GE481 := n3_; clear n0_ n1_ n2_ n3_; clear hb hbox hg) | ((with_reducible refine gate_dst (N := 3) rfl ?_); refine box_event ?hg (N := 3) ?hd (cs := #[.int .i64 a1_0, .int .i64 a1_1, .int .i64 a1_2, .int .i64 a1_3]) (t := 28) ?hr ?_; (case hd => rfl); (case hg => rfl); (case hr => first | (go_simp; done) | (go_simp; rfl)); intro gb482 hg w8 hbox hb; have n0_ := Aside0.mk (blk_below (g := gb481) (o := .cells #[.int .i64 a0_0, .int .i64 a0_1, .int .i64 a0_2, .int .i64 a0_3] 28 (0, 0)) (by (with_reducible repeat (first | refine blk_drewN ?_ _ | refine blk_drew ?_ | refine blk_alloc ?_ _)); exact BK481.out) hb); have n1_ := Aside0.mk (below_step (by repeat (first | (with_reducible first | exact HB.out | apply below_alloc | apply pw_below_drewN | apply below_drew1 | refine below_set ?_ GE481.out) | exact HB.out)) hb); have n2_ := Aside0.mk (hbox); have n3_ := Aside0.mk ((by rw [hg]; exact (below_size (by repeat (first | (with_reducible first | exact HB.out | apply below_alloc | apply pw_below_drewN | apply below_drew1 | refine below_set ?_ GE481.out) | exact HB.out))) : w.heap.size ≤ gb482)); have n4_ := Aside0.mk ((by rw [hg]; exact (below_size (by repeat (first | (with_reducible first | exact HB.out | apply below_alloc | apply pw_below_drewN | apply below_drew1 | refine below_set ?_ GE481.out) | exact HB.out))) : w.heap.size ≤ gb482)); have n5_ := Aside0.mk ((by rw [hg]; exact Nat.ne_of_lt (blk_lt (g := gb481) (o := .cells #[.int .i64 a0_0, .int .i64 a0_1, .int .i64 a0_2, .int .i64 a0_3] 28 (0, 0)) (by (with_reducible repeat (first | refine blk_drewN ?_ _ | refine blk_drew ?_ | refine blk_alloc ?_ _)); exact BK481.out)) : gb481 ≠ gb482)); have n6_ := Aside0.mk ((by rw [hg]; exact Nat.ne_of_gt (blk_lt (g := gb481) (o := .cells #[.int .i64 a0_0, .int .i64 a0_1, .int .i64 a0_2, .int .i64 a0_3] 28 (0, 0)) (by (with_reducible repeat (first | refine blk_drewN ?_ _ | refine blk_drew ?_ | refine blk_alloc ?_ _)); exact BK481.out)) : gb482 ≠ gb481)); clear BK481; clear HB; have BK481 := n0_; have HB := n1_; have BK482 := n2_; have GW482 := n3_; have GE482 := n4_; have NB481_482 := n5_; have NB482_481 := n6_; clear n0_ n1_ n2_ n3_ n4_ n5_ n6_; clear hb hbox hg; have hnb9 := NB481_482.out; have hnc9 := NB482_481.out; have hcz10_0 : w8.cell? ⟨gb481, 0, none⟩ = some (.int .i64 a0_0) := (blk_cell BK481.out 0).trans rfl; have hcz10_1 : w8.cell? ⟨gb481, 1, none⟩ = some (.int .i64 a0_1) := (blk_cell BK481.out 1).trans rfl; have hcz10_2 : w8.cell? ⟨gb481, 2, none⟩ = some (.int .i64 a0_2) := (blk_cell BK481.out 2).trans rfl; have hcz10_3 : w8.cell? ⟨gb481, 3, none⟩ = some (.int .i64 a0_3) := (blk_cell BK481.out 3).trans rfl; have hfz10_0 := blk_frozen BK481.out 0; have hfz10_1 := blk_frozen BK481.out 1; have hfz10_2 := blk_frozen BK481.out 2; have hfz10_3 := blk_frozen BK481.out 3; have hcz11_0 : w8.cell? ⟨gb482, 0, none⟩ = some (.int .i64 a1_0) := (blk_cell BK482.out 0).trans rfl; have hcz11_1 : w8.cell? ⟨gb482, 1, none⟩ = some (.int .i64 a1_1) := (blk_cell BK482.out 1).trans rfl; have hcz11_2 : w8.cell? ⟨gb482, 2, none⟩ = some (.int .i64 a1_2) := (blk_cell BK482.out 2).trans rfl; have hcz11_3 : w8.cell? ⟨gb482, 3, none⟩ = some (.int .i64 a1_3) := (blk_cell BK482.out 3).trans rfl; have hfz11_0 := blk_frozen BK482.out 0; have hfz11_1 := blk_frozen BK482.out 1; have hfz11_2 := blk_frozen BK482.out 2; have hfz11_3 := blk_frozen BK482.out 3)); try go_wp2_with (first | ((with_reducible refine gate_dst (N := 2) rfl ?_); refine box_event ?hg (N := 2) ?hd (cs := #[.int .i64 a0_0, .int .i64 a0_1, .int .i64 a0_2, .int .i64 a0_3]) (t := 28) ?hr ?_; (case hd => rfl); (case hg => rfl); (case hr => first | (go_simp; done) | (go_simp; rfl)); intro gb481 hg w7 hbox hb; have n0_ := Aside0.mk (below_step (by repeat (first | (with_reducible first | exact HB.out | apply below_alloc | apply pw_below_drewN | apply below_drew1) | exact HB.out)) hb); have n1_ := Aside0.mk (hbox); have n2_ := Aside0.mk ((by rw [hg]; exact (below_size (by repeat (first | (with_reducible first | exact HB.out | apply below_alloc | apply pw_below_drewN | apply below_drew1) | exact HB.out))) : w.heap.size ≤ gb481)); have n3_ := Aside0.mk ((by rw [hg]; exact (below_size (by repeat (first | (with_reducible first | exact HB.out | apply below_alloc | apply pw_below_drewN | apply below_drew1) | exact HB.out))) : w.heap.size ≤ gb481)); clear HB; have HB := n0_; have BK481 := n1_; have GW481 := n2_; have GE481 := n3_; clear n0_ n1_ n2_ n3_; clear hb hbox hg) | ((with_reducible refine gate_dst (N := 3) rfl ?_); refine box_event ?hg (N := 3) ?hd (cs := #[.int .i64 a1_0, .int .i64 a1_1, .int .i64 a1_2, .int .i64 a1_3]) (t := 28) ?hr ?_; (case hd => rfl); (case hg => rfl); (case hr => first | (go_simp; done) | (go_simp; rfl)); intro gb482 hg w8 hbox hb; have n0_ := Aside0.mk (blk_below (g := gb481) (o := .cells #[.int .i64 a0_0, .int .i64 a0_1, .int .i64 a0_2, .int .i64 a0_3] 28 (0, 0)) (by (with_reducible repeat (first | refine blk_drewN ?_ _ | refine blk_drew ?_ | refine blk_alloc ?_ _)); exact BK481.out) hb); have n1_ := Aside0.mk (below_step (by repeat (first | (with_reducible first | exact HB.out | apply below_alloc | apply pw_below_drewN | apply below_drew1 | refine below_set ?_ GE481.out) | exact HB.out)) hb); have n2_ := Aside0.mk (hbox); have n3_ := Aside0.mk ((by rw [hg]; exact (below_size (by repeat (first | (with_reducible first | exact HB.out | apply below_alloc | apply pw_below_drewN | apply below_drew1 | refine below_set ?_ GE481.out) | exact HB.out))) : w.heap.size ≤ gb482)); have n4_ := Aside0.mk ((by rw [hg]; exact (below_size (by repeat (first | (with_reducible first | exact HB.out | apply below_alloc | apply pw_below_drewN | apply below_drew1 | refine below_set ?_ GE481.out) | exact HB.out))) : w.heap.size ≤ gb482)); have n5_ := Aside0.mk ((by rw [hg]; exact Nat.ne_of_lt (blk_lt (g := gb481) (o := .cells #[.int .i64 a0_0, .int .i64 a0_1, .int .i64 a0_2, .int .i64 a0_3] 28 (0, 0)) (by (with_reducible repeat (first | refine blk_drewN ?_ _ | refine blk_drew ?_ | refine blk_alloc ?_ _)); exact BK481.out)) : gb481 ≠ gb482)); have n6_ := Aside0.mk ((by rw [hg]; exact Nat.ne_of_gt (blk_lt (g := gb481) (o := .cells #[.int .i64 a0_0, .int .i64 a0_1, .int .i64 a0_2, .int .i64 a0_3] 28 (0, 0)) (by (with_reducible repeat (first | refine blk_drewN ?_ _ | refine blk_drew ?_ | refine blk_alloc ?_ _)); exact BK481.out)) : gb482 ≠ gb481)); clear BK481; clear HB; have BK481 := n0_; have HB := n1_; have BK482 := n2_; have GW482 := n3_; have GE482 := n4_; have NB481_482 := n5_; have NB482_481 := n6_; clear n0_ n1_ n2_ n3_ n4_ n5_ n6_; clear hb hbox hg; have hnb9 := NB481_482.out; have hnc9 := NB482_481.out; have hcz10_0 : w8.cell? ⟨gb481, 0, none⟩ = some (.int .i64 a0_0) := (blk_cell BK481.out 0).trans rfl; have hcz10_1 : w8.cell? ⟨gb481, 1, none⟩ = some (.int .i64 a0_1) := (blk_cell BK481.out 1).trans rfl; have hcz10_2 : w8.cell? ⟨gb481, 2, none⟩ = some (.int .i64 a0_2) := (blk_cell BK481.out 2).trans rfl; have hcz10_3 : w8.cell? ⟨gb481, 3, none⟩ = some (.int .i64 a0_3) := (blk_cell BK481.out 3).trans rfl; have hfz10_0 := blk_frozen BK481.out 0; have hfz10_1 := blk_frozen BK481.out 1; have hfz10_2 := blk_frozen BK481.out 2; have hfz10_3 := blk_frozen BK481.out 3; have hcz11_0 : w8.cell? ⟨gb482, 0, none⟩ = some (.int .i64 a1_0) := (blk_cell BK482.out 0).trans rfl; have hcz11_1 : w8.cell? ⟨gb482, 1, none⟩ = some (.int .i64 a1_1) := (blk_cell BK482.out 1).trans rfl; have hcz11_2 : w8.cell? ⟨gb482, 2, none⟩ = some (.int .i64 a1_2) := (blk_cell BK482.out 2).trans rfl; have hcz11_3 : w8.cell? ⟨gb482, 3, none⟩ = some (.int .i64 a1_3) := (blk_cell BK482.out 3).trans rfl; have hfz11_0 := blk_frozen BK482.out 0; have hfz11_1 := blk_frozen BK482.out 1; have hfz11_2 := blk_frozen BK482.out 2; have hfz11_3 := blk_frozen BK482.out 3)))
      go_ret2
      exact ⟨by first | rfl | (simp [errW_none, errW_some] <;> rfl) | (simp only [← hji3, ← hji4]; first | rfl | (simp [errW_none, errW_some] <;> rfl)) | (simp [*, errW_none, errW_some] <;> rfl), by repeat (first | (with_reducible first | exact HB.out | apply below_alloc | apply pw_below_drewN | apply below_drew1 | refine below_set ?_ GE481.out | refine below_set ?_ GE482.out) | exact HB.out)⟩
    · rw [if_neg c6] at H
      have c6b0 : decide ((ji4) ≤ (ji3)) = false := decide_eq_false c6
      clear c6
      simp only [Option.some.injEq, Prod.mk.injEq] at H
      obtain ⟨rfl, rfl⟩ := H
      go_enter Try.func128, Try.ntmps128
      go_wp2_with (first | ((with_reducible refine gate_dst (N := 2) rfl ?_); refine box_event ?hg (N := 2) ?hd (cs := #[.int .i64 a0_0, .int .i64 a0_1, .int .i64 a0_2, .int .i64 a0_3]) (t := 28) ?hr ?_; (case hd => rfl); (case hg => rfl); (case hr => first | (go_simp; done) | (go_simp; rfl)); intro gb481 hg w12 hbox hb; have n0_ := Aside0.mk (below_step (by repeat (first | (with_reducible first | exact HB.out | apply below_alloc | apply pw_below_drewN | apply below_drew1) | exact HB.out)) hb); have n1_ := Aside0.mk (hbox); have n2_ := Aside0.mk ((by rw [hg]; exact (below_size (by repeat (first | (with_reducible first | exact HB.out | apply below_alloc | apply pw_below_drewN | apply below_drew1) | exact HB.out))) : w.heap.size ≤ gb481)); have n3_ := Aside0.mk ((by rw [hg]; exact (below_size (by repeat (first | (with_reducible first | exact HB.out | apply below_alloc | apply pw_below_drewN | apply below_drew1) | exact HB.out))) : w.heap.size ≤ gb481)); clear HB; have HB := n0_; have BK481 := n1_; have GW481 := n2_; have GE481 := n3_; clear n0_ n1_ n2_ n3_; clear hb hbox hg) | ((with_reducible refine gate_dst (N := 3) rfl ?_); refine box_event ?hg (N := 3) ?hd (cs := #[.int .i64 a1_0, .int .i64 a1_1, .int .i64 a1_2, .int .i64 a1_3]) (t := 28) ?hr ?_; (case hd => rfl); (case hg => rfl); (case hr => first | (go_simp; done) | (go_simp; rfl)); intro gb482 hg w13 hbox hb; have n0_ := Aside0.mk (blk_below (g := gb481) (o := .cells #[.int .i64 a0_0, .int .i64 a0_1, .int .i64 a0_2, .int .i64 a0_3] 28 (0, 0)) (by (with_reducible repeat (first | refine blk_drewN ?_ _ | refine blk_drew ?_ | refine blk_alloc ?_ _)); exact BK481.out) hb); have n1_ := Aside0.mk (below_step (by repeat (first | (with_reducible first | exact HB.out | apply below_alloc | apply pw_below_drewN | apply below_drew1 | refine below_set ?_ GE481.out) | exact HB.out)) hb); have n2_ := Aside0.mk (hbox); have n3_ := Aside0.mk ((by rw [hg]; exact (below_size (by repeat (first | (with_reducible first | exact HB.out | apply below_alloc | apply pw_below_drewN | apply below_drew1 | refine below_set ?_ GE481.out) | exact HB.out))) : w.heap.size ≤ gb482)); have n4_ := Aside0.mk ((by rw [hg]; exact (below_size (by repeat (first | (with_reducible first | exact HB.out | apply below_alloc | apply pw_below_drewN | apply below_drew1 | refine below_set ?_ GE481.out) | exact HB.out))) : w.heap.size ≤ gb482)); have n5_ := Aside0.mk ((by rw [hg]; exact Nat.ne_of_lt (blk_lt (g := gb481) (o := .cells #[.int .i64 a0_0, .int .i64 a0_1, .int .i64 a0_2, .int .i64 a0_3] 28 (0, 0)) (by (with_reducible repeat (first | refine blk_drewN ?_ _ | refine blk_drew ?_ | refine blk_alloc ?_ _)); exact BK481.out)) : gb481 ≠ gb482)); have n6_ := Aside0.mk ((by rw [hg]; exact Nat.ne_of_gt (blk_lt (g := gb481) (o := .cells #[.int .i64 a0_0, .int .i64 a0_1, .int .i64 a0_2, .int .i64 a0_3] 28 (0, 0)) (by (with_reducible repeat (first | refine blk_drewN ?_ _ | refine blk_drew ?_ | refine blk_alloc ?_ _)); exact BK481.out)) : gb482 ≠ gb481)); clear BK481; clear HB; have BK481 := n0_; have HB := n1_; have BK482 := n2_; have GW482 := n3_; have GE482 := n4_; have NB481_482 := n5_; have NB482_481 := n6_; clear n0_ n1_ n2_ n3_ n4_ n5_ n6_; clear hb hbox hg; have hnb14 := NB481_482.out; have hnc14 := NB482_481.out; have hcz15_0 : w13.cell? ⟨gb481, 0, none⟩ = some (.int .i64 a0_0) := (blk_cell BK481.out 0).trans rfl; have hcz15_1 : w13.cell? ⟨gb481, 1, none⟩ = some (.int .i64 a0_1) := (blk_cell BK481.out 1).trans rfl; have hcz15_2 : w13.cell? ⟨gb481, 2, none⟩ = some (.int .i64 a0_2) := (blk_cell BK481.out 2).trans rfl; have hcz15_3 : w13.cell? ⟨gb481, 3, none⟩ = some (.int .i64 a0_3) := (blk_cell BK481.out 3).trans rfl; have hfz15_0 := blk_frozen BK481.out 0; have hfz15_1 := blk_frozen BK481.out 1; have hfz15_2 := blk_frozen BK481.out 2; have hfz15_3 := blk_frozen BK481.out 3; have hcz16_0 : w13.cell? ⟨gb482, 0, none⟩ = some (.int .i64 a1_0) := (blk_cell BK482.out 0).trans rfl; have hcz16_1 : w13.cell? ⟨gb482, 1, none⟩ = some (.int .i64 a1_1) := (blk_cell BK482.out 1).trans rfl; have hcz16_2 : w13.cell? ⟨gb482, 2, none⟩ = some (.int .i64 a1_2) := (blk_cell BK482.out 2).trans rfl; have hcz16_3 : w13.cell? ⟨gb482, 3, none⟩ = some (.int .i64 a1_3) := (blk_cell BK482.out 3).trans rfl; have hfz16_0 := blk_frozen BK482.out 0; have hfz16_1 := blk_frozen BK482.out 1; have hfz16_2 := blk_frozen BK482.out 2; have hfz16_3 := blk_frozen BK482.out 3))
      repeat (go_quiet (first | ((with_reducible refine gate_dst (N := 2) rfl ?_); refine box_event ?hg (N := 2) ?hd (cs := #[.int .i64 a0_0, .int .i64 a0_1, .int .i64 a0_2, .int .i64 a0_3]) (t := 28) ?hr ?_; (case hd => rfl); (case hg => rfl); (case hr => first | (go_simp; done) | (go_simp; rfl)); intro gb481 hg w12 hbox hb; have n0_ := Aside0.mk (below_step (by repeat (first | (with_reducible first | exact HB.out | apply below_alloc | apply pw_below_drewN | apply below_drew1) | exact HB.out)) hb); have n1_ := Aside0.mk (hbox); have n2_ := Aside0.mk ((by rw [hg]; exact (below_size (by repeat (first | (with_reducible first | exact HB.out | apply below_alloc | apply pw_below_drewN | apply below_drew1) | exact HB.out))) : w.heap.size ≤ gb481)); have n3_ := Aside0.mk ((by rw [hg]; exact (below_size (by repeat (first | (with_reducible first | exact HB.out | apply below_alloc | apply pw_below_drewN | apply below_drew1) | exact HB.out))) : w.heap.size ≤ gb481)); clear HB; have HB := n0_; have BK481 := n1_; have GW481 := n2_; have GE481 := n3_; clear n0_ n1_ n2_ n3_; clear hb hbox hg) | ((with_reducible refine gate_dst (N := 3) rfl ?_); refine box_event ?hg (N := 3) ?hd (cs := #[.int .i64 a1_0, .int .i64 a1_1, .int .i64 a1_2, .int .i64 a1_3]) (t := 28) ?hr ?_; (case hd => rfl); (case hg => rfl); (case hr => first | (go_simp; done) | (go_simp; rfl)); intro gb482 hg w13 hbox hb; have n0_ := Aside0.mk (blk_below (g := gb481) (o := .cells #[.int .i64 a0_0, .int .i64 a0_1, .int .i64 a0_2, .int .i64 a0_3] 28 (0, 0)) (by (with_reducible repeat (first | refine blk_drewN ?_ _ | refine blk_drew ?_ | refine blk_alloc ?_ _)); exact BK481.out) hb); have n1_ := Aside0.mk (below_step (by repeat (first | (with_reducible first | exact HB.out | apply below_alloc | apply pw_below_drewN | apply below_drew1 | refine below_set ?_ GE481.out) | exact HB.out)) hb); have n2_ := Aside0.mk (hbox); have n3_ := Aside0.mk ((by rw [hg]; exact (below_size (by repeat (first | (with_reducible first | exact HB.out | apply below_alloc | apply pw_below_drewN | apply below_drew1 | refine below_set ?_ GE481.out) | exact HB.out))) : w.heap.size ≤ gb482)); have n4_ := Aside0.mk ((by rw [hg]; exact (below_size (by repeat (first | (with_reducible first | exact HB.out | apply below_alloc | apply pw_below_drewN | apply below_drew1 | refine below_set ?_ GE481.out) | exact HB.out))) : w.heap.size ≤ gb482)); have n5_ := Aside0.mk ((by rw [hg]; exact Nat.ne_of_lt (blk_lt (g := gb481) (o := .cells #[.int .i64 a0_0, .int .i64 a0_1, .int .i64 a0_2, .int .i64 a0_3] 28 (0, 0)) (by (with_reducible repeat (first | refine blk_drewN ?_ _ | refine blk_drew ?_ | refine blk_alloc ?_ _)); exact BK481.out)) : gb481 ≠ gb482)); have n6_ := Aside0.mk ((by rw [hg]; exact Nat.ne_of_gt (blk_lt (g := gb481) (o := .cells #[.int .i64 a0_0, .int .i64 a0_1, .int .i64 a0_2, .int .i64 a0_3] 28 (0, 0)) (by (with_reducible repeat (first | refine blk_drewN ?_ _ | refine blk_drew ?_ | refine blk_alloc ?_ _)); exact BK481.out)) : gb482 ≠ gb481)); clear BK481; clear HB; have BK481 := n0_; have HB := n1_; have BK482 := n2_; have GW482 := n3_; have GE482 := n4_; have NB481_482 := n5_; have NB482_481 := n6_; clear n0_ n1_ n2_ n3_ n4_ n5_ n6_; clear hb hbox hg; have hnb14 := NB481_482.out; have hnc14 := NB482_481.out; have hcz15_0 : w13.cell? ⟨gb481, 0, none⟩ = some (.int .i64 a0_0) := (blk_cell BK481.out 0).trans rfl; have hcz15_1 : w13.cell? ⟨gb481, 1, none⟩ = some (.int .i64 a0_1) := (blk_cell BK481.out 1).trans rfl; have hcz15_2 : w13.cell? ⟨gb481, 2, none⟩ = some (.int .i64 a0_2) := (blk_cell BK481.out 2).trans rfl; have hcz15_3 : w13.cell? ⟨gb481, 3, none⟩ = some (.int .i64 a0_3) := (blk_cell BK481.out 3).trans rfl; have hfz15_0 := blk_frozen BK481.out 0; have hfz15_1 := blk_frozen BK481.out 1; have hfz15_2 := blk_frozen BK481.out 2; have hfz15_3 := blk_frozen BK481.out 3; have hcz16_0 : w13.cell? ⟨gb482, 0, none⟩ = some (.int .i64 a1_0) := (blk_cell BK482.out 0).trans rfl; have hcz16_1 : w13.cell? ⟨gb482, 1, none⟩ = some (.int .i64 a1_1) := (blk_cell BK482.out 1).trans rfl; have hcz16_2 : w13.cell? ⟨gb482, 2, none⟩ = some (.int .i64 a1_2) := (blk_cell BK482.out 2).trans rfl; have hcz16_3 : w13.cell? ⟨gb482, 3, none⟩ = some (.int .i64 a1_3) := (blk_cell BK482.out 3).trans rfl; have hfz16_0 := blk_frozen BK482.out 0; have hfz16_1 := blk_frozen BK482.out 1; have hfz16_2 := blk_frozen BK482.out 2; have hfz16_3 := blk_frozen BK482.out 3)); try go_wp2_with (first | ((with_reducible refine gate_dst (N := 2) rfl ?_); refine box_event ?hg (N := 2) ?hd (cs := #[.int .i64 a0_0, .int .i64 a0_1, .int .i64 a0_2, .int .i64 a0_3]) (t := 28) ?hr ?_; (case hd => rfl); (case hg => rfl); (case hr => first | (go_simp; done) | (go_simp; rfl)); intro gb481 hg w12 hbox hb; have n0_ := Aside0.mk (below_step (by repeat (first | (with_reducible first | exact HB.out | apply below_alloc | apply pw_below_drewN | apply below_drew1) | exact HB.out)) hb); have n1_ := Aside0.mk (hbox); have n2_ := Aside0.mk ((by rw [hg]; exact (below_size (by repeat (first | (with_reducible first | exact HB.out | apply below_alloc | apply pw_below_drewN | apply below_drew1) | exact HB.out))) : w.heap.size ≤ gb481)); have n3_ := Aside0.mk ((by rw [hg]; exact (below_size (by repeat (first | (with_reducible first | exact HB.out | apply below_alloc | apply pw_below_drewN | apply below_drew1) | exact HB.out))) : w.heap.size ≤ gb481)); clear HB; have HB := n0_; have BK481 := n1_; have GW481 := n2_; have GE481 := n3_; clear n0_ n1_ n2_ n3_; clear hb hbox hg) | ((with_reducible refine gate_dst (N := 3) rfl ?_); refine box_event ?hg (N := 3) ?hd (cs := #[.int .i64 a1_0, .int .i64 a1_1, .int .i64 a1_2, .int .i64 a1_3]) (t := 28) ?hr ?_; (case hd => rfl); (case hg => rfl); (case hr => first | (go_simp; done) | (go_simp; rfl)); intro gb482 hg w13 hbox hb; have n0_ := Aside0.mk (blk_below (g := gb481) (o := .cells #[.int .i64 a0_0, .int .i64 a0_1, .int .i64 a0_2, .int .i64 a0_3] 28 (0, 0)) (by (with_reducible repeat (first | refine blk_drewN ?_ _ | refine blk_drew ?_ | refine blk_alloc ?_ _)); exact BK481.out) hb); have n1_ := Aside0.mk (below_step (by repeat (first | (with_reducible first | exact HB.out | apply below_alloc | apply pw_below_drewN | apply below_drew1 | refine below_set ?_ GE481.out) | exact HB.out)) hb); have n2_ := Aside0.mk (hbox); have n3_ := Aside0.mk ((by rw [hg]; exact (below_size (by repeat (first | (with_reducible first | exact HB.out | apply below_alloc | apply pw_below_drewN | apply below_drew1 | refine below_set ?_ GE481.out) | exact HB.out))) : w.heap.size ≤ gb482)); have n4_ := Aside0.mk ((by rw [hg]; exact (below_size (by repeat (first | (with_reducible first | exact HB.out | apply below_alloc | apply pw_below_drewN | apply below_drew1 | refine below_set ?_ GE481.out) | exact HB.out))) : w.heap.size ≤ gb482)); have n5_ := Aside0.mk ((by rw [hg]; exact Nat.ne_of_lt (blk_lt (g := gb481) (o := .cells #[.int .i64 a0_0, .int .i64 a0_1, .int .i64 a0_2, .int .i64 a0_3] 28 (0, 0)) (by (with_reducible repeat (first | refine blk_drewN ?_ _ | refine blk_drew ?_ | refine blk_alloc ?_ _)); exact BK481.out)) : gb481 ≠ gb482)); have n6_ := Aside0.mk ((by rw [hg]; exact Nat.ne_of_gt (blk_lt (g := gb481) (o := .cells #[.int .i64 a0_0, .int .i64 a0_1, .int .i64 a0_2, .int .i64 a0_3] 28 (0, 0)) (by (with_reducible repeat (first | refine blk_drewN ?_ _ | refine blk_drew ?_ | refine blk_alloc ?_ _)); exact BK481.out)) : gb482 ≠ gb481)); clear BK481; clear HB; have BK481 := n0_; have HB := n1_; have BK482 := n2_; have GW482 := n3_; have GE482 := n4_; have NB481_482 := n5_; have NB482_481 := n6_; clear n0_ n1_ n2_ n3_ n4_ n5_ n6_; clear hb hbox hg; have hnb14 := NB481_482.out; have hnc14 := NB482_481.out; have hcz15_0 : w13.cell? ⟨gb481, 0, none⟩ = some (.int .i64 a0_0) := (blk_cell BK481.out 0).trans rfl; have hcz15_1 : w13.cell? ⟨gb481, 1, none⟩ = some (.int .i64 a0_1) := (blk_cell BK481.out 1).trans rfl; have hcz15_2 : w13.cell? ⟨gb481, 2, none⟩ = some (.int .i64 a0_2) := (blk_cell BK481.out 2).trans rfl; have hcz15_3 : w13.cell? ⟨gb481, 3, none⟩ = some (.int .i64 a0_3) := (blk_cell BK481.out 3).trans rfl; have hfz15_0 := blk_frozen BK481.out 0; have hfz15_1 := blk_frozen BK481.out 1; have hfz15_2 := blk_frozen BK481.out 2; have hfz15_3 := blk_frozen BK481.out 3; have hcz16_0 : w13.cell? ⟨gb482, 0, none⟩ = some (.int .i64 a1_0) := (blk_cell BK482.out 0).trans rfl; have hcz16_1 : w13.cell? ⟨gb482, 1, none⟩ = some (.int .i64 a1_1) := (blk_cell BK482.out 1).trans rfl; have hcz16_2 : w13.cell? ⟨gb482, 2, none⟩ = some (.int .i64 a1_2) := (blk_cell BK482.out 2).trans rfl; have hcz16_3 : w13.cell? ⟨gb482, 3, none⟩ = some (.int .i64 a1_3) := (blk_cell BK482.out 3).trans rfl; have hfz16_0 := blk_frozen BK482.out 0; have hfz16_1 := blk_frozen BK482.out 1; have hfz16_2 := blk_frozen BK482.out 2; have hfz16_3 := blk_frozen BK482.out 3)))
      go_ret2
      exact ⟨by first | rfl | (simp [errW_none, errW_some] <;> rfl) | (simp only [← hji3, ← hji4]; first | rfl | (simp [errW_none, errW_some] <;> rfl)) | (simp [*, errW_none, errW_some] <;> rfl), by repeat (first | (with_reducible first | exact HB.out | apply below_alloc | apply pw_below_drewN | apply below_drew1 | refine below_set ?_ GE481.out | refine below_set ?_ GE482.out) | exact HB.out)⟩
  · rw [if_neg c5] at H
    have c5b0 : (a0_0 == a1_0) = false := beq_eq_false_iff_ne.mpr c5
    have c5b1 : (a0_0 != a1_0) = true := bne_iff_ne.mpr c5
    simp only [Option.some.injEq, Prod.mk.injEq] at H
    obtain ⟨rfl, rfl⟩ := H
    go_enter Try.func128, Try.ntmps128
    go_wp2_with (first | ((with_reducible refine gate_dst (N := 2) rfl ?_); refine box_event ?hg (N := 2) ?hd (cs := #[.int .i64 a0_0, .int .i64 a0_1, .int .i64 a0_2, .int .i64 a0_3]) (t := 28) ?hr ?_; (case hd => rfl); (case hg => rfl); (case hr => first | (go_simp; done) | (go_simp; rfl)); intro gb481 hg w17 hbox hb; have n0_ := Aside0.mk (below_step (by repeat (first | (with_reducible first | exact HB.out | apply below_alloc | apply pw_below_drewN | apply below_drew1) | exact HB.out)) hb); have n1_ := Aside0.mk (hbox); have n2_ := Aside0.mk ((by rw [hg]; exact (below_size (by repeat (first | (with_reducible first | exact HB.out | apply below_alloc | apply pw_below_drewN | apply below_drew1) | exact HB.out))) : w.heap.size ≤ gb481)); have n3_ := Aside0.mk ((by rw [hg]; exact (below_size (by repeat (first | (with_reducible first | exact HB.out | apply below_alloc | apply pw_below_drewN | apply below_drew1) | exact HB.out))) : w.heap.size ≤ gb481)); clear HB; have HB := n0_; have BK481 := n1_; have GW481 := n2_; have GE481 := n3_; clear n0_ n1_ n2_ n3_; clear hb hbox hg) | ((with_reducible refine gate_dst (N := 3) rfl ?_); refine box_event ?hg (N := 3) ?hd (cs := #[.int .i64 a1_0, .int .i64 a1_1, .int .i64 a1_2, .int .i64 a1_3]) (t := 28) ?hr ?_; (case hd => rfl); (case hg => rfl); (case hr => first | (go_simp; done) | (go_simp; rfl)); intro gb482 hg w18 hbox hb; have n0_ := Aside0.mk (blk_below (g := gb481) (o := .cells #[.int .i64 a0_0, .int .i64 a0_1, .int .i64 a0_2, .int .i64 a0_3] 28 (0, 0)) (by (with_reducible repeat (first | refine blk_drewN ?_ _ | refine blk_drew ?_ | refine blk_alloc ?_ _)); exact BK481.out) hb); have n1_ := Aside0.mk (below_step (by repeat (first | (with_reducible first | exact HB.out | apply below_alloc | apply pw_below_drewN | apply below_drew1 | refine below_set ?_ GE481.out) | exact HB.out)) hb); have n2_ := Aside0.mk (hbox); have n3_ := Aside0.mk ((by rw [hg]; exact (below_size (by repeat (first | (with_reducible first | exact HB.out | apply below_alloc | apply pw_below_drewN | apply below_drew1 | refine below_set ?_ GE481.out) | exact HB.out))) : w.heap.size ≤ gb482)); have n4_ := Aside0.mk ((by rw [hg]; exact (below_size (by repeat (first | (with_reducible first | exact HB.out | apply below_alloc | apply pw_below_drewN | apply below_drew1 | refine below_set ?_ GE481.out) | exact HB.out))) : w.heap.size ≤ gb482)); have n5_ := Aside0.mk ((by rw [hg]; exact Nat.ne_of_lt (blk_lt (g := gb481) (o := .cells #[.int .i64 a0_0, .int .i64 a0_1, .int .i64 a0_2, .int .i64 a0_3] 28 (0, 0)) (by (with_reducible repeat (first | refine blk_drewN ?_ _ | refine blk_drew ?_ | refine blk_alloc ?_ _)); exact BK481.out)) : gb481 ≠ gb482)); have n6_ := Aside0.mk ((by rw [hg]; exact Nat.ne_of_gt (blk_lt (g := gb481) (o := .cells #[.int .i64 a0_0, .int .i64 a0_1, .int .i64 a0_2, .int .i64 a0_3] 28 (0, 0)) (by (with_reducible repeat (first | refine blk_drewN ?_ _ | refine blk_drew ?_ | refine blk_alloc ?_ _)); exact BK481.out)) : gb482 ≠ gb481)); clear BK481; clear HB; have BK481 := n0_; have HB := n1_; have BK482 := n2_; have GW482 := n3_; have GE482 := n4_; have NB481_482 := n5_; have NB482_481 := n6_; clear n0_ n1_ n2_ n3_ n4_ n5_ n6_; clear hb hbox hg; have hnb19 := NB481_482.out; have hnc19 := NB482_481.out; have hcz20_0 : w18.cell? ⟨gb481, 0, none⟩ = some (.int .i64 a0_0) := (blk_cell BK481.out 0).trans rfl; have hcz20_1 : w18.cell? ⟨gb481, 1, none⟩ = some (.int .i64 a0_1) := (blk_cell BK481.out 1).trans rfl; have hcz20_2 : w18.cell? ⟨gb481, 2, none⟩ = some (.int .i64 a0_2) := (blk_cell BK481.out 2).trans rfl; have hcz20_3 : w18.cell? ⟨gb481, 3, none⟩ = some (.int .i64 a0_3) := (blk_cell BK481.out 3).trans rfl; have hfz20_0 := blk_frozen BK481.out 0; have hfz20_1 := blk_frozen BK481.out 1; have hfz20_2 := blk_frozen BK481.out 2; have hfz20_3 := blk_frozen BK481.out 3; have hcz21_0 : w18.cell? ⟨gb482, 0, none⟩ = some (.int .i64 a1_0) := (blk_cell BK482.out 0).trans rfl; have hcz21_1 : w18.cell? ⟨gb482, 1, none⟩ = some (.int .i64 a1_1) := (blk_cell BK482.out 1).trans rfl; have hcz21_2 : w18.cell? ⟨gb482, 2, none⟩ = some (.int .i64 a1_2) := (blk_cell BK482.out 2).trans rfl; have hcz21_3 : w18.cell? ⟨gb482, 3, none⟩ = some (.int .i64 a1_3) := (blk_cell BK482.out 3).trans rfl; have hfz21_0 := blk_frozen BK482.out 0; have hfz21_1 := blk_frozen BK482.out 1; have hfz21_2 := blk_frozen BK482.out 2; have hfz21_3 := blk_frozen BK482.out 3))
    repeat (go_quiet (first | ((with_reducible refine gate_dst (N := 2) rfl ?_); refine box_event ?hg (N := 2) ?hd (cs := #[.int .i64 a0_0, .int .i64 a0_1, .int .i64 a0_2, .int .i64 a0_3]) (t := 28) ?hr ?_; (case hd => rfl); (case hg => rfl); (case hr => first | (go_simp; done) | (go_simp; rfl)); intro gb481 hg w17 hbox hb; have n0_ := Aside0.mk (below_step (by repeat (first | (with_reducible first | exact HB.out | apply below_alloc | apply pw_below_drewN | apply below_drew1) | exact HB.out)) hb); have n1_ := Aside0.mk (hbox); have n2_ := Aside0.mk ((by rw [hg]; exact (below_size (by repeat (first | (with_reducible first | exact HB.out | apply below_alloc | apply pw_below_drewN | apply below_drew1) | exact HB.out))) : w.heap.size ≤ gb481)); have n3_ := Aside0.mk ((by rw [hg]; exact (below_size (by repeat (first | (with_reducible first | exact HB.out | apply below_alloc | apply pw_below_drewN | apply below_drew1) | exact HB.out))) : w.heap.size ≤ gb481)); clear HB; have HB := n0_; have BK481 := n1_; have GW481 := n2_; have GE481 := n3_; clear n0_ n1_ n2_ n3_; clear hb hbox hg) | ((with_reducible refine gate_dst (N := 3) rfl ?_); refine box_event ?hg (N := 3) ?hd (cs := #[.int .i64 a1_0, .int .i64 a1_1, .int .i64 a1_2, .int .i64 a1_3]) (t := 28) ?hr ?_; (case hd => rfl); (case hg => rfl); (case hr => first | (go_simp; done) | (go_simp; rfl)); intro gb482 hg w18 hbox hb; have n0_ := Aside0.mk (blk_below (g := gb481) (o := .cells #[.int .i64 a0_0, .int .i64 a0_1, .int .i64 a0_2, .int .i64 a0_3] 28 (0, 0)) (by (with_reducible repeat (first | refine blk_drewN ?_ _ | refine blk_drew ?_ | refine blk_alloc ?_ _)); exact BK481.out) hb); have n1_ := Aside0.mk (below_step (by repeat (first | (with_reducible first | exact HB.out | apply below_alloc | apply pw_below_drewN | apply below_drew1 | refine below_set ?_ GE481.out) | exact HB.out)) hb); have n2_ := Aside0.mk (hbox); have n3_ := Aside0.mk ((by rw [hg]; exact (below_size (by repeat (first | (with_reducible first | exact HB.out | apply below_alloc | apply pw_below_drewN | apply below_drew1 | refine below_set ?_ GE481.out) | exact HB.out))) : w.heap.size ≤ gb482)); have n4_ := Aside0.mk ((by rw [hg]; exact (below_size (by repeat (first | (with_reducible first | exact HB.out | apply below_alloc | apply pw_below_drewN | apply below_drew1 | refine below_set ?_ GE481.out) | exact HB.out))) : w.heap.size ≤ gb482)); have n5_ := Aside0.mk ((by rw [hg]; exact Nat.ne_of_lt (blk_lt (g := gb481) (o := .cells #[.int .i64 a0_0, .int .i64 a0_1, .int .i64 a0_2, .int .i64 a0_3] 28 (0, 0)) (by (with_reducible repeat (first | refine blk_drewN ?_ _ | refine blk_drew ?_ | refine blk_alloc ?_ _)); exact BK481.out)) : gb481 ≠ gb482)); have n6_ := Aside0.mk ((by rw [hg]; exact Nat.ne_of_gt (blk_lt (g := gb481) (o := .cells #[.int .i64 a0_0, .int .i64 a0_1, .int .i64 a0_2, .int .i64 a0_3] 28 (0, 0)) (by (with_reducible repeat (first | refine blk_drewN ?_ _ | refine blk_drew ?_ | refine blk_alloc ?_ _)); exact BK481.out)) : gb482 ≠ gb481)); clear BK481; clear HB; have BK481 := n0_; have HB := n1_; have BK482 := n2_; have GW482 := n3_; have GE482 := n4_; have NB481_482 := n5_; have NB482_481 := n6_; clear n0_ n1_ n2_ n3_ n4_ n5_ n6_; clear hb hbox hg; have hnb19 := NB481_482.out; have hnc19 := NB482_481.out; have hcz20_0 : w18.cell? ⟨gb481, 0, none⟩ = some (.int .i64 a0_0) := (blk_cell BK481.out 0).trans rfl; have hcz20_1 : w18.cell? ⟨gb481, 1, none⟩ = some (.int .i64 a0_1) := (blk_cell BK481.out 1).trans rfl; have hcz20_2 : w18.cell? ⟨gb481, 2, none⟩ = some (.int .i64 a0_2) := (blk_cell BK481.out 2).trans rfl; have hcz20_3 : w18.cell? ⟨gb481, 3, none⟩ = some (.int .i64 a0_3) := (blk_cell BK481.out 3).trans rfl; have hfz20_0 := blk_frozen BK481.out 0; have hfz20_1 := blk_frozen BK481.out 1; have hfz20_2 := blk_frozen BK481.out 2; have hfz20_3 := blk_frozen BK481.out 3; have hcz21_0 : w18.cell? ⟨gb482, 0, none⟩ = some (.int .i64 a1_0) := (blk_cell BK482.out 0).trans rfl; have hcz21_1 : w18.cell? ⟨gb482, 1, none⟩ = some (.int .i64 a1_1) := (blk_cell BK482.out 1).trans rfl; have hcz21_2 : w18.cell? ⟨gb482, 2, none⟩ = some (.int .i64 a1_2) := (blk_cell BK482.out 2).trans rfl; have hcz21_3 : w18.cell? ⟨gb482, 3, none⟩ = some (.int .i64 a1_3) := (blk_cell BK482.out 3).trans rfl; have hfz21_0 := blk_frozen BK482.out 0; have hfz21_1 := blk_frozen BK482.out 1; have hfz21_2 := blk_frozen BK482.out 2; have hfz21_3 := blk_frozen BK482.out 3)); try go_wp2_with (first | ((with_reducible refine gate_dst (N := 2) rfl ?_); refine box_event ?hg (N := 2) ?hd (cs := #[.int .i64 a0_0, .int .i64 a0_1, .int .i64 a0_2, .int .i64 a0_3]) (t := 28) ?hr ?_; (case hd => rfl); (case hg => rfl); (case hr => first | (go_simp; done) | (go_simp; rfl)); intro gb481 hg w17 hbox hb; have n0_ := Aside0.mk (below_step (by repeat (first | (with_reducible first | exact HB.out | apply below_alloc | apply pw_below_drewN | apply below_drew1) | exact HB.out)) hb); have n1_ := Aside0.mk (hbox); have n2_ := Aside0.mk ((by rw [hg]; exact (below_size (by repeat (first | (with_reducible first | exact HB.out | apply below_alloc | apply pw_below_drewN | apply below_drew1) | exact HB.out))) : w.heap.size ≤ gb481)); have n3_ := Aside0.mk ((by rw [hg]; exact (below_size (by repeat (first | (with_reducible first | exact HB.out | apply below_alloc | apply pw_below_drewN | apply below_drew1) | exact HB.out))) : w.heap.size ≤ gb481)); clear HB; have HB := n0_; have BK481 := n1_; have GW481 := n2_; have GE481 := n3_; clear n0_ n1_ n2_ n3_; clear hb hbox hg) | ((with_reducible refine gate_dst (N := 3) rfl ?_); refine box_event ?hg (N := 3) ?hd (cs := #[.int .i64 a1_0, .int .i64 a1_1, .int .i64 a1_2, .int .i64 a1_3]) (t := 28) ?hr ?_; (case hd => rfl); (case hg => rfl); (case hr => first | (go_simp; done) | (go_simp; rfl)); intro gb482 hg w18 hbox hb; have n0_ := Aside0.mk (blk_below (g := gb481) (o := .cells #[.int .i64 a0_0, .int .i64 a0_1, .int .i64 a0_2, .int .i64 a0_3] 28 (0, 0)) (by (with_reducible repeat (first | refine blk_drewN ?_ _ | refine blk_drew ?_ | refine blk_alloc ?_ _)); exact BK481.out) hb); have n1_ := Aside0.mk (below_step (by repeat (first | (with_reducible first | exact HB.out | apply below_alloc | apply pw_below_drewN | apply below_drew1 | refine below_set ?_ GE481.out) | exact HB.out)) hb); have n2_ := Aside0.mk (hbox); have n3_ := Aside0.mk ((by rw [hg]; exact (below_size (by repeat (first | (with_reducible first | exact HB.out | apply below_alloc | apply pw_below_drewN | apply below_drew1 | refine below_set ?_ GE481.out) | exact HB.out))) : w.heap.size ≤ gb482)); have n4_ := Aside0.mk ((by rw [hg]; exact (below_size (by repeat (first | (with_reducible first | exact HB.out | apply below_alloc | apply pw_below_drewN | apply below_drew1 | refine below_set ?_ GE481.out) | exact HB.out))) : w.heap.size ≤ gb482)); have n5_ := Aside0.mk ((by rw [hg]; exact Nat.ne_of_lt (blk_lt (g := gb481) (o := .cells #[.int .i64 a0_0, .int .i64 a0_1, .int .i64 a0_2, .int .i64 a0_3] 28 (0, 0)) (by (with_reducible repeat (first | refine blk_drewN ?_ _ | refine blk_drew ?_ | refine blk_alloc ?_ _)); exact BK481.out)) : gb481 ≠ gb482)); have n6_ := Aside0.mk ((by rw [hg]; exact Nat.ne_of_gt (blk_lt (g := gb481) (o := .cells #[.int .i64 a0_0, .int .i64 a0_1, .int .i64 a0_2, .int .i64 a0_3] 28 (0, 0)) (by (with_reducible repeat (first | refine blk_drewN ?_ _ | refine blk_drew ?_ | refine blk_alloc ?_ _)); exact BK481.out)) : gb482 ≠ gb481)); clear BK481; clear HB; have BK481 := n0_; have HB := n1_; have BK482 := n2_; have GW482 := n3_; have GE482 := n4_; have NB481_482 := n5_; have NB482_481 := n6_; clear n0_ n1_ n2_ n3_ n4_ n5_ n6_; clear hb hbox hg; have hnb19 := NB481_482.out; have hnc19 := NB482_481.out; have hcz20_0 : w18.cell? ⟨gb481, 0, none⟩ = some (.int .i64 a0_0) := (blk_cell BK481.out 0).trans rfl; have hcz20_1 : w18.cell? ⟨gb481, 1, none⟩ = some (.int .i64 a0_1) := (blk_cell BK481.out 1).trans rfl; have hcz20_2 : w18.cell? ⟨gb481, 2, none⟩ = some (.int .i64 a0_2) := (blk_cell BK481.out 2).trans rfl; have hcz20_3 : w18.cell? ⟨gb481, 3, none⟩ = some (.int .i64 a0_3) := (blk_cell BK481.out 3).trans rfl; have hfz20_0 := blk_frozen BK481.out 0; have hfz20_1 := blk_frozen BK481.out 1; have hfz20_2 := blk_frozen BK481.out 2; have hfz20_3 := blk_frozen BK481.out 3; have hcz21_0 : w18.cell? ⟨gb482, 0, none⟩ = some (.int .i64 a1_0) := (blk_cell BK482.out 0).trans rfl; have hcz21_1 : w18.cell? ⟨gb482, 1, none⟩ = some (.int .i64 a1_1) := (blk_cell BK482.out 1).trans rfl; have hcz21_2 : w18.cell? ⟨gb482, 2, none⟩ = some (.int .i64 a1_2) := (blk_cell BK482.out 2).trans rfl; have hcz21_3 : w18.cell? ⟨gb482, 3, none⟩ = some (.int .i64 a1_3) := (blk_cell BK482.out 3).trans rfl; have hfz21_0 := blk_frozen BK482.out 0; have hfz21_1 := blk_frozen BK482.out 1; have hfz21_2 := blk_frozen BK482.out 2; have hfz21_3 := blk_frozen BK482.out 3)))
    go_ret2
    exact ⟨by first | rfl | (simp [errW_none, errW_some] <;> rfl) | (simp only [← hji3, ← hji4]; first | rfl | (simp [errW_none, errW_some] <;> rfl)) | (simp [*, errW_none, errW_some] <;> rfl), by repeat (first | (with_reducible first | exact HB.out | apply below_alloc | apply pw_below_drewN | apply below_drew1 | refine below_set ?_ GE481.out | refine below_set ?_ GE482.out) | exact HB.out)⟩

end Go.Proofs.Ytpbboooeahmgpaa.P


namespace Go.Proofs.Ytpbboooeahmgpaa.P
open Go.RowKit Go.Proofs.YtpbboooeahmgpaaW.PrintWords Go.Proofs.YtpbboooeahmgpaaW.PrintLast Go.Proofs.YtpbboooeahmgpaaW.PrintMore
attribute [local go_sem] max2_int min2_int max_two min_two max_three min_three max_four min_four   -- for this text's walks alone
set_option linter.unusedVariables false
set_option linter.unusedSimpArgs false

/-! ### impl_areShared: function 115 -/
def impl_areShared.f (a0_0 : Int) (a0_1 : Int) (a0_2 : Int) (a0_3 : Int) (a1_0 : Int) (a1_1 : Int) (a1_2 : Int) (a1_3 : Int) : Option (Bool) := (impl_common.f a0_0 a0_1 a0_2 a0_3 a1_0 a1_1 a1_2 a1_3).bind fun bt485 => (some (decide (bt485.1 > 0)))
set_option maxHeartbeats 8000000 in
set_option maxRecDepth 100000 in
theorem impl_areShared.calls (a0_0 : Int) (a0_1 : Int) (a0_2 : Int) (a0_3 : Int) (a1_0 : Int) (a1_1 : Int) (a1_2 : Int) (a1_3 : Int) (r : Bool) (w : World) (h : impl_areShared.f a0_0 a0_1 a0_2 a0_3 a1_0 a1_1 a1_2 a1_3 = some r) :
    Calls Try.prog 115 #[.agg #[.int .i64 a0_0, .int .i64 a0_1, .int .i64 a0_2, .int .i64 a0_3], .agg #[.int .i64 a1_0, .int .i64 a1_1, .int .i64 a1_2, .int .i64 a1_3]] w fun e w' => e = .returned (.bool r) ∧ Below w.heap.size w w' := by
  have hu28 := Try.underlying28
  have HB := Aside0.mk (Below.refl w.heap.size w)
  have H : ((impl_common.f a0_0 a0_1 a0_2 a0_3 a1_0 a1_1 a1_2 a1_3).bind fun bt485 => (some (decide (bt485.1 > 0)))) = some r := h
  clear h
  replace H := Option.bind_eq_some_iff.mp H
  obtain ⟨⟨t485, t486⟩, A30, H⟩ := H
  replace H : (some (decide (t485 > 0))) = some r := H
  have A3 := Aside0.mk A30
  clear A30
  obtain rfl := Option.some.inj H
  go_enter Try.func115, Try.ntmps115
  go_wp2_with (first | ((with_reducible refine gate_dst (N := 2) rfl ?_); refine box_event ?hg (N := 2) ?hd (cs := #[.int .i64 a0_0, .int .i64 a0_1, .int .i64 a0_2, .int .i64 a0_3]) (t := 28) ?hr ?_; (case hd => rfl); (case hg => rfl); (case hr => first | (go_simp; done) | (go_simp; rfl)); intro gb483 hg w4 hbox hb; have n0_ := Aside0.mk (below_step (by repeat (first | (with_reducible first | exact HB.out | apply below_alloc | apply pw_below_drewN | apply below_drew1) | exact HB.out)) hb); have n1_ := Aside0.mk (hbox); have n2_ := Aside0.mk ((by rw [hg]; exact (below_size (by repeat (first | (with_reducible first | exact HB.out | apply below_alloc | apply pw_below_drewN | apply below_drew1) | exact HB.out))) : w.heap.size ≤ gb483)); have n3_ := Aside0.mk ((by rw [hg]; exact (below_size (by repeat (first | (with_reducible first | exact HB.out | apply below_alloc | apply pw_below_drewN | apply below_drew1) | exact HB.out))) : w.heap.size ≤ gb483)); clear HB; have HB := n0_; have BK483 := n1_; have GW483 := n2_; have GE483 := n3_; clear n0_ n1_ n2_ n3_; clear hb hbox hg) | ((with_reducible refine gate_dst (N := 3) rfl ?_); refine box_event ?hg (N := 3) ?hd (cs := #[.int .i64 a1_0, .int .i64 a1_1, .int .i64 a1_2, .int .i64 a1_3]) (t := 28) ?hr ?_; (case hd => rfl); (case hg => rfl); (case hr => first | (go_simp; done) | (go_simp; rfl)); intro gb484 hg w5 hbox hb; have n0_ := Aside0.mk (blk_below (g := gb483) (o := .cells #[.int .i64 a0_0, .int .i64 a0_1, .int .i64 a0_2, .int .i64 a0_3] 28 (0, 0)) (by (with_reducible repeat (first | refine blk_drewN ?_ _ | refine blk_drew ?_ | refine blk_alloc ?_ _)); exact BK483.out) hb); have n1_ := Aside0.mk (below_step (by repeat (first | (with_reducible first | exact HB.out | apply below_alloc | apply pw_below_drewN | apply below_drew1 | refine below_set ?_ GE483.out) | exact HB.out)) hb); have n2_ := Aside0.mk (hbox); have n3_ := Aside0.mk ((by rw [hg]; exact (below_size (by repeat (first | (with_reducible first | exact HB.out | apply below_alloc | apply pw_below_drewN | apply below_drew1 | refine below_set ?_ GE483.out) | exact HB.out))) : w.heap.size ≤ gb484)); have n4_ := Aside0.mk ((by rw [hg]; exact (below_size (by repeat (first | (with_reducible first | exact HB.out | apply below_alloc | apply pw_below_drewN | apply below_drew1 | refine below_set ?_ GE483.out) | exact HB.out))) : w.heap.size ≤ gb484)); have n5_ := Aside0.mk ((by rw [hg]; exact Nat.ne_of_lt (blk_lt (g := gb483) (o := .cells #[.int .i64 a0_0, .int .i64 a0_1, .int .i64 a0_2, .int .i64 a0_3] 28 (0, 0)) (by (with_reducible repeat (first | refine blk_drewN ?_ _ | refine blk_drew ?_ | refine blk_alloc ?_ _)); exact BK483.out)) : gb483 ≠ gb484)); have n6_ := Aside0.mk ((by rw [hg]; exact Nat.ne_of_gt (blk_lt (g := gb483) (o := .cells #[.int .i64 a0_0, .int .i64 a0_1, .int .i64 a0_2, .int .i64 a0_3] 28 (0, 0)) (by (with_reducible repeat (first | refine blk_drewN ?_ _ | refine blk_drew ?_ | refine blk_alloc ?_ _)); exact BK483.out)) : gb484 ≠ gb483)); clear BK483; clear HB; have BK483 := n0_; have HB := n1_; have BK484 := n2_; have GW484 := n3_; have GE484 := n4_; have NB483_484 := n5_; have NB484_483 := n6_; clear n0_ n1_ n2_ n3_ n4_ n5_ n6_; clear hb hbox hg; have hnb6 := NB483_484.out; have hnc6 := NB484_483.out; have hcz7_0 : w5.cell? ⟨gb483, 0, none⟩ = some (.int .i64 a0_0) := (blk_cell BK483.out 0).trans rfl; have hcz7_1 : w5.cell? ⟨gb483, 1, none⟩ = some (.int .i64 a0_1) := (blk_cell BK483.out 1).trans rfl; have hcz7_2 : w5.cell? ⟨gb483, 2, none⟩ = some (.int .i64 a0_2) := (blk_cell BK483.out 2).trans rfl; have hcz7_3 : w5.cell? ⟨gb483, 3, none⟩ = some (.int .i64 a0_3) := (blk_cell BK483.out 3).trans rfl; have hfz7_0 := blk_frozen BK483.out 0; have hfz7_1 := blk_frozen BK483.out 1; have hfz7_2 := blk_frozen BK483.out 2; have hfz7_3 := blk_frozen BK483.out 3; have hcz8_0 : w5.cell? ⟨gb484, 0, none⟩ = some (.int .i64 a1_0) := (blk_cell BK484.out 0).trans rfl; have hcz8_1 : w5.cell? ⟨gb484, 1, none⟩ = some (.int .i64 a1_1) := (blk_cell BK484.out 1).trans rfl; have hcz8_2 : w5.cell? ⟨gb484, 2, none⟩ = some (.int .i64 a1_2) := (blk_cell BK484.out 2).trans rfl; have hcz8_3 : w5.cell? ⟨gb484, 3, none⟩ = some (.int .i64 a1_3) := (blk_cell BK484.out 3).trans rfl; have hfz8_0 := blk_frozen BK484.out 0; have hfz8_1 := blk_frozen BK484.out 1; have hfz8_2 := blk_frozen BK484.out 2; have hfz8_3 := blk_frozen BK484.out 3) | ((with_reducible refine gate_callee (f := 128) rfl ?_); refine goesL_ (some 10) rfl rfl Try.func128 (by kernel_rfl) rfl #[.agg #[.int .i64 a0_0, .int .i64 a0_1, .int .i64 a0_2, .int .i64 a0_3], .agg #[.int .i64 a1_0, .int .i64 a1_1, .int .i64 a1_2, .int .i64 a1_3]] rfl (by (try simp only [List.map_toArray, List.map_cons, List.map_nil]); first | done | rfl | (simp only [List.length_drop, List.length_take]; rfl)) ?_; (with_reducible refine (impl_common.calls a0_0 a0_1 a0_2 a0_3 a1_0 a1_1 a1_2 a1_3 t485 t486 _ A3.out).mono ?_); rintro e w9 ⟨rfl, hb⟩; refine ⟨_, rfl, ?_⟩; have n0_ := Aside0.mk (blk_below (g := gb483) (o := .cells #[.int .i64 a0_0, .int .i64 a0_1, .int .i64 a0_2, .int .i64 a0_3] 28 (0, 0)) (by (with_reducible repeat (first | refine blk_drewN ?_ _ | refine blk_drew ?_ | refine blk_alloc ?_ _)); exact BK483.out) hb); have n1_ := Aside0.mk (blk_below (g := gb484) (o := .cells #[.int .i64 a1_0, .int .i64 a1_1, .int .i64 a1_2, .int .i64 a1_3] 28 (0, 0)) (by (with_reducible repeat (first | refine blk_drewN ?_ _ | refine blk_drew ?_ | refine blk_alloc ?_ _)); exact BK484.out) hb); have n2_ := Aside0.mk (below_step (by repeat (first | (with_reducible first | exact HB.out | apply below_alloc | apply pw_below_drewN | apply below_drew1 | refine below_set ?_ GE483.out | refine below_set ?_ GE484.out) | exact HB.out)) hb); clear BK483; clear BK484; clear HB; have BK483 := n0_; have BK484 := n1_; have HB := n2_; clear n0_ n1_ n2_; (try clear hb); (try clear hb2); (try clear hk); (try clear hi)))
  go_ret
  exact ⟨by first | rfl | (simp [errW_none, errW_some] <;> rfl) | (simp [*, errW_none, errW_some] <;> rfl), by repeat (first | (with_reducible first | exact HB.out | apply below_alloc | apply pw_below_drewN | apply below_drew1 | refine below_set ?_ GE483.out | refine below_set ?_ GE484.out) | exact HB.out)⟩

end Go.Proofs.Ytpbboooeahmgpaa.P


namespace Go.Proofs.Ytpbboooeahmgpaa.P
open Go.RowKit Go.Proofs.YtpbboooeahmgpaaW.PrintWords Go.Proofs.YtpbboooeahmgpaaW.PrintLast Go.Proofs.YtpbboooeahmgpaaW.PrintMore
attribute [local go_sem] max2_int min2_int max_two min_two max_three min_three max_four min_four   -- for this text's walks alone
set_option linter.unusedVariables false
set_option linter.unusedSimpArgs false

/-! ### impl_inConflict: function 78 -/
def impl_inConflict.f (a0_0 : Int) (a0_1 : Int) (a0_2 : Int) (a0_3 : Int) (a0_4 : Bool) (a0_5 : Int) (a0_6 : Int) (a1_0 : Int) (a1_1 : Int) (a1_2 : Int) (a1_3 : Int) (a1_4 : Bool) (a1_5 : Int) (a1_6 : Int) : Option (Bool) := if a0_4 = true then ((impl_areShared.f a0_0 a0_1 a0_2 a0_3 a1_0 a1_1 a1_2 a1_3).bind fun t489 => (if t489 = true then (some (decide ((mx a0_5 a1_5) < (mn a0_6 a1_6)))) else (some false))) else (if a1_4 = true then ((impl_areShared.f a0_0 a0_1 a0_2 a0_3 a1_0 a1_1 a1_2 a1_3).bind fun t490 => (if t490 = true then (some (decide ((mx a0_5 a1_5) < (mn a0_6 a1_6)))) else (some false))) else (some false))
set_option maxHeartbeats 8000000 in
set_option maxRecDepth 100000 in
theorem impl_inConflict.calls (a0_0 : Int) (a0_1 : Int) (a0_2 : Int) (a0_3 : Int) (a0_4 : Bool) (a0_5 : Int) (a0_6 : Int) (a1_0 : Int) (a1_1 : Int) (a1_2 : Int) (a1_3 : Int) (a1_4 : Bool) (a1_5 : Int) (a1_6 : Int) (r : Bool) (w : World) (h : impl_inConflict.f a0_0 a0_1 a0_2 a0_3 a0_4 a0_5 a0_6 a1_0 a1_1 a1_2 a1_3 a1_4 a1_5 a1_6 = some r) :
    Calls Try.prog 78 #[.agg #[.int .i64 a0_0, .int .i64 a0_1, .int .i64 a0_2, .int .i64 a0_3, .bool a0_4, .int .i64 a0_5, .int .i64 a0_6], .agg #[.int .i64 a1_0, .int .i64 a1_1, .int .i64 a1_2, .int .i64 a1_3, .bool a1_4, .int .i64 a1_5, .int .i64 a1_6]] w fun e w' => e = .returned (.bool r) ∧ Below w.heap.size w w' := by
  have hu30 := Try.underlying30
  have hu28 := Try.underlying28
  have HB := Aside0.mk (Below.refl w.heap.size w)
  have H : (if a0_4 = true then ((impl_areShared.f a0_0 a0_1 a0_2 a0_3 a1_0 a1_1 a1_2 a1_3).bind fun t489 => (if t489 = true then (some (decide ((mx a0_5 a1_5) < (mn a0_6 a1_6)))) else (some false))) else (if a1_4 = true then ((impl_areShared.f a0_0 a0_1 a0_2 a0_3 a1_0 a1_1 a1_2 a1_3).bind fun t490 => (if t490 = true then (some (decide ((mx a0_5 a1_5) < (mn a0_6 a1_6)))) else (some false))) else (some false))) = some r := h
  clear h
  by_cases c3 : a0_4 = true
  · subst c3
    have H1 : ((impl_areShared.f a0_0 a0_1 a0_2 a0_3 a1_0 a1_1 a1_2 a1_3).bind fun t489 => (if t489 = true then (some (decide ((mx a0_5 a1_5) < (mn a0_6 a1_6)))) else (some false))) = some r := by rw [if_pos rfl] at H; exact H
    clear H
    have H := H1
    clear H1
    replace H := Option.bind_eq_some_iff.mp H
    obtain ⟨t489, A40, H⟩ := H
    replace H : (if t489 = true then (some (decide ((mx a0_5 a1_5) < (mn a0_6 a1_6)))) else (some false)) = some r := H
    have A4 := Aside0.mk A40
    clear A40
    by_cases c5 : t489 = true
    · subst c5
      have H1 : (some (decide ((mx a0_5 a1_5) < (mn a0_6 a1_6)))) = some r := by rw [if_pos rfl] at H; exact H
      clear H
      have H := H1
      clear H1
      obtain ⟨ji6, hji6⟩ : ∃ j_ : Int, (mx a0_5 a1_5) = j_ := ⟨_, rfl⟩
      replace H : (some (decide ((ji6) < (mn a0_6 a1_6)))) = some r := by first | (rw [hji6] at H; exact H) | (simp only [hji6] at H ⊢; exact H)
      (try rw [hji6] at A4)
      have hji6_ : (if a0_5 < a1_5 then a1_5 else a0_5) = ji6 := hji6
      obtain ⟨ji7, hji7⟩ : ∃ j_ : Int, (mn a0_6 a1_6) = j_ := ⟨_, rfl⟩
      replace H : (some (decide ((ji6) < (ji7)))) = some r := by first | (rw [hji7] at H; exact H) | (simp only [hji7] at H ⊢; exact H)
      (try rw [hji7] at A4)
      have hji7_ : (if a1_6 < a0_6 then a1_6 else a0_6) = ji7 := hji7
      obtain rfl := Option.some.inj H
      go_enter Try.func78, Try.ntmps78
      go_wp2_with (first | ((with_reducible refine gate_dst (N := 2) rfl ?_); (try (refine gate_guard (by rfl) ?_; dsimp only)); refine box_event ?hg (N := 2) ?hd (cs := #[.int .i64 a0_0, .int .i64 a0_1, .int .i64 a0_2, .int .i64 a0_3, .bool true, .int .i64 a0_5, .int .i64 a0_6]) (t := 30) ?hr ?_; (case hd => rfl); (case hg => rfl); (case hr => first | (go_simp; done) | (go_simp; rfl)); intro gb487 hg w8 hbox hb; have n0_ := Aside0.mk (below_step (by repeat (first | (with_reducible first | exact HB.out | apply below_alloc | apply pw_below_drewN | apply below_drew1) | exact HB.out)) hb); have n1_ := Aside0.mk (hbox); have n2_ := Aside0.mk ((by rw [hg]; exact (below_size (by repeat (first | (with_reducible first | exact HB.out | apply below_alloc | apply pw_below_drewN | apply below_drew1) | exact HB.out))) : w.heap.size ≤ gb487)); have n3_ := Aside0.mk ((by rw [hg]; exact (below_size (by repeat (first | (with_reducible first | exact HB.out | apply below_alloc | apply pw_below_drewN | apply below_drew1) | exact HB.out))) : w.heap.size ≤ gb487)); clear HB; have HB := n0_; have BK487 := n1_; have GW487 := n2_; have GE487 := n3_; clear n0_ n1_ n2_ n3_; clear hb hbox hg) | ((with_reducible refine gate_dst (N := 3) rfl ?_); (try (refine gate_guard (by rfl) ?_; dsimp only)); refine box_event ?hg (N := 3) ?hd (cs := #[.int .i64 a1_0, .int .i64 a1_1, .int .i64 a1_2, .int .i64 a1_3, .bool a1_4, .int .i64 a1_5, .int .i64 a1_6]) (t := 30) ?hr ?_; (case hd => rfl); (case hg => rfl); (case hr => first | (go_simp; done) | (go_simp; rfl)); intro gb488 hg w9 hbox hb; have n0_ := Aside0.mk (blk_below (g := gb487) (o := .cells #[.int .i64 a0_0, .int .i64 a0_1, .int .i64 a0_2, .int .i64 a0_3, .bool true, .int .i64 a0_5, .int .i64 a0_6] 30 (0, 0)) (by (with_reducible repeat (first | refine blk_drewN ?_ _ | refine blk_drew ?_ | refine blk_alloc ?_ _)); exact BK487.out) hb); have n1_ := Aside0.mk (below_step (by repeat (first | (with_reducible first | exact HB.out | apply below_alloc | apply pw_below_drewN | apply below_drew1 | refine below_set ?_ GE487.out) | exact HB.out)) hb); have n2_ := Aside0.mk (hbox); have n3_ := Aside0.mk ((by rw [hg]; exact (below_size (by repeat (first | (with_reducible first | exact HB.out | apply below_alloc | apply pw_below_drewN | apply below_drew1 | refine below_set ?_ GE487.out) | exact HB.out))) : w.heap.size ≤ gb488)); have n4_ := Aside0.mk ((by rw [hg]; exact (below_size (by repeat (first | (with_reducible first | exact HB.out | apply below_alloc | apply pw_below_drewN | apply below_drew1 | refine below_set ?_ GE487.out) | exact HB.out))) : w.heap.size ≤ gb488)); have n5_ := Aside0.mk ((by rw [hg]; exact Nat.ne_of_lt (blk_lt (g := gb487) (o := .cells #[.int .i64 a0_0, .int .i64 a0_1, .int .i64 a0_2, .int .i64 a0_3, .bool true, .int .i64 a0_5, .int .i64 a0_6] 30 (0, 0)) (by (with_reducible repeat (first | refine blk_drewN ?_ _ | refine blk_drew ?_ | refine blk_alloc ?_ _)); exact BK487.out)) : gb487 ≠ gb488)); have n6_ := Aside0.mk ((by rw [hg]; exact Nat.ne_of_gt (blk_lt (g := gb487) (o := .cells #[.int .i64 a0_0, .int .i64 a0_1, .int .i64 a0_2, .int .i64 a0_3, .bool true, .int .i64 a0_5, .int .i64 a0_6] 30 (0, 0)) (by (with_reducible repeat (first | refine blk_drewN ?_ _ | refine blk_drew ?_ | refine blk_alloc ?_ _)); exact BK487.out)) : gb488 ≠ gb487)); clear BK487; clear HB; have BK487 := n0_; have HB := n1_; have BK488 := n2_; have GW488 := n3_; have GE488 := n4_; have NB487_488 := n5_; have NB488_487 := n6_; clear n0_ n1_ n2_ n3_ n4_ n5_ n6_; clear hb hbox hg; have hnb10 := NB487_488.out; have hnc10 := NB488_487.out; have hcz11_0 : w9.cell? ⟨gb487, 0, none⟩ = some (.int .i64 a0_0) := (blk_cell BK487.out 0).trans rfl; have hcz11_1 : w9.cell? ⟨gb487, 1, none⟩ = some (.int .i64 a0_1) := (blk_cell BK487.out 1).trans rfl; have hcz11_2 : w9.cell? ⟨gb487, 2, none⟩ = some (.int .i64 a0_2) := (blk_cell BK487.out 2).trans rfl; have hcz11_3 : w9.cell? ⟨gb487, 3, none⟩ = some (.int .i64 a0_3) := (blk_cell BK487.out 3).trans rfl; have hcz11_4 : w9.cell? ⟨gb487, 4, none⟩ = some (.bool true) := (blk_cell BK487.out 4).trans rfl; have hcz11_5 : w9.cell? ⟨gb487, 5, none⟩ = some (.int .i64 a0_5) := (blk_cell BK487.out 5).trans rfl; have hcz11_6 : w9.cell? ⟨gb487, 6, none⟩ = some (.int .i64 a0_6) := (blk_cell BK487.out 6).trans rfl; have hfz11_0 := blk_frozen BK487.out 0; have hfz11_1 := blk_frozen BK487.out 1; have hfz11_2 := blk_frozen BK487.out 2; have hfz11_3 := blk_frozen BK487.out 3; have hfz11_4 := blk_frozen BK487.out 4; have hfz11_5 := blk_frozen BK487.out 5; have hfz11_6 := blk_frozen BK487.out 6; have hcz12_0 : w9.cell? ⟨gb488, 0, none⟩ = some (.int .i64 a1_0) := (blk_cell BK488.out 0).trans rfl; have hcz12_1 : w9.cell? ⟨gb488, 1, none⟩ = some (.int .i64 a1_1) := (blk_cell BK488.out 1).trans rfl; have hcz12_2 : w9.cell? ⟨gb488, 2, none⟩ = some (.int .i64 a1_2) := (blk_cell BK488.out 2).trans rfl; have hcz12_3 : w9.cell? ⟨gb488, 3, none⟩ = some (.int .i64 a1_3) := (blk_cell BK488.out 3).trans rfl; have hcz12_4 : w9.cell? ⟨gb488, 4, none⟩ = some (.bool a1_4) := (blk_cell BK488.out 4).trans rfl; have hcz12_5 : w9.cell? ⟨gb488, 5, none⟩ = some (.int .i64 a1_5) := (blk_cell BK488.out 5).trans rfl; have hcz12_6 : w9.cell? ⟨gb488, 6, none⟩ = some (.int .i64 a1_6) := (blk_cell BK488.out 6).trans rfl; have hfz12_0 := blk_frozen BK488.out 0; have hfz12_1 := blk_frozen BK488.out 1; have hfz12_2 := blk_frozen BK488.out 2; have hfz12_3 := blk_frozen BK488.out 3; have hfz12_4 := blk_frozen BK488.out 4; have hfz12_5 := blk_frozen BK488.out 5; have hfz12_6 := blk_frozen BK488.out 6) | (go_at_call 115; (with_reducible refine (impl_areShared.calls a0_0 a0_1 a0_2 a0_3 a1_0 a1_1 a1_2 a1_3 true _ A4.out).mono ?_); rintro e w13 ⟨rfl, hb⟩; have n0_ := Aside0.mk (blk_below (g := gb487) (o := .cells #[.int .i64 a0_0, .int .i64 a0_1, .int .i64 a0_2, .int .i64 a0_3, .bool true, .int .i64 a0_5, .int .i64 a0_6] 30 (0, 0)) (by (with_reducible repeat (first | refine blk_drewN ?_ _ | refine blk_drew ?_ | refine blk_alloc ?_ _)); exact BK487.out) hb); have n1_ := Aside0.mk (blk_below (g := gb488) (o := .cells #[.int .i64 a1_0, .int .i64 a1_1, .int .i64 a1_2, .int .i64 a1_3, .bool a1_4, .int .i64 a1_5, .int .i64 a1_6] 30 (0, 0)) (by (with_reducible repeat (first | refine blk_drewN ?_ _ | refine blk_drew ?_ | refine blk_alloc ?_ _)); exact BK488.out) hb); have n2_ := Aside0.mk (below_step (by repeat (first | (with_reducible first | exact HB.out | apply below_alloc | apply pw_below_drewN | apply below_drew1 | refine below_set ?_ GE487.out | refine below_set ?_ GE488.out) | exact HB.out)) hb); clear BK487; clear BK488; clear HB; have BK487 := n0_; have BK488 := n1_; have HB := n2_; clear n0_ n1_ n2_; (try clear hb); (try clear hb2); (try clear hk); (try clear hi); have hcz14_0 : w13.cell? ⟨gb487, 0, none⟩ = some (.int .i64 a0_0) := (blk_cell BK487.out 0).trans rfl; have hcz14_1 : w13.cell? ⟨gb487, 1, none⟩ = some (.int .i64 a0_1) := (blk_cell BK487.out 1).trans rfl; have hcz14_2 : w13.cell? ⟨gb487, 2, none⟩ = some (.int .i64 a0_2) := (blk_cell BK487.out 2).trans rfl; have hcz14_3 : w13.cell? ⟨gb487, 3, none⟩ = some (.int .i64 a0_3) := (blk_cell BK487.out 3).trans rfl; have hcz14_4 : w13.cell? ⟨gb487, 4, none⟩ = some (.bool true) := (blk_cell BK487.out 4).trans rfl; have hcz14_5 : w13.cell? ⟨gb487, 5, none⟩ = some (.int .i64 a0_5) := (blk_cell BK487.out 5).trans rfl; have hcz14_6 : w13.cell? ⟨gb487, 6, none⟩ = some (.int .i64 a0_6) := (blk_cell BK487.out 6).trans rfl; have hfz14_0 := blk_frozen BK487.out 0; have hfz14_1 := blk_frozen BK487.out 1; have hfz14_2 := blk_frozen BK487.out 2; have hfz14_3 := blk_frozen BK487.out 3; have hfz14_4 := blk_frozen BK487.out 4; have hfz14_5 := blk_frozen BK487.out 5; have hfz14_6 := blk_frozen BK487.out 6; have hcz15_0 : w13.cell? ⟨gb488, 0, none⟩ = some (.int .i64 a1_0) := (blk_cell BK488.out 0).trans rfl; have hcz15_1 : w13.cell? ⟨gb488, 1, none⟩ = some (.int .i64 a1_1) := (blk_cell BK488.out 1).trans rfl; have hcz15_2 : w13.cell? ⟨gb488, 2, none⟩ = some (.int .i64 a1_2) := (blk_cell BK488.out 2).trans rfl; have hcz15_3 : w13.cell? ⟨gb488, 3, none⟩ = some (.int .i64 a1_3) := (blk_cell BK488.out 3).trans rfl; have hcz15_4 : w13.cell? ⟨gb488, 4, none⟩ = some (.bool a1_4) := (blk_cell BK488.out 4).trans rfl; have hcz15_5 : w13.cell? ⟨gb488, 5, none⟩ = some (.int .i64 a1_5) := (blk_cell BK488.out 5).trans rfl; have hcz15_6 : w13.cell? ⟨gb488, 6, none⟩ = some (.int .i64 a1_6) := (blk_cell BK488.out 6).trans rfl; have hfz15_0 := blk_frozen BK488.out 0; have hfz15_1 := blk_frozen BK488.out 1; have hfz15_2 := blk_frozen BK488.out 2; have hfz15_3 := blk_frozen BK488.out 3; have hfz15_4 := blk_frozen BK488.out 4; have hfz15_5 := blk_frozen BK488.out 5; have hfz15_6 := blk_frozen BK488.out 6))
      go_ret
      exact ⟨by first | rfl | (simp [errW_none, errW_some] <;> rfl) | (simp only [← hji6, ← hji7]; first | rfl | (simp [errW_none, errW_some] <;> rfl)) | (simp [*, errW_none, errW_some] <;> rfl), by repeat (first | (with_reducible first | exact HB.out | apply below_alloc | apply pw_below_drewN | apply below_drew1 | refine below_set ?_ GE487.out | refine below_set ?_ GE488.out) | exact HB.out)⟩
    · replace c5 := Bool.eq_false_iff.mpr c5
      subst c5
      have H1 : (some false) = some r := by rw [if_neg (show ¬ (false = true) by decide)] at H; exact H
      clear H
      have H := H1
      clear H1
      obtain rfl := Option.some.inj H
      go_enter Try.func78, Try.ntmps78
      go_wp2_with (first | ((with_reducible refine gate_dst (N := 2) rfl ?_); (try (refine gate_guard (by rfl) ?_; dsimp only)); refine box_event ?hg (N := 2) ?hd (cs := #[.int .i64 a0_0, .int .i64 a0_1, .int .i64 a0_2, .int .i64 a0_3, .bool true, .int .i64 a0_5, .int .i64 a0_6]) (t := 30) ?hr ?_; (case hd => rfl); (case hg => rfl); (case hr => first | (go_simp; done) | (go_simp; rfl)); intro gb487 hg w16 hbox hb; have n0_ := Aside0.mk (below_step (by repeat (first | (with_reducible first | exact HB.out | apply below_alloc | apply pw_below_drewN | apply below_drew1) | exact HB.out)) hb); have n1_ := Aside0.mk (hbox); have n2_ := Aside0.mk ((by rw [hg]; exact (below_size (by repeat (first | (with_reducible first | exact HB.out | apply below_alloc | apply pw_below_drewN | apply below_drew1) | exact HB.out))) : w.heap.size ≤ gb487)); have n3_ := Aside0.mk ((by rw [hg]; exact (below_size (by repeat (first | (with_reducible first | exact HB.out | apply below_alloc | apply pw_below_drewN | apply below_drew1) | exact HB.out))) : w.heap.size ≤ gb487)); clear HB; have HB := n0_; have BK487 := n1_; have GW487 := n2_; have GE487 := n3_; clear n0_ n1_ n2_ n3_; clear hb hbox hg) | ((with_reducible refine gate_dst (N := 3) rfl ?_); (try (refine gate_guard (by rfl) ?_; dsimp only)); refine box_event ?hg (N := 3) ?hd (cs := #[.int .i64 a1_0, .int .i64 a1_1, .int .i64 a1_2, .int .i64 a1_3, .bool a1_4, .int .i64 a1_5, .int .i64 a1_6]) (t := 30) ?hr ?_; (case hd => rfl); (case hg => rfl); (case hr => first | (go_simp; done) | (go_simp; rfl)); intro gb488 hg w17 hbox hb; have n0_ := Aside0.mk (blk_below (g := gb487) (o := .cells #[.int .i64 a0_0, .int .i64 a0_1, .int .i64 a0_2, .int .i64 a0_3, .bool true, .int .i64 a0_5, .int .i64 a0_6] 30 (0, 0)) (by (with_reducible repeat (first | refine blk_drewN ?_ _ | refine blk_drew ?_ | refine blk_alloc ?_ _)); exact BK487.out) hb); have n1_ := Aside0.mk (below_step (by repeat (first | (with_reducible first | exact HB.out | apply below_alloc | apply pw_below_drewN | apply below_drew1 | refine below_set ?_ GE487.out) | exact HB.out)) hb); have n2_ := Aside0.mk (hbox); have n3_ := Aside0.mk ((by rw [hg]; exact (below_size (by repeat (first | (with_reducible first | exact HB.out | apply below_alloc | apply pw_below_drewN | apply below_drew1 | refine below_set ?_ GE487.out) | exact HB.out))) : w.heap.size ≤ gb488)); have n4_ := Aside0.mk ((by rw [hg]; exact (below_size (by repeat (first | (with_reducible first | exact HB.out | apply below_alloc | apply pw_below_drewN | apply below_drew1 | refine below_set ?_ GE487.out) | exact HB.out))) : w.heap.size ≤ gb488)); have n5_ := Aside0.mk ((by rw [hg]; exact Nat.ne_of_lt (blk_lt (g := gb487) (o := .cells #[.int .i64 a0_0, .int .i64 a0_1, .int .i64 a0_2, .int .i64 a0_3, .bool true, .int .i64 a0_5, .int .i64 a0_6] 30 (0, 0)) (by (with_reducible repeat (first | refine blk_drewN ?_ _ | refine blk_drew ?_ | refine blk_alloc ?_ _)); exact BK487.out)) : gb487 ≠ gb488)); have n6_ := Aside0.mk ((by rw [hg]; exact Nat.ne_of_gt (blk_lt (g := gb487) (o := .cells #[.int .i64 a0_0, .int .i64 a0_1, .int .i64 a0_2, .int .i64 a0_3, .bool true, .int .i64 a0_5, .int .i64 a0_6] 30 (0, 0)) (by (with_reducible repeat (first | refine blk_drewN ?_ _ | refine blk_drew ?_ | refine blk_alloc ?_ _)); exact BK487.out)) : gb488 ≠ gb487)); clear BK487; clear HB; have BK487 := n0_; have HB := n1_; have BK488 := n2_; have GW488 := n3_; have GE488 := n4_; have NB487_488 := n5_; have NB488_487 := n6_; clear n0_ n1_ n2_ n3_ n4_ n5_ n6_; clear hb hbox hg; have hnb18 := NB487_488.out; have hnc18 := NB488_487.out; have hcz19_0 : w17.cell? ⟨gb487, 0, none⟩ = some (.int .i64 a0_0) := (blk_cell BK487.out 0).trans rfl; have hcz19_1 : w17.cell? ⟨gb487, 1, none⟩ = some (.int .i64 a0_1) := (blk_cell BK487.out 1).trans rfl; have hcz19_2 : w17.cell? ⟨gb487, 2, none⟩ = some (.int .i64 a0_2) := (blk_cell BK487.out 2).trans rfl; have hcz19_3 : w17.cell? ⟨gb487, 3, none⟩ = some (.int .i64 a0_3) := (blk_cell BK487.out 3).trans rfl; have hcz19_4 : w17.cell? ⟨gb487, 4, none⟩ = some (.bool true) := (blk_cell BK487.out 4).trans rfl; have hcz19_5 : w17.cell? ⟨gb487, 5, none⟩ = some (.int .i64 a0_5) := (blk_cell BK487.out 5).trans rfl; have hcz19_6 : w17.cell? ⟨gb487, 6, none⟩ = some (.int .i64 a0_6) := (blk_cell BK487.out 6).trans rfl; have hfz19_0 := blk_frozen BK487.out 0; have hfz19_1 := blk_frozen BK487.out 1; have hfz19_2 := blk_frozen BK487.out 2; have hfz19_3 := blk_frozen BK487.out 3; have hfz19_4 := blk_frozen BK487.out 4; have hfz19_5 := blk_frozen BK487.out 5; have hfz19_6 := blk_frozen BK487.out 6; have hcz20_0 : w17.cell? ⟨gb488, 0, none⟩ = some (.int .i64 a1_0) := (blk_cell BK488.out 0).trans rfl; have hcz20_1 : w17.cell? ⟨gb488, 1, none⟩ = some (.int .i64 a1_1) := (blk_cell BK488.out 1).trans rfl; have hcz20_2 : w17.cell? ⟨gb488, 2, none⟩ = some (.int .i64 a1_2) := (blk_cell BK488.out 2).trans rfl; have hcz20_3 : w17.cell? ⟨gb488, 3, none⟩ = some (.int .i64 a1_3) := (blk_cell BK488.out 3).trans rfl; have hcz20_4 : w17.cell? ⟨gb488, 4, none⟩ = some (.bool a1_4) := (blk_cell BK488.out 4).trans rfl; have hcz20_5 : w17.cell? ⟨gb488, 5, none⟩ = some (.int .i64 a1_5) := (blk_cell BK488.out 5).trans rfl; have hcz20_6 : w17.cell? ⟨gb488, 6, none⟩ = some (.int .i64 a1_6) := (blk_cell BK488.out 6).trans rfl; have hfz20_0 := blk_frozen BK488.out 0; have hfz20_1 := blk_frozen BK488.out 1; have hfz20_2 := blk_frozen BK488.out 2; have hfz20_3 := blk_frozen BK488.out 3; have hfz20_4 := blk_frozen BK488.out 4; have hfz20_5 := blk_frozen BK488.out 5; have hfz20_6 := blk_frozen BK488.out 6) | (go_at_call 115; (with_reducible refine (impl_areShared.calls a0_0 a0_1 a0_2 a0_3 a1_0 a1_1 a1_2 a1_3 false _ A4.out).mono ?_); rintro e w21 ⟨rfl, hb⟩; have n0_ := Aside0.mk (blk_below (g := gb487) (o := .cells #[.int .i64 a0_0, .int .i64 a0_1, .int .i64 a0_2, .int .i64 a0_3, .bool true, .int .i64 a0_5, .int .i64 a0_6] 30 (0, 0)) (by (with_reducible repeat (first | refine blk_drewN ?_ _ | refine blk_drew ?_ | refine blk_alloc ?_ _)); exact BK487.out) hb); have n1_ := Aside0.mk (blk_below (g := gb488) (o := .cells #[.int .i64 a1_0, .int .i64 a1_1, .int .i64 a1_2, .int .i64 a1_3, .bool a1_4, .int .i64 a1_5, .int .i64 a1_6] 30 (0, 0)) (by (with_reducible repeat (first | refine blk_drewN ?_ _ | refine blk_drew ?_ | refine blk_alloc ?_ _)); exact BK488.out) hb); have n2_ := Aside0.mk (below_step (by repeat (first | (with_reducible first | exact HB.out | apply below_alloc | apply pw_below_drewN | apply below_drew1 | refine below_set ?_ GE487.out | refine below_set ?_ GE488.out) | exact HB.out)) hb); clear BK487; clear BK488; clear HB; have BK487 := n0_; have BK488 := n1_; have HB := n2_; clear n0_ n1_ n2_; (try clear hb); (try clear hb2); (try clear hk); (try clear hi)))
      go_ret
      exact ⟨by first | rfl | (simp [errW_none, errW_some] <;> rfl) | (simp [*, errW_none, errW_some] <;> rfl), by repeat (first | (with_reducible first | exact HB.out | apply below_alloc | apply pw_below_drewN | apply below_drew1 | refine below_set ?_ GE487.out | refine below_set ?_ GE488.out) | exact HB.out)⟩
  · replace c3 := Bool.eq_false_iff.mpr c3
    subst c3
    have H1 : (if a1_4 = true then ((impl_areShared.f a0_0 a0_1 a0_2 a0_3 a1_0 a1_1 a1_2 a1_3).bind fun t490 => (if t490 = true then (some (decide ((mx a0_5 a1_5) < (mn a0_6 a1_6)))) else (some false))) else (some false)) = some r := by rw [if_neg (show ¬ (false = true) by decide)] at H; exact H
    clear H
    have H := H1
    clear H1
    by_cases c22 : a1_4 = true
    · subst c22
      have H1 : ((impl_areShared.f a0_0 a0_1 a0_2 a0_3 a1_0 a1_1 a1_2 a1_3).bind fun t490 => (if t490 = true then (some (decide ((mx a0_5 a1_5) < (mn a0_6 a1_6)))) else (some false))) = some r := by rw [if_pos rfl] at H; exact H
      clear H
      have H := H1
      clear H1
      replace H := Option.bind_eq_some_iff.mp H
      obtain ⟨t490, A230, H⟩ := H
      replace H : (if t490 = true then (some (decide ((mx a0_5 a1_5) < (mn a0_6 a1_6)))) else (some false)) = some r := H
      have A23 := Aside0.mk A230
      clear A230
      by_cases c24 : t490 = true
      · subst c24
        have H1 : (some (decide ((mx a0_5 a1_5) < (mn a0_6 a1_6)))) = some r := by rw [if_pos rfl] at H; exact H
        clear H
        have H := H1
        clear H1
        obtain ⟨ji25, hji25⟩ : ∃ j_ : Int, (mx a0_5 a1_5) = j_ := ⟨_, rfl⟩
        replace H : (some (decide ((ji25) < (mn a0_6 a1_6)))) = some r := by first | (rw [hji25] at H; exact H) | (simp only [hji25] at H ⊢; exact H)
        (try rw [hji25] at A23)
        have hji25_ : (if a0_5 < a1_5 then a1_5 else a0_5) = ji25 := hji25
        obtain ⟨ji26, hji26⟩ : ∃ j_ : Int, (mn a0_6 a1_6) = j_ := ⟨_, rfl⟩
        replace H : (some (decide ((ji25) < (ji26)))) = some r := by first | (rw [hji26] at H; exact H) | (simp only [hji26] at H ⊢; exact H)
        (try rw [hji26] at A23)
        have hji26_ : (if a1_6 < a0_6 then a1_6 else a0_6) = ji26 := hji26
        obtain rfl := Option.some.inj H
        go_enter Try.func78, Try.ntmps78
        go_wp2_with (first | ((with_reducible refine gate_dst (N := 2) rfl ?_); (try (refine gate_guard (by rfl) ?_; dsimp only)); refine box_event ?hg (N := 2) ?hd (cs := #[.int .i64 a0_0, .int .i64 a0_1, .int .i64 a0_2, .int .i64 a0_3, .bool false, .int .i64 a0_5, .int .i64 a0_6]) (t := 30) ?hr ?_; (case hd => rfl); (case hg => rfl); (case hr => first | (go_simp; done) | (go_simp; rfl)); intro gb487 hg w27 hbox hb; have n0_ := Aside0.mk (below_step (by repeat (first | (with_reducible first | exact HB.out | apply below_alloc | apply pw_below_drewN | apply below_drew1) | exact HB.out)) hb); have n1_ := Aside0.mk (hbox); have n2_ := Aside0.mk ((by rw [hg]; exact (below_size (by repeat (first | (with_reducible first | exact HB.out | apply below_alloc | apply pw_below_drewN | apply below_drew1) | exact HB.out))) : w.heap.size ≤ gb487)); have n3_ := Aside0.mk ((by rw [hg]; exact (below_size (by repeat (first | (with_reducible first | exact HB.out | apply below_alloc | apply pw_below_drewN | apply below_drew1) | exact HB.out))) : w.heap.size ≤ gb487)); clear HB; have HB := n0_; have BK487 := n1_; have GW487 := n2_; have GE487 := n3_; clear n0_ n1_ n2_ n3_; clear hb hbox hg) | ((with_reducible refine gate_dst (N := 3) rfl ?_); (try (refine gate_guard (by rfl) ?_; dsimp only)); refine box_event ?hg (N := 3) ?hd (cs := #[.int .i64 a1_0, .int .i64 a1_1, .int .i64 a1_2, .int .i64 a1_3, .bool true, .int .i64 a1_5, .int .i64 a1_6]) (t := 30) ?hr ?_; (case hd => rfl); (case hg => rfl); (case hr => first | (go_simp; done) | (go_simp; rfl)); intro gb488 hg w28 hbox hb; have n0_ := Aside0.mk (blk_below (g := gb487) (o := .cells #[.int .i64 a0_0, .int .i64 a0_1, .int .i64 a0_2, .int .i64 a0_3, .bool false, .int .i64 a0_5, .int .i64 a0_6] 30 (0, 0)) (by (with_reducible repeat (first | refine blk_drewN ?_ _ | refine blk_drew ?_ | refine blk_alloc ?_ _)); exact BK487.out) hb); have n1_ := Aside0.mk (below_step (by repeat (first | (with_reducible first | exact HB.out | apply below_alloc | apply pw_below_drewN | apply below_drew1 | refine below_set ?_ GE487.out) | exact HB.out)) hb); have n2_ := Aside0.mk (hbox); have n3_ := Aside0.mk ((by rw [hg]; exact (below_size (by repeat (first | (with_reducible first | exact HB.out | apply below_alloc | apply pw_below_drewN | apply below_drew1 | refine below_set ?_ GE487.out) | exact HB.out))) : w.heap.size ≤ gb488)); have n4_ := Aside0.mk ((by rw [hg]; exact (below_size (by repeat (first | (with_reducible first | exact HB.out | apply below_alloc | apply pw_below_drewN | apply below_drew1 | refine below_set ?_ GE487.out) | exact HB.out))) : w.heap.size ≤ gb488)); have n5_ := Aside0.mk ((by rw [hg]; exact Nat.ne_of_lt (blk_lt (g := gb487) (o := .cells #[.int .i64 a0_0, .int .i64 a0_1, .int .i64 a0_2, .int .i64 a0_3, .bool false, .int .i64 a0_5, .int .i64 a0_6] 30 (0, 0)) (by (with_reducible repeat (first | refine blk_drewN ?_ _ | refine blk_drew ?_ | refine blk_alloc ?_ _)); exact BK487.out)) : gb487 ≠ gb488)); have n6_ := Aside0.mk ((by rw [hg]; exact Nat.ne_of_gt (blk_lt (g := gb487) (o := .cells #[.int .i64 a0_0, .int .i64 a0_1, .int .i64 a0_2, .int .i64 a0_3, .bool false, .int .i64 a0_5, .int .i64 a0_6] 30 (0, 0)) (by (with_reducible repeat (first | refine blk_drewN ?_ _ | refine blk_drew ?_ | refine blk_alloc ?_ _)); exact BK487.out)) : gb488 ≠ gb487)); clear BK487; clear HB; have BK487 := n0_; have HB := n1_; have BK488 := n2_; have GW488 := n3_; have GE488 := n4_; have NB487_488 := n5_; have NB488_487 := n6_; clear n0_ n1_ n2_ n3_ n4_ n5_ n6_; clear hb hbox hg; have hnb29 := NB487_488.out; have hnc29 := NB488_487.out; have hcz30_0 : w28.cell? ⟨gb487, 0, none⟩ = some (.int .i64 a0_0) := (blk_cell BK487.out 0).trans rfl; have hcz30_1 : w28.cell? ⟨gb487, 1, none⟩ = some (.int .i64 a0_1) := (blk_cell BK487.out 1).trans rfl; have hcz30_2 : w28.cell? ⟨gb487, 2, none⟩ = some (.int .i64 a0_2) := (blk_cell BK487.out 2).trans rfl; have hcz30_3 : w28.cell? ⟨gb487, 3, none⟩ = some (.int .i64 a0_3) := (blk_cell BK487.out 3).trans rfl; have hcz30_4 : w28.cell? ⟨gb487, 4, none⟩ = some (.bool false) := (blk_cell BK487.out 4).trans rfl; have hcz30_5 : w28.cell? ⟨gb487, 5, none⟩ = some (.int .i64 a0_5) := (blk_cell BK487.out 5).trans rfl; have hcz30_6 : w28.cell? ⟨gb487, 6, none⟩ = some (.int .i64 a0_6) := (blk_cell BK487.out 6).trans rfl; have hfz30_0 := blk_frozen BK487.out 0; have hfz30_1 := blk_frozen BK487.out 1; have hfz30_2 := blk_frozen BK487.out 2; have hfz30_3 := blk_frozen BK487.out 3; have hfz30_4 := blk_frozen BK487.out 4; have hfz30_5 := blk_frozen BK487.out 5; have hfz30_6 := blk_frozen BK487.out 6; have hcz31_0 : w28.cell? ⟨gb488, 0, none⟩ = some (.int .i64 a1_0) := (blk_cell BK488.out 0).trans rfl; have hcz31_1 : w28.cell? ⟨gb488, 1, none⟩ = some (.int .i64 a1_1) := (blk_cell BK488.out 1).trans rfl; have hcz31_2 : w28.cell? ⟨gb488, 2, none⟩ = some (.int .i64 a1_2) := (blk_cell BK488.out 2).trans rfl; have hcz31_3 : w28.cell? ⟨gb488, 3, none⟩ = some (.int .i64 a1_3) := (blk_cell BK488.out 3).trans rfl; have hcz31_4 : w28.cell? ⟨gb488, 4, none⟩ = some (.bool true) := (blk_cell BK488.out 4).trans rfl; have hcz31_5 : w28.cell? ⟨gb488, 5, none⟩ = some (.int .i64 a1_5) := (blk_cell BK488.out 5).trans rfl; have hcz31_6 : w28.cell? ⟨gb488, 6, none⟩ = some (.int .i64 a1_6) := (blk_cell BK488.out 6).trans rfl; have hfz31_0 := blk_frozen BK488.out 0; have hfz31_1 := blk_frozen BK488.out 1; have hfz31_2 := blk_frozen BK488.out 2; have hfz31_3 := blk_frozen BK488.out 3; have hfz31_4 := blk_frozen BK488.out 4; have hfz31_5 := blk_frozen BK488.out 5; have hfz31_6 := blk_frozen BK488.out 6) | (go_at_call 115; (with_reducible refine (impl_areShared.calls a0_0 a0_1 a0_2 a0_3 a1_0 a1_1 a1_2 a1_3 true _ A23.out).mono ?_); rintro e w32 ⟨rfl, hb⟩; have n0_ := Aside0.mk (blk_below (g := gb487) (o := .cells #[.int .i64 a0_0, .int .i64 a0_1, .int .i64 a0_2, .int .i64 a0_3, .bool false, .int .i64 a0_5, .int .i64 a0_6] 30 (0, 0)) (by (with_reducible repeat (first | refine blk_drewN ?_ _ | refine blk_drew ?_ | refine blk_alloc ?_ _)); exact BK487.out) hb); have n1_ := Aside0.mk (blk_below (g := gb488) (o := .cells #[.int .i64 a1_0, .int .i64 a1_1, .int .i64 a1_2, .int .i64 a1_3, .bool true, .int .i64 a1_5, .int .i64 a1_6] 30 (0, 0)) (by (with_reducible repeat (first | refine blk_drewN ?_ _ | refine blk_drew ?_ | refine blk_alloc ?_ _)); exact BK488.out) hb); have n2_ := Aside0.mk (below_step (by repeat (first | (with_reducible first | exact HB.out | apply below_alloc | apply pw_below_drewN | apply below_drew1 | refine below_set ?_ GE487.out | refine below_set ?_ GE488.out) | exact HB.out)) hb); clear BK487; clear BK488; clear HB; have BK487 := n0_; have BK488 := n1_; have HB := n2_; clear n0_ n1_ n2_; (try clear hb); (try clear hb2); (try clear hk); (try clear hi); have hcz33_0 : w32.cell? ⟨gb487, 0, none⟩ = some (.int .i64 a0_0) := (blk_cell BK487.out 0).trans rfl; have hcz33_1 : w32.cell? ⟨gb487, 1, none⟩ = some (.int .i64 a0_1) := (blk_cell BK487.out 1).trans rfl; have hcz33_2 : w32.cell? ⟨gb487, 2, none⟩ = some (.int .i64 a0_2) := (blk_cell BK487.out 2).trans rfl; have hcz33_3 : w32.cell? ⟨gb487, 3, none⟩ = some (.int .i64 a0_3) := (blk_cell BK487.out 3).trans rfl; have hcz33_4 : w32.cell? ⟨gb487, 4, none⟩ = some (.bool false) := (blk_cell BK487.out 4).trans rfl; have hcz33_5 : w32.cell? ⟨gb487, 5, none⟩ = some (.int .i64 a0_5) := (blk_cell BK487.out 5).trans rfl; have hcz33_6 : w32.cell? ⟨gb487, 6, none⟩ = some (.int .i64 a0_6) := (blk_cell BK487.out 6).trans rfl; have hfz33_0 := blk_frozen BK487.out 0; have hfz33_1 := blk_frozen BK487.out 1; have hfz33_2 := blk_frozen BK487.out 2; have hfz33_3 := blk_frozen BK487.out 3; have hfz33_4 := blk_frozen BK487.out 4; have hfz33_5 := blk_frozen BK487.out 5; have hfz33_6 := blk_frozen BK487.out 6; have hcz34_0 : w32.cell? ⟨gb488, 0, none⟩ = some (.int .i64 a1_0) := (blk_cell BK488.out 0).trans rfl; have hcz34_1 : w32.cell? ⟨gb488, 1, none⟩ = some (.int .i64 a1_1) := (blk_cell BK488.out 1).trans rfl; have hcz34_2 : w32.cell? ⟨gb488, 2, none⟩ = some (.int .i64 a1_2) := (blk_cell BK488.out 2).trans rfl; have hcz34_3 : w32.cell? ⟨gb488, 3, none⟩ = some (.int .i64 a1_3) := (blk_cell BK488.out 3).trans rfl; have hcz34_4 : w32.cell? ⟨gb488, 4, none⟩ = some (.bool true) := (blk_cell BK488.out 4).trans rfl; have hcz34_5 : w32.cell? ⟨gb488, 5, none⟩ = some (.int .i64 a1_5) := (blk_cell BK488.out 5).trans rfl; have hcz34_6 : w32.cell? ⟨gb488, 6, none⟩ = some (.int .i64 a1_6) := (blk_cell BK488.out 6).trans rfl; have hfz34_0 := blk_frozen BK488.out 0; have hfz34_1 := blk_frozen BK488.out 1; have hfz34_2 := blk_frozen BK488.out 2; have hfz34_3 := blk_frozen BK488.out 3; have hfz34_4 := blk_frozen BK488.out 4; have hfz34_5 := blk_frozen BK488.out 5; have hfz34_6 := blk_frozen BK488.out 6))
        go_ret
        exact ⟨by first | rfl | (simp [errW_none, errW_some] <;> rfl) | (simp only [← hji25, ← hji26]; first | rfl | (simp [errW_none, errW_some] <;> rfl)) | (simp [*, errW_none, errW_some] <;> rfl), by repeat (first | (with_reducible first | exact HB.out | apply below_alloc | apply pw_below_drewN | apply below_drew1 | refine below_set ?_ GE487.out | refine below_set ?_ GE488.out) | exact HB.out)⟩
      · replace c24 := Bool.eq_false_iff.mpr c24
        subst c24
        have H1 : (some false) = some r := by rw [if_neg (show ¬ (false = true) by decide)] at H; exact H
        clear H
        have H := H1
        clear H1
        obtain rfl := Option.some.inj H
        go_enter Try.func78, Try.ntmps78
        go_wp2_with (first | ((with_reducible refine gate_dst (N := 2) rfl ?_); (try (refine gate_guard (by rfl) ?_; dsimp only)); refine box_event ?hg (N := 2) ?hd (cs := #[.int .i64 a0_0, .int .i64 a0_1, .int .i64 a0_2, .int .i64 a0_3, .bool false, .int .i64 a0_5, .int .i64 a0_6]) (t := 30) ?hr ?_; (case hd => rfl); (case hg => rfl); (case hr => first | (go_simp; done) | (go_simp; rfl)); intro gb487 hg w35 hbox hb; have n0_ := Aside0.mk (below_step (by repeat (first | (with_reducible first | exact HB.out | apply below_alloc | apply pw_below_drewN | apply below_drew1) | exact HB.out)) hb); have n1_ := Aside0.mk (hbox); have n2_ := Aside0.mk ((by rw [hg]; exact (below_size (by repeat (first | (with_reducible first | exact HB.out | apply below_alloc | apply pw_below_drewN | apply below_drew1) | exact HB.out))) : w.heap.size ≤ gb487)); have n3_ := Aside0.mk ((by rw [hg]; exact (below_size (by repeat (first | (with_reducible first | exact HB.out | apply below_alloc | apply pw_below_drewN | apply below_drew1) | exact HB.out))) : w.heap.size ≤ gb487)); clear HB; have HB := n0_; have BK487 := n1_; have GW487 := n2_; have GE487 := n3_; clear n0_ n1_ n2_ n3_; clear hb hbox hg) | ((with_reducible refine gate_dst (N := 3) rfl ?_); (try (refine gate_guard (by rfl) ?_; dsimp only)); refine box_event ?hg (N := 3) ?hd (cs := #[.int .i64 a1_0, .int .i64 a1_1, .int .i64 a1_2, .int .i64 a1_3, .bool true, .int .i64 a1_5, .int .i64 a1_6]) (t := 30) ?hr ?_; (case hd => rfl); (case hg => rfl); (case hr => first | (go_simp; done) | (go_simp; rfl)); intro gb488 hg w36 hbox hb; have n0_ := Aside0.mk (blk_below (g := gb487) (o := .cells #[.int .i64 a0_0, .int .i64 a0_1, .int .i64 a0_2, .int .i64 a0_3, .bool false, .int .i64 a0_5, .int .i64 a0_6] 30 (0, 0)) (by (with_reducible repeat (first | refine blk_drewN ?_ _ | refine blk_drew ?_ | refine blk_alloc ?_ _)); exact BK487.out) hb); have n1_ := Aside0.mk (below_step (by repeat (first | (with_reducible first | exact HB.out | apply below_alloc | apply pw_below_drewN | apply below_drew1 | refine below_set ?_ GE487.out) | exact HB.out)) hb); have n2_ := Aside0.mk (hbox); have n3_ := Aside0.mk ((by rw [hg]; exact (below_size (by repeat (first | (with_reducible first | exact HB.out | apply below_alloc | apply pw_below_drewN | apply below_drew1 | refine below_set ?_ GE487.out) | exact HB.out))) : w.heap.size ≤ gb488)); have n4_ := Aside0.mk ((by rw [hg]; exact (below_size (by repeat (first | (with_reducible first | exact HB.out | apply below_alloc | apply pw_below_drewN | apply below_drew1 | refine below_set ?_ GE487.out) | exact HB.out))) : w.heap.size ≤ gb488)); have n5_ := Aside0.mk ((by rw [hg]; exact Nat.ne_of_lt (blk_lt (g := gb487) (o := .cells #[.int .i64 a0_0, .int .i64 a0_1, .int .i64 a0_2, .int .i64 a0_3, .bool false, .int .i64 a0_5, .int .i64 a0_6] 30 (0, 0)) (by (with_reducible repeat (first | refine blk_drewN ?_ _ | refine blk_drew ?_ | refine blk_alloc ?_ _)); exact BK487.out)) : gb487 ≠ gb488)); have n6_ := Aside0.mk ((by rw [hg]; exact Nat.ne_of_gt (blk_lt (g := gb487) (o := .cells #[.int .i64 a0_0, .int .i64 a0_1, .int .i64 a0_2, .int .i64 a0_3, .bool false, .int .i64 a0_5, .int .i64 a0_6] 30 (0, 0)) (by (with_reducible repeat (first | refine blk_drewN ?_ _ | refine blk_drew ?_ | refine blk_alloc ?_ _)); exact BK487.out)) : gb488 ≠ gb487)); clear BK487; clear HB; have BK487 := n0_; have HB := n1_; have BK488 := n2_; have GW488 := n3_; have GE488 := n4_; have NB487_488 := n5_; have NB488_487 := n6_; clear n0_ n1_ n2_ n3_ n4_ n5_ n6_; clear hb hbox hg; have hnb37 := NB487_488.out; have hnc37 := NB488_487.out; have hcz38_0 : w36.cell? ⟨gb487, 0, none⟩ = some (.int .i64 a0_0) := (blk_cell BK487.out 0).trans rfl; have hcz38_1 : w36.cell? ⟨gb487, 1, none⟩ = some (.int .i64 a0_1) := (blk_cell BK487.out 1).trans rfl; have hcz38_2 : w36.cell? ⟨gb487, 2, none⟩ = some (.int .i64 a0_2) := (blk_cell BK487.out 2).trans rfl; have hcz38_3 : w36.cell? ⟨gb487, 3, none⟩ = some (.int .i64 a0_3) := (blk_cell BK487.out 3).trans rfl; have hcz38_4 : w36.cell? ⟨gb487, 4, none⟩ = some (.bool false) := (blk_cell BK487.out 4).trans rfl; have hcz38_5 : w36.cell? ⟨gb487, 5, none⟩ = some (.int .i64 a0_5) := (blk_cell BK487.out 5).trans rfl; have hcz38_6 : w36.cell? ⟨gb487, 6, none⟩ = some (.int .i64 a0_6) := (blk_cell BK487.out 6).trans rfl; have hfz38_0 := blk_frozen BK487.out 0; have hfz38_1 := blk_frozen BK487.out 1; have hfz38_2 := blk_frozen BK487.out 2; have hfz38_3 := blk_frozen BK487.out 3; have hfz38_4 := blk_frozen BK487.out 4; have hfz38_5 := blk_frozen BK487.out 5; have hfz38_6 := blk_frozen BK487.out 6; have hcz39_0 : w36.cell? ⟨gb488, 0, none⟩ = some (.int .i64 a1_0) := (blk_cell BK488.out 0).trans rfl; have hcz39_1 : w36.cell? ⟨gb488, 1, none⟩ = some (.int .i64 a1_1) := (blk_cell BK488.out 1).trans rfl; have hcz39_2 : w36.cell? ⟨gb488, 2, none⟩ = some (.int .i64 a1_2) := (blk_cell BK488.out 2).trans rfl; have hcz39_3 : w36.cell? ⟨gb488, 3, none⟩ = some (.int .i64 a1_3) := (blk_cell BK488.out 3).trans rfl; have hcz39_4 : w36.cell? ⟨gb488, 4, none⟩ = some (.bool true) := (blk_cell BK488.out 4).trans rfl; have hcz39_5 : w36.cell? ⟨gb488, 5, none⟩ = some (.int .i64 a1_5) := (blk_cell BK488.out 5).trans rfl; have hcz39_6 : w36.cell? ⟨gb488, 6, none⟩ = some (.int .i64 a1_6) := (blk_cell BK488.out 6).trans rfl; have hfz39_0 := blk_frozen BK488.out 0; have hfz39_1 := blk_frozen BK488.out 1; have hfz39_2 := blk_frozen BK488.out 2; have hfz39_3 := blk_frozen BK488.out 3; have hfz39_4 := blk_frozen BK488.out 4; have hfz39_5 := blk_frozen BK488.out 5; have hfz39_6 := blk_frozen BK488.out 6) | (go_at_call 115; (with_reducible refine (impl_areShared.calls a0_0 a0_1 a0_2 a0_3 a1_0 a1_1 a1_2 a1_3 false _ A23.out).mono ?_); rintro e w40 ⟨rfl, hb⟩; have n0_ := Aside0.mk (blk_below (g := gb487) (o := .cells #[.int .i64 a0_0, .int .i64 a0_1, .int .i64 a0_2, .int .i64 a0_3, .bool false, .int .i64 a0_5, .int .i64 a0_6] 30 (0, 0)) (by (with_reducible repeat (first | refine blk_drewN ?_ _ | refine blk_drew ?_ | refine blk_alloc ?_ _)); exact BK487.out) hb); have n1_ := Aside0.mk (blk_below (g := gb488) (o := .cells #[.int .i64 a1_0, .int .i64 a1_1, .int .i64 a1_2, .int .i64 a1_3, .bool true, .int .i64 a1_5, .int .i64 a1_6] 30 (0, 0)) (by (with_reducible repeat (first | refine blk_drewN ?_ _ | refine blk_drew ?_ | refine blk_alloc ?_ _)); exact BK488.out) hb); have n2_ := Aside0.mk (below_step (by repeat (first | (with_reducible first | exact HB.out | apply below_alloc | apply pw_below_drewN | apply below_drew1 | refine below_set ?_ GE487.out | refine below_set ?_ GE488.out) | exact HB.out)) hb); clear BK487; clear BK488; clear HB; have BK487 := n0_; have BK488 := n1_; have HB := n2_; clear n0_ n1_ n2_; (try clear hb); (try clear hb2); (try clear hk); (try clear hi)))
        go_ret
        exact ⟨by first | rfl | (simp [errW_none, errW_some] <;> rfl) | (simp [*, errW_none, errW_some] <;> rfl), by repeat (first | (with_reducible first | exact HB.out | apply below_alloc | apply pw_below_drewN | apply below_drew1 | refine below_set ?_ GE487.out | refine below_set ?_ GE488.out) | exact HB.out)⟩
    · replace c22 := Bool.eq_false_iff.mpr c22
      subst c22
      have H1 : (some false) = some r := by rw [if_neg (show ¬ (false = true) by decide)] at H; exact H
      clear H
      have H := H1
      clear H1
      obtain rfl := Option.some.inj H
      go_enter Try.func78, Try.ntmps78
      go_wp2_with (first | ((with_reducible refine gate_dst (N := 2) rfl ?_); (try (refine gate_guard (by rfl) ?_; dsimp only)); refine box_event ?hg (N := 2) ?hd (cs := #[.int .i64 a0_0, .int .i64 a0_1, .int .i64 a0_2, .int .i64 a0_3, .bool false, .int .i64 a0_5, .int .i64 a0_6]) (t := 30) ?hr ?_; (case hd => rfl); (case hg => rfl); (case hr => first | (go_simp; done) | (go_simp; rfl)); intro gb487 hg w41 hbox hb; have n0_ := Aside0.mk (below_step (by repeat (first | (with_reducible first | exact HB.out | apply below_alloc | apply pw_below_drewN | apply below_drew1) | exact HB.out)) hb); have n1_ := Aside0.mk (hbox); have n2_ := Aside0.mk ((by rw [hg]; exact (below_size (by repeat (first | (with_reducible first | exact HB.out | apply below_alloc | apply pw_below_drewN | apply below_drew1) | exact HB.out))) : w.heap.size ≤ gb487)); have n3_ := Aside0.mk ((by rw [hg]; exact (below_size (by repeat (first | (with_reducible first | exact HB.out | apply below_alloc | apply pw_below_drewN | apply below_drew1) | exact HB.out))) : w.heap.size ≤ gb487)); clear HB; have HB := n0_; have BK487 := n1_; have GW487 := n2_; have GE487 := n3_; clear n0_ n1_ n2_ n3_; clear hb hbox hg) | ((with_reducible refine gate_dst (N := 3) rfl ?_); (try (refine gate_guard (by rfl) ?_; dsimp only)); refine box_event ?hg (N := 3) ?hd (cs := #[.int .i64 a1_0, .int .i64 a1_1, .int .i64 a1_2, .int .i64 a1_3, .bool false, .int .i64 a1_5, .int .i64 a1_6]) (t := 30) ?hr ?_; (case hd => rfl); (case hg => rfl); (case hr => first | (go_simp; done) | (go_simp; rfl)); intro gb488 hg w42 hbox hb; have n0_ := Aside0.mk (blk_below (g := gb487) (o := .cells #[.int .i64 a0_0, .int .i64 a0_1, .int .i64 a0_2, .int .i64 a0_3, .bool false, .int .i64 a0_5, .int .i64 a0_6] 30 (0, 0)) (by (with_reducible repeat (first | refine blk_drewN ?_ _ | refine blk_drew ?_ | refine blk_alloc ?_ _)); exact BK487.out) hb); have n1_ := Aside0.mk (below_step (by repeat (first | (with_reducible first | exact HB.out | apply below_alloc | apply pw_below_drewN | apply below_drew1 | refine below_set ?_ GE487.out) | exact HB.out)) hb); have n2_ := Aside0.mk (hbox); have n3_ := Aside0.mk ((by rw [hg]; exact (below_size (by repeat (first | (with_reducible first | exact HB.out | apply below_alloc | apply pw_below_drewN | apply below_drew1 | refine below_set ?_ GE487.out) | exact HB.out))) : w.heap.size ≤ gb488)); have n4_ := Aside0.mk ((by rw [hg]; exact (below_size (by repeat (first | (with_reducible first | exact HB.out | apply below_alloc | apply pw_below_drewN | apply below_drew1 | refine below_set ?_ GE487.out) | exact HB.out))) : w.heap.size ≤ gb488)); have n5_ := Aside0.mk ((by rw [hg]; exact Nat.ne_of_lt (blk_lt (g := gb487) (o := .cells #[.int .i64 a0_0, .int .i64 a0_1, .int .i64 a0_2, .int .i64 a0_3, .bool false, .int .i64 a0_5, .int .i64 a0_6] 30 (0, 0)) (by (with_reducible repeat (first | refine blk_drewN ?_ _ | refine blk_drew ?_ | refine blk_alloc ?_ _)); exact BK487.out)) : gb487 ≠ gb488)); have n6_ := Aside0.mk ((by rw [hg]; exact Nat.ne_of_gt (blk_lt (g := gb487) (o := .cells #[.int .i64 a0_0, .int .i64 a0_1, .int .i64 a0_2, .int .i64 a0_3, .bool false, .int .i64 a0_5, .int .i64 a0_6] 30 (0, 0)) (by (with_reducible repeat (first | refine blk_drewN ?_ _ | refine blk_drew ?_ | refine blk_alloc ?_ _)); exact BK487.out)) : gb488 ≠ gb487)); clear BK487; clear HB; have BK487 := n0_; have HB := n1_; have BK488 := n2_; have GW488 := n3_; have GE488 := n4_; have NB487_488 := n5_; have NB488_487 := n6_; clear n0_ n1_ n2_ n3_ n4_ n5_ n6_; clear hb hbox hg; have hnb43 := NB487_488.out; have hnc43 := NB488_487.out; have hcz44_0 : w42.cell? ⟨gb487, 0, none⟩ = some (.int .i64 a0_0) := (blk_cell BK487.out 0).trans rfl; have hcz44_1 : w42.cell? ⟨gb487, 1, none⟩ = some (.int .i64 a0_1) := (blk_cell BK487.out 1).trans rfl; have hcz44_2 : w42.cell? ⟨gb487, 2, none⟩ = some (.int .i64 a0_2) := (blk_cell BK487.out 2).trans rfl; have hcz44_3 : w42.cell? ⟨gb487, 3, none⟩ = some (.int .i64 a0_3) := (blk_cell BK487.out 3).trans rfl; have hcz44_4 : w42.cell? ⟨gb487, 4, none⟩ = some (.bool false) := (blk_cell BK487.out 4).trans rfl; have hcz44_5 : w42.cell? ⟨gb487, 5, none⟩ = some (.int .i64 a0_5) := (blk_cell BK487.out 5).trans rfl; have hcz44_6 : w42.cell? ⟨gb487, 6, none⟩ = some (.int .i64 a0_6) := (blk_cell BK487.out 6).trans rfl; have hfz44_0 := blk_frozen BK487.out 0; have hfz44_1 := blk_frozen BK487.out 1; have hfz44_2 := blk_frozen BK487.out 2; have hfz44_3 := blk_frozen BK487.out 3; have hfz44_4 := blk_frozen BK487.out 4; have hfz44_5 := blk_frozen BK487.out 5; have hfz44_6 := blk_frozen BK487.out 6; have hcz45_0 : w42.cell? ⟨gb488, 0, none⟩ = some (.int .i64 a1_0) := (blk_cell BK488.out 0).trans rfl; have hcz45_1 : w42.cell? ⟨gb488, 1, none⟩ = some (.int .i64 a1_1) := (blk_cell BK488.out 1).trans rfl; have hcz45_2 : w42.cell? ⟨gb488, 2, none⟩ = some (.int .i64 a1_2) := (blk_cell BK488.out 2).trans rfl; have hcz45_3 : w42.cell? ⟨gb488, 3, none⟩ = some (.int .i64 a1_3) := (blk_cell BK488.out 3).trans rfl; have hcz45_4 : w42.cell? ⟨gb488, 4, none⟩ = some (.bool false) := (blk_cell BK488.out 4).trans rfl; have hcz45_5 : w42.cell? ⟨gb488, 5, none⟩ = some (.int .i64 a1_5) := (blk_cell BK488.out 5).trans rfl; have hcz45_6 : w42.cell? ⟨gb488, 6, none⟩ = some (.int .i64 a1_6) := (blk_cell BK488.out 6).trans rfl; have hfz45_0 := blk_frozen BK488.out 0; have hfz45_1 := blk_frozen BK488.out 1; have hfz45_2 := blk_frozen BK488.out 2; have hfz45_3 := blk_frozen BK488.out 3; have hfz45_4 := blk_frozen BK488.out 4; have hfz45_5 := blk_frozen BK488.out 5; have hfz45_6 := blk_frozen BK488.out 6))
      go_ret
      exact ⟨by first | rfl | (simp [errW_none, errW_some] <;> rfl) | (simp [*, errW_none, errW_some] <;> rfl), by repeat (first | (with_reducible first | exact HB.out | apply below_alloc | apply pw_below_drewN | apply below_drew1 | refine below_set ?_ GE487.out | refine below_set ?_ GE488.out) | exact HB.out)⟩

end Go.Proofs.Ytpbboooeahmgpaa.P


namespace Go.Proofs.Ytpbboooeahmgpaa.P
open Go.RowKit Go.Proofs.YtpbboooeahmgpaaW.PrintWords Go.Proofs.YtpbboooeahmgpaaW.PrintLast Go.Proofs.YtpbboooeahmgpaaW.PrintMore
attribute [local go_sem] max2_int min2_int max_two min_two max_three min_three max_four min_four   -- for this text's walks alone
set_option linter.unusedVariables false
set_option linter.unusedSimpArgs false

/-! ### impl_conflicts: function 77 -/
mutual
def impl_conflicts.l0 : Nat → List (SimplLoan) → List (SA2int) → List (SimplLoan) → Int → Int → Option ((List (SA2int)))
  | 0, _, _, _, _, _ => none
  | k + 1, x0, x3, x8, x9, x10 => if x10 < x9 then (if 0 ≤ x10 then (if x10 < (x8.length : Int) then (impl_conflicts.l1 k x0 x3 x10 (wrap64 (x10 + 1)) x8 x9 x10 ((rd_TimplLoan x8 x10).f0.f0) ((rd_TimplLoan x8 x10).f0.f1) ((rd_TimplLoan x8 x10).f0.f2) ((rd_TimplLoan x8 x10).f0.f3) ((rd_TimplLoan x8 x10).f1) ((rd_TimplLoan x8 x10).f2) ((rd_TimplLoan x8 x10).f3)) else (none)) else (none)) else (some x3)
def impl_conflicts.l1 : Nat → List (SimplLoan) → List (SA2int) → Int → Int → List (SimplLoan) → Int → Int → Int → Int → Int → Int → Bool → Int → Int → Option ((List (SA2int)))
  | 0, _, _, _, _, _, _, _, _, _, _, _, _, _, _ => none
  | k + 1, x0, x3, x4, x6, x8, x9, x10, x496000, x496001, x496002, x496003, x496004, x496005, x496006 => if x6 < (x0.length : Int) then (if 0 ≤ x6 then ((impl_inConflict.f x496000 x496001 x496002 x496003 x496004 x496005 x496006 ((rd_TimplLoan x0 x6).f0.f0) ((rd_TimplLoan x0 x6).f0.f1) ((rd_TimplLoan x0 x6).f0.f2) ((rd_TimplLoan x0 x6).f0.f3) ((rd_TimplLoan x0 x6).f1) ((rd_TimplLoan x0 x6).f2) ((rd_TimplLoan x0 x6).f3)).bind fun t497 => (if t497 = true then (if x3.length < 8796093022208 then (impl_conflicts.l1 k x0 (x3 ++ [(⟨x4, x6⟩ : SA2int)]) x4 (wrap64 (x6 + 1)) x8 x9 x10 x496000 x496001 x496002 x496003 x496004 x496005 x496006) else (none)) else (impl_conflicts.l1 k x0 x3 x4 (wrap64 (x6 + 1)) x8 x9 x10 x496000 x496001 x496002 x496003 x496004 x496005 x496006))) else (none)) else (impl_conflicts.l0 k x0 x3 x8 x9 (wrap64 (x10 + 1)))
end
def impl_conflicts.f (k : Nat) (l0 : List (SimplLoan)) : Option ((List (SA2int))) := impl_conflicts.l0 k l0 (([] : List (SA2int))) l0 (l0.length : Int) 0
set_option maxHeartbeats 8000000 in
set_option maxRecDepth 100000 in
theorem impl_conflicts.calls (k : Nat) (A0 : Option Addr) (c0 : Nat) (l0 : List (SimplLoan)) (r : List (SA2int)) (w : World) (hr0 : Kd.C kimplLoan w A0 l0.length l0) (hc0 : l0.length ≤ c0) (h : impl_conflicts.f k l0 = some r) :
    Calls Try.prog 77 #[.slice A0 l0.length c0] w fun e w' => ∃ v0_ : Value, e = .returned (v0_) ∧ Kd.R kA2int 75 w' w.heap.size (fun _ => True) v0_ r ∧ Below w.heap.size w w' := by
  have hu30 := Try.underlying30
  have hu75 := Try.underlying75
  have HR0 := Aside0.mk hr0
  have HC0 := Aside0.mk hc0
  clear hr0 hc0
  have HB := Aside0.mk (Below.refl w.heap.size w)
  have H : (impl_conflicts.l0 k l0 (([] : List (SA2int))) l0 (l0.length : Int) 0) = some r := h
  clear h
  obtain ⟨y491, hy491⟩ : ∃ y_ : List (SA2int), y_ = (([] : List (SA2int))) := ⟨_, rfl⟩
  replace H : (impl_conflicts.l0 k l0 y491 l0 (l0.length : Int) 0) = some r := by first | (rw [hy491]; with_reducible exact H) | (have H2_ := (Option.bind_some _ _).symm.trans H; rw [hy491]; with_reducible exact H2_) | (have H2_ := (Option.bind_some _ _).symm.trans H; with_reducible exact H2_) | with_reducible exact H | (rw [hy491]; exact H) | exact H
  have Ny491 := Aside0.mk hy491
  clear hy491
  have H' := Aside0.mk H
  clear H
  go_enter Try.func77, Try.ntmps77
  go_wp2_with (first | ((with_reducible refine gate_dst (N := 7) rfl ?_); refine Kd.R_lit kA2int _ 75 ?hg (N := 7) ?hd (xs := ([] : List (SA2int))) (inner := []) (ok := fun _ => True) (okp := fun _ => True) ?hr ?hp (fun _ hk => hk) trivial (Below.refl _ _) (Nat.le_refl _) (by simp) ?_; (case hd => rfl); (case hg => rfl); (case hr => first | (go_simp; done) | (go_simp; rfl)); (case hp => exact (Reps.none _ _)); intro v492 w2 ho3 hb hg_ hnew_; clear hg_ hnew_; (first | rw [← Ny491.out] at ho3 | (simp only [Int.reduceToNat] at ho3; rw [← Ny491.out] at ho3)); have n0_ := Aside0.mk (Kd.R_lower ho3 (below_size (by repeat (first | (with_reducible first | exact HB.out | apply below_alloc | apply pw_below_drewN | apply below_drew1) | exact HB.out)))); have n1_ := Aside0.mk (below_step (by repeat (first | (with_reducible first | exact HB.out | apply below_alloc | apply pw_below_drewN | apply below_drew1) | exact HB.out)) hb); clear HB; have HO493 := n0_; have HB := n1_; clear n0_ n1_; clear hb ho3))
  go_loopg [3, 10] k (fun kq v3 v10 w' => ∃ (x3_1 : List (SA2int)) (x10_1 : Int), v10 = .int .i64 x10_1 ∧ Aside0 (impl_conflicts.l0 kq l0 x3_1 l0 (l0.length : Int) x10_1 = some r) ∧ Aside0 (kq ≤ k) ∧ Aside0 (Kd.R kA2int 75 w' w.heap.size (fun _ => True) v3 x3_1) ∧ Aside0 (Below w.heap.size w w'))
  case atStart => exact ⟨(y491), (0), (by first | rfl | (simp; done) | (simp [*]; done)), H', ⟨Nat.le_refl _⟩, ⟨by (with_reducible repeat (first | apply Kd.R_alloc | apply Kd.R_drewN | apply Kd.R_drew)); exact HO493.out⟩, ⟨by repeat (first | (with_reducible first | exact HB.out | apply below_alloc | apply pw_below_drewN | apply below_drew1) | exact HB.out)⟩⟩
  case round =>
    clear H'
    try clear p2
    obtain ⟨x3_1, x10_1, rfl, HA, HK1, HO_3, HB⟩ := hrel
    cases gk with
    | zero => exact absurd HA.out (by simp [impl_conflicts.l0])
    | succ k1 =>
      have H := HA.out
      clear HA
      simp only [impl_conflicts.l0] at H
      by_cases c4 : x10_1 < (l0.length : Int)
      · rw [if_pos c4] at H
        have c4b0 : decide (x10_1 < (l0.length : Int)) = true := decide_eq_true c4
        clear c4
        by_cases c5 : 0 ≤ x10_1
        · rw [if_pos c5] at H
          have c5b0 : decide (0 ≤ x10_1) = true := decide_eq_true c5
          clear c5
          by_cases c6 : x10_1 < (l0.length : Int)
          · rw [if_pos c6] at H
            have c6b0 : decide (x10_1 < (l0.length : Int)) = true := decide_eq_true c6
            clear c6
            have H' := Aside0.mk H
            clear H
            have p494 : 0 ≤ (x10_1 : Int) := of_decide_eq_true (by first | (with_reducible assumption) | assumption)
            have q494 : x10_1 < (l0.length : Int) := of_decide_eq_true (by first | (with_reducible assumption) | assumption)
            obtain ⟨ad494, e494, hx494_0, hx494_1, hx494_2, hx494_3, hx494_4, hx494_5, hx494_6⟩ := at_TimplLoan HR0.out x10_1 p494 q494
            cases e494
            replace hx494_0 := (HB.out.cell (World.block_lt_of_cell? w _ hx494_0)).trans hx494_0
            replace hx494_1 := (HB.out.cell (World.block_lt_of_cell? w _ hx494_1)).trans hx494_1
            replace hx494_2 := (HB.out.cell (World.block_lt_of_cell? w _ hx494_2)).trans hx494_2
            replace hx494_3 := (HB.out.cell (World.block_lt_of_cell? w _ hx494_3)).trans hx494_3
            replace hx494_4 := (HB.out.cell (World.block_lt_of_cell? w _ hx494_4)).trans hx494_4
            replace hx494_5 := (HB.out.cell (World.block_lt_of_cell? w _ hx494_5)).trans hx494_5
            replace hx494_6 := (HB.out.cell (World.block_lt_of_cell? w _ hx494_6)).trans hx494_6
            replace p494 := eq_true p494
            replace q494 := eq_true q494
            go_wp2_with (first | ((with_reducible refine gate_dst (N := 5) rfl ?_); refine box_event ?hg (N := 5) ?hd (cs := #[.int .i64 0, .int .i64 0, .int .i64 0, .int .i64 0, .bool false, .int .i64 0, .int .i64 0]) (t := 30) ?hr ?_; (case hd => rfl); (case hg => rfl); (case hr => first | (go_simp; done) | (go_simp; rfl)); intro gb495 hg w7 hbox hb; have n0_ := Aside0.mk (Kd.R_below (by (with_reducible repeat (first | apply Kd.R_alloc | apply Kd.R_drewN | apply Kd.R_drew)); exact HO_3.out) hb); have n1_ := Aside0.mk (below_step (by repeat (first | (with_reducible first | exact HB.out | apply below_alloc | apply pw_below_drewN | apply below_drew1) | exact HB.out)) hb); have n2_ := Aside0.mk (hbox); have n3_ := Aside0.mk ((by rw [hg]; exact (below_size (by repeat (first | (with_reducible first | exact HB.out | apply below_alloc | apply pw_below_drewN | apply below_drew1) | exact HB.out))) : w.heap.size ≤ gb495)); have n4_ := Aside0.mk ((by rw [hg]; exact (below_size (by repeat (first | (with_reducible first | exact HB.out | apply below_alloc | apply pw_below_drewN | apply below_drew1) | exact HB.out))) : w.heap.size ≤ gb495)); clear HO_3; clear HB; have HO_3 := n0_; have HB := n1_; have BK495 := n2_; have GW495 := n3_; have GE495 := n4_; clear n0_ n1_ n2_ n3_ n4_; clear hb hbox hg; have hcz8_0 : w7.cell? ⟨gb495, 0, none⟩ = some (.int .i64 0) := (blk_cell BK495.out 0).trans rfl; have hcz8_1 : w7.cell? ⟨gb495, 1, none⟩ = some (.int .i64 0) := (blk_cell BK495.out 1).trans rfl; have hcz8_2 : w7.cell? ⟨gb495, 2, none⟩ = some (.int .i64 0) := (blk_cell BK495.out 2).trans rfl; have hcz8_3 : w7.cell? ⟨gb495, 3, none⟩ = some (.int .i64 0) := (blk_cell BK495.out 3).trans rfl; have hcz8_4 : w7.cell? ⟨gb495, 4, none⟩ = some (.bool false) := (blk_cell BK495.out 4).trans rfl; have hcz8_5 : w7.cell? ⟨gb495, 5, none⟩ = some (.int .i64 0) := (blk_cell BK495.out 5).trans rfl; have hcz8_6 : w7.cell? ⟨gb495, 6, none⟩ = some (.int .i64 0) := (blk_cell BK495.out 6).trans rfl; have hfz8_0 := blk_frozen BK495.out 0; have hfz8_1 := blk_frozen BK495.out 1; have hfz8_2 := blk_frozen BK495.out 2; have hfz8_3 := blk_frozen BK495.out 3; have hfz8_4 := blk_frozen BK495.out 4; have hfz8_5 := blk_frozen BK495.out 5; have hfz8_6 := blk_frozen BK495.out 6))
            go_loopg [3, 6] k1 (fun kq v3 v6 w' => ∃ (x3_2 : List (SA2int)) (x6_2 : Int), v6 = .int .i64 x6_2 ∧ Aside0 (impl_conflicts.l1 kq l0 x3_2 x10_1 x6_2 l0 (l0.length : Int) x10_1 ((rd_TimplLoan l0 x10_1).f0.f0) ((rd_TimplLoan l0 x10_1).f0.f1) ((rd_TimplLoan l0 x10_1).f0.f2) ((rd_TimplLoan l0 x10_1).f0.f3) ((rd_TimplLoan l0 x10_1).f1) ((rd_TimplLoan l0 x10_1).f2) ((rd_TimplLoan l0 x10_1).f3) = some r) ∧ Aside0 (kq ≤ k1) ∧ Aside0 (Kd.R kA2int 75 w' w.heap.size (fun _ => True) v3 x3_2) ∧ Aside0 (w'.heap[gb495]? = some (.cells #[.int .i64 ((rd_TimplLoan l0 x10_1).f0.f0), .int .i64 ((rd_TimplLoan l0 x10_1).f0.f1), .int .i64 ((rd_TimplLoan l0 x10_1).f0.f2), .int .i64 ((rd_TimplLoan l0 x10_1).f0.f3), .bool ((rd_TimplLoan l0 x10_1).f1), .int .i64 ((rd_TimplLoan l0 x10_1).f2), .int .i64 ((rd_TimplLoan l0 x10_1).f3)] 30 (0, 0))) ∧ Aside0 (Below w.heap.size w w'))
            case atStart => exact ⟨(x3_1), (wrap64 (x10_1 + 1)), (by first | rfl | (simp; done) | (simp [*]; done)), H', ⟨Nat.le_refl _⟩, ⟨by (with_reducible repeat (first | apply Kd.R_alloc | apply Kd.R_drewN | apply Kd.R_drew)); exact Kd.R_mono (Kd.R_far (p := ⟨gb495, 6, none⟩) (Kd.R_far (p := ⟨gb495, 5, none⟩) (Kd.R_far (p := ⟨gb495, 4, none⟩) (Kd.R_far (p := ⟨gb495, 3, none⟩) (Kd.R_far (p := ⟨gb495, 2, none⟩) (Kd.R_far (p := ⟨gb495, 1, none⟩) (Kd.R_far (p := ⟨gb495, 0, none⟩) (Kd.R_types HO_3.out BK495.out (by decide)) (fun _ hk => hk.2) (.int .i64 ((rd_TimplLoan l0 x10_1).f0.f0))) (fun _ hk => hk.2) (.int .i64 ((rd_TimplLoan l0 x10_1).f0.f1))) (fun _ hk => hk.2) (.int .i64 ((rd_TimplLoan l0 x10_1).f0.f2))) (fun _ hk => hk.2) (.int .i64 ((rd_TimplLoan l0 x10_1).f0.f3))) (fun _ hk => hk.2) (.bool ((rd_TimplLoan l0 x10_1).f1))) (fun _ hk => hk.2) (.int .i64 ((rd_TimplLoan l0 x10_1).f2))) (fun _ hk => hk.2) (.int .i64 ((rd_TimplLoan l0 x10_1).f3))) (fun _ hk => trivial)⟩, ⟨by (with_reducible repeat (first | refine blk_drewN ?_ _ | refine blk_drew ?_ | refine blk_alloc ?_ _)); refine blk_put (cs := #[.int .i64 ((rd_TimplLoan l0 x10_1).f0.f0), .int .i64 ((rd_TimplLoan l0 x10_1).f0.f1), .int .i64 ((rd_TimplLoan l0 x10_1).f0.f2), .int .i64 ((rd_TimplLoan l0 x10_1).f0.f3), .bool ((rd_TimplLoan l0 x10_1).f1), .int .i64 ((rd_TimplLoan l0 x10_1).f2), .int .i64 0]) ?_ 6 _ rfl; (with_reducible repeat (first | refine blk_drewN ?_ _ | refine blk_drew ?_ | refine blk_alloc ?_ _)); refine blk_put (cs := #[.int .i64 ((rd_TimplLoan l0 x10_1).f0.f0), .int .i64 ((rd_TimplLoan l0 x10_1).f0.f1), .int .i64 ((rd_TimplLoan l0 x10_1).f0.f2), .int .i64 ((rd_TimplLoan l0 x10_1).f0.f3), .bool ((rd_TimplLoan l0 x10_1).f1), .int .i64 0, .int .i64 0]) ?_ 5 _ rfl; (with_reducible repeat (first | refine blk_drewN ?_ _ | refine blk_drew ?_ | refine blk_alloc ?_ _)); refine blk_put (cs := #[.int .i64 ((rd_TimplLoan l0 x10_1).f0.f0), .int .i64 ((rd_TimplLoan l0 x10_1).f0.f1), .int .i64 ((rd_TimplLoan l0 x10_1).f0.f2), .int .i64 ((rd_TimplLoan l0 x10_1).f0.f3), .bool false, .int .i64 0, .int .i64 0]) ?_ 4 _ rfl; (with_reducible repeat (first | refine blk_drewN ?_ _ | refine blk_drew ?_ | refine blk_alloc ?_ _)); refine blk_put (cs := #[.int .i64 ((rd_TimplLoan l0 x10_1).f0.f0), .int .i64 ((rd_TimplLoan l0 x10_1).f0.f1), .int .i64 ((rd_TimplLoan l0 x10_1).f0.f2), .int .i64 0, .bool false, .int .i64 0, .int .i64 0]) ?_ 3 _ rfl; (with_reducible repeat (first | refine blk_drewN ?_ _ | refine blk_drew ?_ | refine blk_alloc ?_ _)); refine blk_put (cs := #[.int .i64 ((rd_TimplLoan l0 x10_1).f0.f0), .int .i64 ((rd_TimplLoan l0 x10_1).f0.f1), .int .i64 0, .int .i64 0, .bool false, .int .i64 0, .int .i64 0]) ?_ 2 _ rfl; (with_reducible repeat (first | refine blk_drewN ?_ _ | refine blk_drew ?_ | refine blk_alloc ?_ _)); refine blk_put (cs := #[.int .i64 ((rd_TimplLoan l0 x10_1).f0.f0), .int .i64 0, .int .i64 0, .int .i64 0, .bool false, .int .i64 0, .int .i64 0]) ?_ 1 _ rfl; (with_reducible repeat (first | refine blk_drewN ?_ _ | refine blk_drew ?_ | refine blk_alloc ?_ _)); refine blk_put (cs := #[.int .i64 0, .int .i64 0, .int .i64 0, .int .i64 0, .bool false, .int .i64 0, .int .i64 0]) ?_ 0 _ rfl; (with_reducible repeat (first | refine blk_drewN ?_ _ | refine blk_drew ?_ | refine blk_alloc ?_ _)); exact BK495.out⟩, ⟨by repeat (first | (with_reducible first | exact HB.out | apply below_alloc | apply pw_below_drewN | apply below_drew1 | refine below_set ?_ GE495.out) | exact HB.out)⟩⟩
            case round =>
              clear H'
              try clear p2
              try clear c4
              try clear c4b0
              try clear p4
              try clear q4
              try clear hx4
              try clear c5
              try clear c5b0
              try clear c6
              try clear c6b0
              try clear p6
              try clear c7
              try clear hcz8_0
              try clear hcz8_1
              try clear hcz8_2
              try clear hcz8_3
              try clear hcz8_4
              try clear hcz8_5
              try clear hcz8_6
              try clear hfz8_0
              try clear hfz8_1
              try clear hfz8_2
              try clear hfz8_3
              try clear hfz8_4
              try clear hfz8_5
              try clear hfz8_6
              try clear hx494_0
              try clear hx494_1
              try clear hx494_2
              try clear hx494_3
              try clear hx494_4
              try clear hx494_5
              try clear hx494_6
              try clear p2
              try clear p494
              try clear q494
              obtain ⟨x3_2, x6_2, rfl, HA, HK2, HO_3, BK495, HB⟩ := hrel
              cases gk with
              | zero => exact absurd HA.out (by simp [impl_conflicts.l1])
              | succ k2 =>
                have H := HA.out
                clear HA
                simp only [impl_conflicts.l1] at H
                by_cases c9 : x6_2 < (l0.length : Int)
                · rw [if_pos c9] at H
                  have c9b0 : decide (x6_2 < (l0.length : Int)) = true := decide_eq_true c9
                  clear c9
                  by_cases c10 : 0 ≤ x6_2
                  · rw [if_pos c10] at H
                    have c10b0 : decide (0 ≤ x6_2) = true := decide_eq_true c10
                    clear c10
                    replace H := Option.bind_eq_some_iff.mp H
                    obtain ⟨t497, A110, H⟩ := H
                    replace H : (if t497 = true then (if x3_2.length < 8796093022208 then (impl_conflicts.l1 k2 l0 (x3_2 ++ [(⟨x10_1, x6_2⟩ : SA2int)]) x10_1 (wrap64 (x6_2 + 1)) l0 (l0.length : Int) x10_1 ((rd_TimplLoan l0 x10_1).f0.f0) ((rd_TimplLoan l0 x10_1).f0.f1) ((rd_TimplLoan l0 x10_1).f0.f2) ((rd_TimplLoan l0 x10_1).f0.f3) ((rd_TimplLoan l0 x10_1).f1) ((rd_TimplLoan l0 x10_1).f2) ((rd_TimplLoan l0 x10_1).f3)) else (none)) else (impl_conflicts.l1 k2 l0 x3_2 x10_1 (wrap64 (x6_2 + 1)) l0 (l0.length : Int) x10_1 ((rd_TimplLoan l0 x10_1).f0.f0) ((rd_TimplLoan l0 x10_1).f0.f1) ((rd_TimplLoan l0 x10_1).f0.f2) ((rd_TimplLoan l0 x10_1).f0.f3) ((rd_TimplLoan l0 x10_1).f1) ((rd_TimplLoan l0 x10_1).f2) ((rd_TimplLoan l0 x10_1).f3))) = some r := H
                    have A11 := Aside0.mk A110
                    clear A110
                    by_cases c12 : t497 = true
                    · subst c12
                      have H1 : (if x3_2.length < 8796093022208 then (impl_conflicts.l1 k2 l0 (x3_2 ++ [(⟨x10_1, x6_2⟩ : SA2int)]) x10_1 (wrap64 (x6_2 + 1)) l0 (l0.length : Int) x10_1 ((rd_TimplLoan l0 x10_1).f0.f0) ((rd_TimplLoan l0 x10_1).f0.f1) ((rd_TimplLoan l0 x10_1).f0.f2) ((rd_TimplLoan l0 x10_1).f0.f3) ((rd_TimplLoan l0 x10_1).f1) ((rd_TimplLoan l0 x10_1).f2) ((rd_TimplLoan l0 x10_1).f3)) else (none)) = some r := by rw [if_pos rfl] at H; exact H
                      clear H
                      have H := H1
                      clear H1
                      by_cases c13 : x3_2.length < 8796093022208
                      · rw [if_pos c13] at H
                        have LMc13 := Aside0.mk c13
                        clear c13
                        obtain ⟨y498, hy498⟩ : ∃ y_ : List (SA2int), y_ = (x3_2 ++ [(⟨x10_1, x6_2⟩ : SA2int)]) := ⟨_, rfl⟩
                        replace H : (impl_conflicts.l1 k2 l0 y498 x10_1 (wrap64 (x6_2 + 1)) l0 (l0.length : Int) x10_1 ((rd_TimplLoan l0 x10_1).f0.f0) ((rd_TimplLoan l0 x10_1).f0.f1) ((rd_TimplLoan l0 x10_1).f0.f2) ((rd_TimplLoan l0 x10_1).f0.f3) ((rd_TimplLoan l0 x10_1).f1) ((rd_TimplLoan l0 x10_1).f2) ((rd_TimplLoan l0 x10_1).f3)) = some r := by first | (rw [hy498]; with_reducible exact H) | (have H2_ := (Option.bind_some _ _).symm.trans H; rw [hy498]; with_reducible exact H2_) | (have H2_ := (Option.bind_some _ _).symm.trans H; with_reducible exact H2_) | with_reducible exact H | (rw [hy498]; exact H) | exact H
                        have Ny498 := Aside0.mk hy498
                        clear hy498
                        have H' := Aside0.mk H
                        clear H
                        try go_wp2
                        have n0_ := Aside0.mk (Kd.R_drew HO_3.out)
                        have n1_ := Aside0.mk (blk_drew BK495.out)
                        have n2_ := Aside0.mk (below_drew1 HB.out)
                        clear HO_3
                        clear BK495
                        clear HB
                        have HO_3 := n0_
                        have BK495 := n1_
                        have HB := n2_
                        clear n0_ n1_ n2_
                        have p496 : 0 ≤ (x6_2 : Int) := of_decide_eq_true (by first | (with_reducible assumption) | assumption)
                        have q496 : x6_2 < (l0.length : Int) := of_decide_eq_true (by first | (with_reducible assumption) | assumption)
                        obtain ⟨ad496, e496, hx496_0, hx496_1, hx496_2, hx496_3, hx496_4, hx496_5, hx496_6⟩ := at_TimplLoan HR0.out x6_2 p496 q496
                        have hw496_6 := hx496_6
                        have hw496_5 := hx496_5
                        have hw496_4 := hx496_4
                        have hw496_3 := hx496_3
                        have hw496_2 := hx496_2
                        have hw496_1 := hx496_1
                        have hw496_0 := hx496_0
                        obtain rfl : ad494 = ad496 := (by injection e496)
                        replace hx496_0 := (HB.out.cell (World.block_lt_of_cell? w _ hx496_0)).trans hx496_0
                        replace hx496_1 := (HB.out.cell (World.block_lt_of_cell? w _ hx496_1)).trans hx496_1
                        replace hx496_2 := (HB.out.cell (World.block_lt_of_cell? w _ hx496_2)).trans hx496_2
                        replace hx496_3 := (HB.out.cell (World.block_lt_of_cell? w _ hx496_3)).trans hx496_3
                        replace hx496_4 := (HB.out.cell (World.block_lt_of_cell? w _ hx496_4)).trans hx496_4
                        replace hx496_5 := (HB.out.cell (World.block_lt_of_cell? w _ hx496_5)).trans hx496_5
                        replace hx496_6 := (HB.out.cell (World.block_lt_of_cell? w _ hx496_6)).trans hx496_6
                        replace p496 := eq_true p496
                        replace q496 := eq_true q496
                        refine start_ (n := 6) (S := fun w' => w'.cell? ⟨gb495, 0, none⟩ = some (.int .i64 ((rd_TimplLoan l0 x10_1).f0.f0)) ∧ w'.cell? ⟨gb495, 1, none⟩ = some (.int .i64 ((rd_TimplLoan l0 x10_1).f0.f1)) ∧ w'.cell? ⟨gb495, 2, none⟩ = some (.int .i64 ((rd_TimplLoan l0 x10_1).f0.f2)) ∧ w'.cell? ⟨gb495, 3, none⟩ = some (.int .i64 ((rd_TimplLoan l0 x10_1).f0.f3)) ∧ w'.cell? ⟨gb495, 4, none⟩ = some (.bool ((rd_TimplLoan l0 x10_1).f1)) ∧ w'.cell? ⟨gb495, 5, none⟩ = some (.int .i64 ((rd_TimplLoan l0 x10_1).f2)) ∧ w'.cell? ⟨gb495, 6, none⟩ = some (.int .i64 ((rd_TimplLoan l0 x10_1).f3)) ∧ w'.cell? (ad494.add ((x6_2).toNat * 7)) = some (.int .i64 ((rd_TimplLoan l0 x6_2).f0.f0)) ∧ w'.cell? ⟨(ad494.add ((x6_2).toNat * 7)).block, (ad494.add ((x6_2).toNat * 7)).off + 1, none⟩ = some (.int .i64 ((rd_TimplLoan l0 x6_2).f0.f1)) ∧ w'.cell? ⟨(ad494.add ((x6_2).toNat * 7)).block, (ad494.add ((x6_2).toNat * 7)).off + 2, none⟩ = some (.int .i64 ((rd_TimplLoan l0 x6_2).f0.f2)) ∧ w'.cell? ⟨(ad494.add ((x6_2).toNat * 7)).block, (ad494.add ((x6_2).toNat * 7)).off + 3, none⟩ = some (.int .i64 ((rd_TimplLoan l0 x6_2).f0.f3)) ∧ w'.cell? ⟨(ad494.add ((x6_2).toNat * 7)).block, (ad494.add ((x6_2).toNat * 7)).off + 4, none⟩ = some (.bool ((rd_TimplLoan l0 x6_2).f1)) ∧ w'.cell? ⟨(ad494.add ((x6_2).toNat * 7)).block, (ad494.add ((x6_2).toNat * 7)).off + 5, none⟩ = some (.int .i64 ((rd_TimplLoan l0 x6_2).f2)) ∧ w'.cell? ⟨(ad494.add ((x6_2).toNat * 7)).block, (ad494.add ((x6_2).toNat * 7)).off + 6, none⟩ = some (.int .i64 ((rd_TimplLoan l0 x6_2).f3))) (ds := []) #[false, false, false, false, false, false] (by kernel_rfl) rfl rfl ⟨(blk_cell BK495.out 0).trans rfl, (blk_cell BK495.out 1).trans rfl, (blk_cell BK495.out 2).trans rfl, (blk_cell BK495.out 3).trans rfl, (blk_cell BK495.out 4).trans rfl, (blk_cell BK495.out 5).trans rfl, (blk_cell BK495.out 6).trans rfl, (by have h_ := ((HB.out.cell (World.block_lt_of_cell? w _ hw496_0)).trans hw496_0); first | exact h_ | (simp only [*] at h_; exact h_) | simpa [*] using h_), (by have h_ := ((HB.out.cell (World.block_lt_of_cell? w _ hw496_1)).trans hw496_1); first | exact h_ | (simp only [*] at h_; exact h_) | simpa [*] using h_), (by have h_ := ((HB.out.cell (World.block_lt_of_cell? w _ hw496_2)).trans hw496_2); first | exact h_ | (simp only [*] at h_; exact h_) | simpa [*] using h_), (by have h_ := ((HB.out.cell (World.block_lt_of_cell? w _ hw496_3)).trans hw496_3); first | exact h_ | (simp only [*] at h_; exact h_) | simpa [*] using h_), (by have h_ := ((HB.out.cell (World.block_lt_of_cell? w _ hw496_4)).trans hw496_4); first | exact h_ | (simp only [*] at h_; exact h_) | simpa [*] using h_), (by have h_ := ((HB.out.cell (World.block_lt_of_cell? w _ hw496_5)).trans hw496_5); first | exact h_ | (simp only [*] at h_; exact h_) | simpa [*] using h_), (by have h_ := ((HB.out.cell (World.block_lt_of_cell? w _ hw496_6)).trans hw496_6); first | exact h_ | (simp only [*] at h_; exact h_) | simpa [*] using h_)⟩ (fun hHeld => ?_)
                        generalize wr.drew = w14 at HO_3 BK495 HB hx496_0 hx496_1 hx496_2 hx496_3 hx496_4 hx496_5 hx496_6 hHeld ⊢
                        refine pure_ (i := 1) (N := some 24) (v := ?_) (a' := ?_) #[false, true, false, false, false, false] rfl rfl (by kernel_rfl) (fun _ _ _ h => h) (Or.inl ⟨by rfl, ?_⟩) ?_ ?_
                        rotate_left
                        · intro w'
                          go_simp
                          with_reducible rfl
                        rotate_left
                        · simp only [Act.put, List.setIfInBounds_toArray, List.set_cons_zero, List.set_cons_succ, i64_w, i32_w]
                          rfl
                        refine pure_ (i := 2) (N := some 25) (v := ?_) (a' := ?_) #[false, true, true, false, false, false] rfl rfl (by kernel_rfl) (fun _ _ _ h => h) (Or.inl ⟨by rfl, ?_⟩) ?_ ?_
                        rotate_left
                        · intro w'
                          go_simp
                          with_reducible rfl
                        rotate_left
                        · simp only [Act.put, List.setIfInBounds_toArray, List.set_cons_zero, List.set_cons_succ, i64_w, i32_w]
                          rfl
                        refine pure_ (i := 3) (N := some 26) (v := ?_) (a' := ?_) #[false, true, true, true, false, false] rfl rfl (by kernel_rfl) (fun _ _ _ h => h) (Or.inl ⟨by rfl, ?_⟩) ?_ ?_
                        rotate_left
                        · intro w'
                          go_simp
                          with_reducible rfl
                        rotate_left
                        · simp only [Act.put, List.setIfInBounds_toArray, List.set_cons_zero, List.set_cons_succ, i64_w, i32_w]
                          rfl
                        refine take_ (i := 0) (N := some 23) (v := ?_) (a' := ?_) #[true, true, true, true, false, false] rfl rfl (by kernel_rfl) (fun _ _ _ h => h) (Or.inl ⟨by rfl, ?_⟩) hHeld ?_ ?_
                        rotate_left
                        · rintro w' ⟨s0, s1, s2, s3, s4, s5, s6, s7, s8, s9, s10, s11, s12, s13⟩
                          go_simp
                          with_reducible rfl
                        rotate_left
                        · simp only [Act.put, List.setIfInBounds_toArray, List.set_cons_zero, List.set_cons_succ, i64_w, i32_w]
                          rfl
                        refine take_ (i := 4) (N := some 27) (v := ?_) (a' := ?_) #[true, true, true, true, true, false] rfl rfl (by kernel_rfl) (fun _ _ _ h => h) (Or.inl ⟨by rfl, ?_⟩) hHeld ?_ ?_
                        rotate_left
                        · rintro w' ⟨s0, s1, s2, s3, s4, s5, s6, s7, s8, s9, s10, s11, s12, s13⟩
                          go_simp
                          with_reducible rfl
                        rotate_left
                        · simp only [Act.put, List.setIfInBounds_toArray, List.set_cons_zero, List.set_cons_succ, i64_w, i32_w]
                          rfl
                        refine one_ (i := 5) (N := some 28) #[true, true, true, true, true, true] rfl rfl (by kernel_rfl) (by decide) (fun K hK => ?_)
                        refine goes_ Try.func78 (by kernel_rfl) rfl #[.agg #[.int .i64 ((rd_TimplLoan l0 x10_1).f0.f0), .int .i64 ((rd_TimplLoan l0 x10_1).f0.f1), .int .i64 ((rd_TimplLoan l0 x10_1).f0.f2), .int .i64 ((rd_TimplLoan l0 x10_1).f0.f3), .bool ((rd_TimplLoan l0 x10_1).f1), .int .i64 ((rd_TimplLoan l0 x10_1).f2), .int .i64 ((rd_TimplLoan l0 x10_1).f3)], .agg #[.int .i64 ((rd_TimplLoan l0 x6_2).f0.f0), .int .i64 ((rd_TimplLoan l0 x6_2).f0.f1), .int .i64 ((rd_TimplLoan l0 x6_2).f0.f2), .int .i64 ((rd_TimplLoan l0 x6_2).f0.f3), .bool ((rd_TimplLoan l0 x6_2).f1), .int .i64 ((rd_TimplLoan l0 x6_2).f2), .int .i64 ((rd_TimplLoan l0 x6_2).f3)]] (by rfl) rfl rfl (by (try simp only [List.map_toArray, List.map_cons, List.map_nil]); first | done | rfl | (simp only [List.length_drop, List.length_take]; rfl)) ?_
                        with_reducible refine (impl_inConflict.calls ((rd_TimplLoan l0 x10_1).f0.f0) ((rd_TimplLoan l0 x10_1).f0.f1) ((rd_TimplLoan l0 x10_1).f0.f2) ((rd_TimplLoan l0 x10_1).f0.f3) ((rd_TimplLoan l0 x10_1).f1) ((rd_TimplLoan l0 x10_1).f2) ((rd_TimplLoan l0 x10_1).f3) ((rd_TimplLoan l0 x6_2).f0.f0) ((rd_TimplLoan l0 x6_2).f0.f1) ((rd_TimplLoan l0 x6_2).f0.f2) ((rd_TimplLoan l0 x6_2).f0.f3) ((rd_TimplLoan l0 x6_2).f1) ((rd_TimplLoan l0 x6_2).f2) ((rd_TimplLoan l0 x6_2).f3) true _ A11.out).mono ?_
                        rintro e w15 ⟨rfl, hb⟩
                        refine ⟨_, rfl, ?_⟩
                        have n0_ := Aside0.mk (Kd.R_below (by (with_reducible repeat (first | apply Kd.R_alloc | apply Kd.R_drewN | apply Kd.R_drew)); exact HO_3.out) hb)
                        have n1_ := Aside0.mk (blk_below (g := gb495) (o := .cells #[.int .i64 ((rd_TimplLoan l0 x10_1).f0.f0), .int .i64 ((rd_TimplLoan l0 x10_1).f0.f1), .int .i64 ((rd_TimplLoan l0 x10_1).f0.f2), .int .i64 ((rd_TimplLoan l0 x10_1).f0.f3), .bool ((rd_TimplLoan l0 x10_1).f1), .int .i64 ((rd_TimplLoan l0 x10_1).f2), .int .i64 ((rd_TimplLoan l0 x10_1).f3)] 30 (0, 0)) (by (with_reducible repeat (first | refine blk_drewN ?_ _ | refine blk_drew ?_ | refine blk_alloc ?_ _)); exact BK495.out) hb)
                        have n2_ := Aside0.mk (below_step (by repeat (first | (with_reducible first | exact HB.out | apply below_alloc | apply pw_below_drewN | apply below_drew1 | refine below_set ?_ GE495.out) | exact HB.out)) hb)
                        clear HO_3
                        clear BK495
                        clear HB
                        have HO_3 := n0_
                        have BK495 := n1_
                        have HB := n2_
                        clear n0_ n1_ n2_
                        (try clear hb)
                        (try clear hb2)
                        (try clear hk)
                        (try clear hi)
                        refine hK.out _ _ ⟨(blk_cell BK495.out 0).trans rfl, (blk_cell BK495.out 1).trans rfl, (blk_cell BK495.out 2).trans rfl, (blk_cell BK495.out 3).trans rfl, (blk_cell BK495.out 4).trans rfl, (blk_cell BK495.out 5).trans rfl, (blk_cell BK495.out 6).trans rfl, (by have h_ := ((HB.out.cell (World.block_lt_of_cell? w _ hw496_0)).trans hw496_0); first | exact h_ | (simp only [*] at h_; exact h_) | simpa [*] using h_), (by have h_ := ((HB.out.cell (World.block_lt_of_cell? w _ hw496_1)).trans hw496_1); first | exact h_ | (simp only [*] at h_; exact h_) | simpa [*] using h_), (by have h_ := ((HB.out.cell (World.block_lt_of_cell? w _ hw496_2)).trans hw496_2); first | exact h_ | (simp only [*] at h_; exact h_) | simpa [*] using h_), (by have h_ := ((HB.out.cell (World.block_lt_of_cell? w _ hw496_3)).trans hw496_3); first | exact h_ | (simp only [*] at h_; exact h_) | simpa [*] using h_), (by have h_ := ((HB.out.cell (World.block_lt_of_cell? w _ hw496_4)).trans hw496_4); first | exact h_ | (simp only [*] at h_; exact h_) | simpa [*] using h_), (by have h_ := ((HB.out.cell (World.block_lt_of_cell? w _ hw496_5)).trans hw496_5); first | exact h_ | (simp only [*] at h_; exact h_) | simpa [*] using h_), (by have h_ := ((HB.out.cell (World.block_lt_of_cell? w _ hw496_6)).trans hw496_6); first | exact h_ | (simp only [*] at h_; exact h_) | simpa [*] using h_)⟩ (fun hHeld => ?_)
                        clear hK K
                        refine norm_ (a' := ?_) ?_ ?_
                        rotate_left
                        · show Act.put _ (some 28) _ = _
                          simp only [Act.put, List.setIfInBounds_toArray, List.set_cons_zero, List.set_cons_succ, i64_w, i32_w]
                          rfl
                        refine done_ (by kernel_rfl) ?_
                        try go_wp2_with (first | ((with_reducible refine gate_builtin (b := .append) (xs := #[.tmp 29, .tmp 33]) rfl ?_); at_builtin; refine Kd.R_append kA2int (w0 := w) w.heap.size rfl (.tmp 29) (.tmp 33) 40 75 (.agg #[(.int .i64 0), (.int .i64 0)]) 16 rfl Try.underlying40 info75 rfl (by decide) (by omega) u3 x3_2 (⟨x10_1, x6_2⟩ : SA2int) [.int .i64 x10_1, .int .i64 x6_2] (fun _ => True) (fun _ => False) rfl rfl ?aP (fun _ hk => hk.elim) ?aF ?aO ?aB ?aS ?aL ?_; (case aP => exact kA2int_mkM _ _ _ (⟨x10_1, x6_2⟩ : SA2int)); (case aB => exact (by repeat (first | (with_reducible first | exact HB.out | apply below_alloc | apply pw_below_drewN | apply below_drew1 | refine below_set ?_ GE495.out) | exact HB.out))); (case aF => exact (fun _ _ => trivial)); (case aO => exact (by (with_reducible repeat (first | apply Kd.R_alloc | apply Kd.R_drewN | apply Kd.R_drew)); exact HO_3.out)); (case aS => exact (below_size (by repeat (first | (with_reducible first | exact HB.out | apply below_alloc | apply pw_below_drewN | apply below_drew1 | refine below_set ?_ GE495.out) | exact HB.out)))); (case aL => have := LMc13.out; omega); intro v499 w16 ho hb hg hat; rw [← Ny498.out] at ho; have n0_ := Aside0.mk (blk_grown (g := gb495) (o := .cells #[.int .i64 ((rd_TimplLoan l0 x10_1).f0.f0), .int .i64 ((rd_TimplLoan l0 x10_1).f0.f1), .int .i64 ((rd_TimplLoan l0 x10_1).f0.f2), .int .i64 ((rd_TimplLoan l0 x10_1).f0.f3), .bool ((rd_TimplLoan l0 x10_1).f1), .int .i64 ((rd_TimplLoan l0 x10_1).f2), .int .i64 ((rd_TimplLoan l0 x10_1).f3)] 30 (0, 0)) (by (with_reducible repeat (first | refine blk_drewN ?_ _ | refine blk_drew ?_ | refine blk_alloc ?_ _)); exact BK495.out) hg (Kd.R_ne HO_3.out BK495.out (by decide))); have n1_ := Aside0.mk (hb); have n2_ := Aside0.mk (ho); clear BK495; clear HB; clear HO_3; have BK495 := n0_; have HB := n1_; have HO500 := n2_; clear n0_ n1_ n2_; clear ho hb hg hat))
                        go_roundg k2
                        case measure => have := HK1.out; have := HK2.out; omega
                        case rel => exact ⟨(y498), (wrap64 (x6_2 + 1)), (by first | rfl | (simp; done) | (simp [*]; done)), H', ⟨by have := HK1.out; have := HK2.out; omega⟩, ⟨by (with_reducible repeat (first | apply Kd.R_alloc | apply Kd.R_drewN | apply Kd.R_drew)); exact HO500.out⟩, ⟨by (with_reducible repeat (first | refine blk_drewN ?_ _ | refine blk_drew ?_ | refine blk_alloc ?_ _)); exact BK495.out⟩, ⟨by repeat (first | (with_reducible first | exact HB.out | apply below_alloc | apply pw_below_drewN | apply below_drew1 | refine below_set ?_ GE495.out) | exact HB.out)⟩⟩
                      · rw [if_neg c13] at H
                        exact absurd H (by simp)
                    · replace c12 := Bool.eq_false_iff.mpr c12
                      subst c12
                      have H1 : (impl_conflicts.l1 k2 l0 x3_2 x10_1 (wrap64 (x6_2 + 1)) l0 (l0.length : Int) x10_1 ((rd_TimplLoan l0 x10_1).f0.f0) ((rd_TimplLoan l0 x10_1).f0.f1) ((rd_TimplLoan l0 x10_1).f0.f2) ((rd_TimplLoan l0 x10_1).f0.f3) ((rd_TimplLoan l0 x10_1).f1) ((rd_TimplLoan l0 x10_1).f2) ((rd_TimplLoan l0 x10_1).f3)) = some r := by rw [if_neg (show ¬ (false = true) by decide)] at H; exact H
                      clear H
                      have H := H1
                      clear H1
                      have H' := Aside0.mk H
                      clear H
                      try go_wp2
                      have n0_ := Aside0.mk (Kd.R_drew HO_3.out)
                      have n1_ := Aside0.mk (blk_drew BK495.out)
                      have n2_ := Aside0.mk (below_drew1 HB.out)
                      clear HO_3
                      clear BK495
                      clear HB
                      have HO_3 := n0_
                      have BK495 := n1_
                      have HB := n2_
                      clear n0_ n1_ n2_
                      have p496 : 0 ≤ (x6_2 : Int) := of_decide_eq_true (by first | (with_reducible assumption) | assumption)
                      have q496 : x6_2 < (l0.length : Int) := of_decide_eq_true (by first | (with_reducible assumption) | assumption)
                      obtain ⟨ad496, e496, hx496_0, hx496_1, hx496_2, hx496_3, hx496_4, hx496_5, hx496_6⟩ := at_TimplLoan HR0.out x6_2 p496 q496
                      have hw496_6 := hx496_6
                      have hw496_5 := hx496_5
                      have hw496_4 := hx496_4
                      have hw496_3 := hx496_3
                      have hw496_2 := hx496_2
                      have hw496_1 := hx496_1
                      have hw496_0 := hx496_0
                      obtain rfl : ad494 = ad496 := (by injection e496)
                      replace hx496_0 := (HB.out.cell (World.block_lt_of_cell? w _ hx496_0)).trans hx496_0
                      replace hx496_1 := (HB.out.cell (World.block_lt_of_cell? w _ hx496_1)).trans hx496_1
                      replace hx496_2 := (HB.out.cell (World.block_lt_of_cell? w _ hx496_2)).trans hx496_2
                      replace hx496_3 := (HB.out.cell (World.block_lt_of_cell? w _ hx496_3)).trans hx496_3
                      replace hx496_4 := (HB.out.cell (World.block_lt_of_cell? w _ hx496_4)).trans hx496_4
                      replace hx496_5 := (HB.out.cell (World.block_lt_of_cell? w _ hx496_5)).trans hx496_5
                      replace hx496_6 := (HB.out.cell (World.block_lt_of_cell? w _ hx496_6)).trans hx496_6
                      replace p496 := eq_true p496
                      replace q496 := eq_true q496
                      refine start_ (n := 6) (S := fun w' => w'.cell? ⟨gb495, 0, none⟩ = some (.int .i64 ((rd_TimplLoan l0 x10_1).f0.f0)) ∧ w'.cell? ⟨gb495, 1, none⟩ = some (.int .i64 ((rd_TimplLoan l0 x10_1).f0.f1)) ∧ w'.cell? ⟨gb495, 2, none⟩ = some (.int .i64 ((rd_TimplLoan l0 x10_1).f0.f2)) ∧ w'.cell? ⟨gb495, 3, none⟩ = some (.int .i64 ((rd_TimplLoan l0 x10_1).f0.f3)) ∧ w'.cell? ⟨gb495, 4, none⟩ = some (.bool ((rd_TimplLoan l0 x10_1).f1)) ∧ w'.cell? ⟨gb495, 5, none⟩ = some (.int .i64 ((rd_TimplLoan l0 x10_1).f2)) ∧ w'.cell? ⟨gb495, 6, none⟩ = some (.int .i64 ((rd_TimplLoan l0 x10_1).f3)) ∧ w'.cell? (ad494.add ((x6_2).toNat * 7)) = some (.int .i64 ((rd_TimplLoan l0 x6_2).f0.f0)) ∧ w'.cell? ⟨(ad494.add ((x6_2).toNat * 7)).block, (ad494.add ((x6_2).toNat * 7)).off + 1, none⟩ = some (.int .i64 ((rd_TimplLoan l0 x6_2).f0.f1)) ∧ w'.cell? ⟨(ad494.add ((x6_2).toNat * 7)).block, (ad494.add ((x6_2).toNat * 7)).off + 2, none⟩ = some (.int .i64 ((rd_TimplLoan l0 x6_2).f0.f2)) ∧ w'.cell? ⟨(ad494.add ((x6_2).toNat * 7)).block, (ad494.add ((x6_2).toNat * 7)).off + 3, none⟩ = some (.int .i64 ((rd_TimplLoan l0 x6_2).f0.f3)) ∧ w'.cell? ⟨(ad494.add ((x6_2).toNat * 7)).block, (ad494.add ((x6_2).toNat * 7)).off + 4, none⟩ = some (.bool ((rd_TimplLoan l0 x6_2).f1)) ∧ w'.cell? ⟨(ad494.add ((x6_2).toNat * 7)).block, (ad494.add ((x6_2).toNat * 7)).off + 5, none⟩ = some (.int .i64 ((rd_TimplLoan l0 x6_2).f2)) ∧ w'.cell? ⟨(ad494.add ((x6_2).toNat * 7)).block, (ad494.add ((x6_2).toNat * 7)).off + 6, none⟩ = some (.int .i64 ((rd_TimplLoan l0 x6_2).f3))) (ds := []) #[false, false, false, false, false, false] (by kernel_rfl) rfl rfl ⟨(blk_cell BK495.out 0).trans rfl, (blk_cell BK495.out 1).trans rfl, (blk_cell BK495.out 2).trans rfl, (blk_cell BK495.out 3).trans rfl, (blk_cell BK495.out 4).trans rfl, (blk_cell BK495.out 5).trans rfl, (blk_cell BK495.out 6).trans rfl, (by have h_ := ((HB.out.cell (World.block_lt_of_cell? w _ hw496_0)).trans hw496_0); first | exact h_ | (simp only [*] at h_; exact h_) | simpa [*] using h_), (by have h_ := ((HB.out.cell (World.block_lt_of_cell? w _ hw496_1)).trans hw496_1); first | exact h_ | (simp only [*] at h_; exact h_) | simpa [*] using h_), (by have h_ := ((HB.out.cell (World.block_lt_of_cell? w _ hw496_2)).trans hw496_2); first | exact h_ | (simp only [*] at h_; exact h_) | simpa [*] using h_), (by have h_ := ((HB.out.cell (World.block_lt_of_cell? w _ hw496_3)).trans hw496_3); first | exact h_ | (simp only [*] at h_; exact h_) | simpa [*] using h_), (by have h_ := ((HB.out.cell (World.block_lt_of_cell? w _ hw496_4)).trans hw496_4); first | exact h_ | (simp only [*] at h_; exact h_) | simpa [*] using h_), (by have h_ := ((HB.out.cell (World.block_lt_of_cell? w _ hw496_5)).trans hw496_5); first | exact h_ | (simp only [*] at h_; exact h_) | simpa [*] using h_), (by have h_ := ((HB.out.cell (World.block_lt_of_cell? w _ hw496_6)).trans hw496_6); first | exact h_ | (simp only [*] at h_; exact h_) | simpa [*] using h_)⟩ (fun hHeld => ?_)
                      generalize wr.drew = w17 at HO_3 BK495 HB hx496_0 hx496_1 hx496_2 hx496_3 hx496_4 hx496_5 hx496_6 hHeld ⊢
                      refine pure_ (i := 1) (N := some 24) (v := ?_) (a' := ?_) #[false, true, false, false, false, false] rfl rfl (by kernel_rfl) (fun _ _ _ h => h) (Or.inl ⟨by rfl, ?_⟩) ?_ ?_
                      rotate_left
                      · intro w'
                        go_simp
                        with_reducible rfl
                      rotate_left
                      · simp only [Act.put, List.setIfInBounds_toArray, List.set_cons_zero, List.set_cons_succ, i64_w, i32_w]
                        rfl
                      refine pure_ (i := 2) (N := some 25) (v := ?_) (a' := ?_) #[false, true, true, false, false, false] rfl rfl (by kernel_rfl) (fun _ _ _ h => h) (Or.inl ⟨by rfl, ?_⟩) ?_ ?_
                      rotate_left
                      · intro w'
                        go_simp
                        with_reducible rfl
                      rotate_left
                      · simp only [Act.put, List.setIfInBounds_toArray, List.set_cons_zero, List.set_cons_succ, i64_w, i32_w]
                        rfl
                      refine pure_ (i := 3) (N := some 26) (v := ?_) (a' := ?_) #[false, true, true, true, false, false] rfl rfl (by kernel_rfl) (fun _ _ _ h => h) (Or.inl ⟨by rfl, ?_⟩) ?_ ?_
                      rotate_left
                      · intro w'
                        go_simp
                        with_reducible rfl
                      rotate_left
                      · simp only [Act.put, List.setIfInBounds_toArray, List.set_cons_zero, List.set_cons_succ, i64_w, i32_w]
                        rfl
                      refine take_ (i := 0) (N := some 23) (v := ?_) (a' := ?_) #[true, true, true, true, false, false] rfl rfl (by kernel_rfl) (fun _ _ _ h => h) (Or.inl ⟨by rfl, ?_⟩) hHeld ?_ ?_
                      rotate_left
                      · rintro w' ⟨s0, s1, s2, s3, s4, s5, s6, s7, s8, s9, s10, s11, s12, s13⟩
                        go_simp
                        with_reducible rfl
                      rotate_left
                      · simp only [Act.put, List.setIfInBounds_toArray, List.set_cons_zero, List.set_cons_succ, i64_w, i32_w]
                        rfl
                      refine take_ (i := 4) (N := some 27) (v := ?_) (a' := ?_) #[true, true, true, true, true, false] rfl rfl (by kernel_rfl) (fun _ _ _ h => h) (Or.inl ⟨by rfl, ?_⟩) hHeld ?_ ?_
                      rotate_left
                      · rintro w' ⟨s0, s1, s2, s3, s4, s5, s6, s7, s8, s9, s10, s11, s12, s13⟩
                        go_simp
                        with_reducible rfl
                      rotate_left
                      · simp only [Act.put, List.setIfInBounds_toArray, List.set_cons_zero, List.set_cons_succ, i64_w, i32_w]
                        rfl
                      refine one_ (i := 5) (N := some 28) #[true, true, true, true, true, true] rfl rfl (by kernel_rfl) (by decide) (fun K hK => ?_)
                      refine goes_ Try.func78 (by kernel_rfl) rfl #[.agg #[.int .i64 ((rd_TimplLoan l0 x10_1).f0.f0), .int .i64 ((rd_TimplLoan l0 x10_1).f0.f1), .int .i64 ((rd_TimplLoan l0 x10_1).f0.f2), .int .i64 ((rd_TimplLoan l0 x10_1).f0.f3), .bool ((rd_TimplLoan l0 x10_1).f1), .int .i64 ((rd_TimplLoan l0 x10_1).f2), .int .i64 ((rd_TimplLoan l0 x10_1).f3)], .agg #[.int .i64 ((rd_TimplLoan l0 x6_2).f0.f0), .int .i64 ((rd_TimplLoan l0 x6_2).f0.f1), .int .i64 ((rd_TimplLoan l0 x6_2).f0.f2), .int .i64 ((rd_TimplLoan l0 x6_2).f0.f3), .bool ((rd_TimplLoan l0 x6_2).f1), .int .i64 ((rd_TimplLoan l0 x6_2).f2), .int .i64 ((rd_TimplLoan l0 x6_2).f3)]] (by rfl) rfl rfl (by (try simp only [List.map_toArray, List.map_cons, List.map_nil]); first | done | rfl | (simp only [List.length_drop, List.length_take]; rfl)) ?_
                      with_reducible refine (impl_inConflict.calls ((rd_TimplLoan l0 x10_1).f0.f0) ((rd_TimplLoan l0 x10_1).f0.f1) ((rd_TimplLoan l0 x10_1).f0.f2) ((rd_TimplLoan l0 x10_1).f0.f3) ((rd_TimplLoan l0 x10_1).f1) ((rd_TimplLoan l0 x10_1).f2) ((rd_TimplLoan l0 x10_1).f3) ((rd_TimplLoan l0 x6_2).f0.f0) ((rd_TimplLoan l0 x6_2).f0.f1) ((rd_TimplLoan l0 x6_2).f0.f2) ((rd_TimplLoan l0 x6_2).f0.f3) ((rd_TimplLoan l0 x6_2).f1) ((rd_TimplLoan l0 x6_2).f2) ((rd_TimplLoan l0 x6_2).f3) false _ A11.out).mono ?_
                      rintro e w18 ⟨rfl, hb⟩
                      refine ⟨_, rfl, ?_⟩
                      have n0_ := Aside0.mk (Kd.R_below (by (with_reducible repeat (first | apply Kd.R_alloc | apply Kd.R_drewN | apply Kd.R_drew)); exact HO_3.out) hb)
                      have n1_ := Aside0.mk (blk_below (g := gb495) (o := .cells #[.int .i64 ((rd_TimplLoan l0 x10_1).f0.f0), .int .i64 ((rd_TimplLoan l0 x10_1).f0.f1), .int .i64 ((rd_TimplLoan l0 x10_1).f0.f2), .int .i64 ((rd_TimplLoan l0 x10_1).f0.f3), .bool ((rd_TimplLoan l0 x10_1).f1), .int .i64 ((rd_TimplLoan l0 x10_1).f2), .int .i64 ((rd_TimplLoan l0 x10_1).f3)] 30 (0, 0)) (by (with_reducible repeat (first | refine blk_drewN ?_ _ | refine blk_drew ?_ | refine blk_alloc ?_ _)); exact BK495.out) hb)
                      have n2_ := Aside0.mk (below_step (by repeat (first | (with_reducible first | exact HB.out | apply below_alloc | apply pw_below_drewN | apply below_drew1 | refine below_set ?_ GE495.out) | exact HB.out)) hb)
                      clear HO_3
                      clear BK495
                      clear HB
                      have HO_3 := n0_
                      have BK495 := n1_
                      have HB := n2_
                      clear n0_ n1_ n2_
                      (try clear hb)
                      (try clear hb2)
                      (try clear hk)
                      (try clear hi)
                      refine hK.out _ _ ⟨(blk_cell BK495.out 0).trans rfl, (blk_cell BK495.out 1).trans rfl, (blk_cell BK495.out 2).trans rfl, (blk_cell BK495.out 3).trans rfl, (blk_cell BK495.out 4).trans rfl, (blk_cell BK495.out 5).trans rfl, (blk_cell BK495.out 6).trans rfl, (by have h_ := ((HB.out.cell (World.block_lt_of_cell? w _ hw496_0)).trans hw496_0); first | exact h_ | (simp only [*] at h_; exact h_) | simpa [*] using h_), (by have h_ := ((HB.out.cell (World.block_lt_of_cell? w _ hw496_1)).trans hw496_1); first | exact h_ | (simp only [*] at h_; exact h_) | simpa [*] using h_), (by have h_ := ((HB.out.cell (World.block_lt_of_cell? w _ hw496_2)).trans hw496_2); first | exact h_ | (simp only [*] at h_; exact h_) | simpa [*] using h_), (by have h_ := ((HB.out.cell (World.block_lt_of_cell? w _ hw496_3)).trans hw496_3); first | exact h_ | (simp only [*] at h_; exact h_) | simpa [*] using h_), (by have h_ := ((HB.out.cell (World.block_lt_of_cell? w _ hw496_4)).trans hw496_4); first | exact h_ | (simp only [*] at h_; exact h_) | simpa [*] using h_), (by have h_ := ((HB.out.cell (World.block_lt_of_cell? w _ hw496_5)).trans hw496_5); first | exact h_ | (simp only [*] at h_; exact h_) | simpa [*] using h_), (by have h_ := ((HB.out.cell (World.block_lt_of_cell? w _ hw496_6)).trans hw496_6); first | exact h_ | (simp only [*] at h_; exact h_) | simpa [*] using h_)⟩ (fun hHeld => ?_)
                      clear hK K
                      refine norm_ (a' := ?_) ?_ ?_
                      rotate_left
                      · show Act.put _ (some 28) _ = _
                        simp only [Act.put, List.setIfInBounds_toArray, List.set_cons_zero, List.set_cons_succ, i64_w, i32_w]
                        rfl
                      refine done_ (by kernel_rfl) ?_
                      try go_wp2
                      go_roundg k2
                      case measure => have := HK1.out; have := HK2.out; omega
                      case rel => exact ⟨(x3_2), (wrap64 (x6_2 + 1)), (by first | rfl | (simp; done) | (simp [*]; done)), H', ⟨by have := HK1.out; have := HK2.out; omega⟩, ⟨by (with_reducible repeat (first | apply Kd.R_alloc | apply Kd.R_drewN | apply Kd.R_drew)); exact HO_3.out⟩, ⟨by (with_reducible repeat (first | refine blk_drewN ?_ _ | refine blk_drew ?_ | refine blk_alloc ?_ _)); exact BK495.out⟩, ⟨by repeat (first | (with_reducible first | exact HB.out | apply below_alloc | apply pw_below_drewN | apply below_drew1 | refine below_set ?_ GE495.out) | exact HB.out)⟩⟩
                  · rw [if_neg c10] at H
                    exact absurd H (by simp)
                · rw [if_neg c9] at H
                  have c9b0 : decide (x6_2 < (l0.length : Int)) = false := decide_eq_false c9
                  clear c9
                  have H' := Aside0.mk H
                  clear H
                  go_wp2
                  go_roundg k2
                  case measure => have := HK1.out; have := HK2.out; omega
                  case rel => exact ⟨(x3_2), (wrap64 (x10_1 + 1)), (by first | rfl | (simp; done) | (simp [*]; done)), H', ⟨by have := HK1.out; have := HK2.out; omega⟩, ⟨by (with_reducible repeat (first | apply Kd.R_alloc | apply Kd.R_drewN | apply Kd.R_drew)); exact HO_3.out⟩, ⟨by repeat (first | (with_reducible first | exact HB.out | apply below_alloc | apply pw_below_drewN | apply below_drew1 | refine below_set ?_ GE495.out) | exact HB.out)⟩⟩
          · rw [if_neg c6] at H
            exact absurd H (by simp)
        · rw [if_neg c5] at H
          exact absurd H (by simp)
      · rw [if_neg c4] at H
        have c4b0 : decide (x10_1 < (l0.length : Int)) = false := decide_eq_false c4
        clear c4
        obtain rfl := Option.some.inj H
        go_wp2
        go_ret
        exact ⟨_, by first | rfl | (simp [errW_none, errW_some] <;> rfl) | (simp [*, errW_none, errW_some] <;> rfl), by (with_reducible repeat (first | apply Kd.R_alloc | apply Kd.R_drewN | apply Kd.R_drew)); exact HO_3.out, by repeat (first | (with_reducible first | exact HB.out | apply below_alloc | apply pw_below_drewN | apply below_drew1) | exact HB.out)⟩

end Go.Proofs.Ytpbboooeahmgpaa.P


namespace Go.Proofs.Ytpbboooeahmgpaa.P
open Go.RowKit Go.Proofs.YtpbboooeahmgpaaW.PrintWords Go.Proofs.YtpbboooeahmgpaaW.PrintLast Go.Proofs.YtpbboooeahmgpaaW.PrintMore
attribute [local go_sem] max2_int min2_int max_two min_two max_three min_three max_four min_four   -- for this text's walks alone
set_option linter.unusedVariables false
set_option linter.unusedSimpArgs false

/-! ### impl_areClean: function 91 -/
def impl_areClean.f (k : Nat) (l0 : List (SimplLoan)) : Option (Bool) := (impl_conflicts.f k l0).bind fun t659 => (some ((t659.length : Int) == 0))
set_option maxHeartbeats 8000000 in
set_option maxRecDepth 100000 in
theorem impl_areClean.calls (k : Nat) (A0 : Option Addr) (c0 : Nat) (l0 : List (SimplLoan)) (r : Bool) (w : World) (hr0 : Kd.C kimplLoan w A0 l0.length l0) (hc0 : l0.length ≤ c0) (h : impl_areClean.f k l0 = some r) :
    Calls Try.prog 91 #[.slice A0 l0.length c0] w fun e w' => e = .returned (.bool r) ∧ Below w.heap.size w w' := by
  have HR0 := Aside0.mk hr0
  have HC0 := Aside0.mk hc0
  clear hr0 hc0
  have HB := Aside0.mk (Below.refl w.heap.size w)
  have H : ((impl_conflicts.f k l0).bind fun t659 => (some ((t659.length : Int) == 0))) = some r := h
  clear h
  replace H := Option.bind_eq_some_iff.mp H
  obtain ⟨t659, A20, H⟩ := H
  replace H : (some ((t659.length : Int) == 0)) = some r := H
  have A2 := Aside0.mk A20
  clear A20
  obtain rfl := Option.some.inj H
  go_enter Try.func91, Try.ntmps91
  go_wp2_with (first | ((with_reducible refine gate_callee (f := 77) rfl ?_); refine goesL_ (some 4) rfl rfl Try.func77 (by kernel_rfl) rfl #[.slice A0 l0.length c0] rfl (by (try simp only [List.map_toArray, List.map_cons, List.map_nil]); first | done | rfl | (simp only [List.length_drop, List.length_take]; rfl)) ?_; (with_reducible refine (impl_conflicts.calls k _ _ l0 t659 _ ?side1 ?side2 A2.out).mono ?_); (case side1 => repeat (first | exact HR0.out | (with_reducible refine Kd.C_alloc ?_ _) | (with_reducible refine Kd.C_drewN ?_ _) | (with_reducible refine Kd.C_drew ?_))); (case side2 => exact HC0.out); rintro e w3 ⟨v660, rfl, ho0, hb⟩; refine ⟨_, rfl, ?_⟩; have n0_ := Aside0.mk (Kd.R_lower ho0 (below_size (by repeat (first | (with_reducible first | exact HB.out | apply below_alloc | apply pw_below_drewN | apply below_drew1) | exact HB.out)))); have n1_ := Aside0.mk (below_step (by repeat (first | (with_reducible first | exact HB.out | apply below_alloc | apply pw_below_drewN | apply below_drew1) | exact HB.out)) hb); clear HB; have HO661 := n0_; have HB := n1_; clear n0_ n1_; (try clear hb); (try clear hb2); (try clear hk); (try clear hi); (try clear ho0); obtain ⟨Ao4, co4, eo4⟩ := Kd.R_slice HO661.out; subst eo4))
  go_ret
  exact ⟨by first | rfl | (simp [errW_none, errW_some] <;> rfl) | (simp [*, errW_none, errW_some] <;> rfl), by repeat (first | (with_reducible first | exact HB.out | apply below_alloc | apply pw_below_drewN | apply below_drew1) | exact HB.out)⟩

end Go.Proofs.Ytpbboooeahmgpaa.P


/- What the printed functions over loans come to. -/
namespace Go.Proofs.Ytpbboooeahmgpaa.P
open Go.RowKit Go.Proofs.YtpbboooeahmgpaaW.PrintWords Go.Proofs.YtpbboooeahmgpaaW.PrintMore
set_option linter.unusedVariables false
set_option linter.unusedSimpArgs false
def loanOf (x : SlawsLoan) : SimplLoan := ⟨⟨x.f0.f0, x.f0.f1, x.f0.f2, x.f0.f3⟩, x.f1, x.f2, x.f3⟩
theorem szLoanS_f (l : List SlawsLoan) (a : Int) (h0 : 0 ≤ a) (h1 : a ≤ 1048576) (hl : l.length ≤ 9223372036854775807) :
    laws_szLoanS.f l a = some (if (l.length : Int) ≤ a then a - l.length else -1) := by
  unfold laws_szLoanS.f
  rw [wrap_ok (by omega) (by omega)]
  by_cases h : (l.length : Int) ≤ a
  · rw [if_neg (by omega), if_pos h]
  · rw [if_pos (by omega), if_neg h]
theorem rdLL_mid (pre : List SlawsLoan) (x : SlawsLoan) (suf : List SlawsLoan) : rd_TlawsLoan (pre ++ x :: suf) (pre.length : Int) = x := by
  unfold rd_TlawsLoan
  simp
theorem rdL_mid (pre : List SimplLoan) (x : SimplLoan) (suf : List SimplLoan) : rd_TimplLoan (pre ++ x :: suf) (pre.length : Int) = x := by
  unfold rd_TimplLoan
  simp
theorem toLoan_f (a b c d : Int) (o : Bool) (e f : Int) : laws_toLoan.f a b c d o e f = some (a, b, c, d, o, e, f) := rfl
theorem toLoanS_ev (suf : List SlawsLoan) : ∀ (pre : List SlawsLoan) (zs : List SimplLoan), zs.length = suf.length → pre.length + suf.length ≤ 4611686018427387904 →
    Ev (fun k => laws_toLoanS.l0 k (pre ++ suf) (pre.map loanOf ++ zs) (pre.length : Int)) ((pre ++ suf).map loanOf) := by
  induction suf with
  | nil =>
    intro pre zs hz h2
    obtain rfl : zs = [] := List.eq_nil_of_length_eq_zero hz
    refine Ev.step (fun k => ?_) (Ev.now _)
    simp [laws_toLoanS.l0]
  | cons x suf ih =>
    intro pre zs hz h2
    obtain ⟨z, zs, rfl⟩ : ∃ z zs', zs = z :: zs' := by
      cases zs with
      | nil => simp at hz
      | cons z zs => exact ⟨z, zs, rfl⟩
    simp only [List.length_cons] at h2 hz
    refine Ev.step (f := fun k => laws_toLoanS.l0 k ((pre ++ [x]) ++ suf) ((pre ++ [x]).map loanOf ++ zs) ((pre ++ [x]).length : Int)) (fun k => ?_) ?_
    · simp only [laws_toLoanS.l0, toLoan_f, Option.bind_some]
      rw [if_pos (by simp; omega), if_pos (by omega), if_pos (by simp; omega), rdLL_mid, wrap_len (by omega)]
      have := set_mid (pre.map loanOf) z (loanOf x) zs
      rw [List.length_map] at this
      rw [Int.toNat_natCast, show (⟨⟨x.f0.f0, x.f0.f1, x.f0.f2, x.f0.f3⟩, x.f1, x.f2, x.f3⟩ : SimplLoan) = loanOf x from rfl, this]
      simp
    · have := ih (pre ++ [x]) zs (by omega) (by simp; omega)
      simpa using this
theorem toLoanS_f (l : List SlawsLoan) (h : l.length ≤ 1048576) : Ev (fun k => laws_toLoanS.f k l) (l.map loanOf) := by
  refine Ev.congr (fun k => ?_) (toLoanS_ev l [] (List.replicate l.length zimplLoan) (by simp) (by simp; omega))
  unfold laws_toLoanS.f
  rw [if_pos (by omega), if_pos (by simp; omega)]
  simp
theorem eqWindow_s (a b c d : Int) : laws_eqWindow.f a b c d a b c d = some true := if_pos ⟨rfl, rfl, rfl, rfl⟩
theorem eqLoan_f (a b c d : Int) (o : Bool) (e f : Int) : laws_eqLoan.f a b c d o e f a b c d o e f = some true := by
  unfold laws_eqLoan.f
  rw [eqWindow_s]
  simp
theorem eqLoanS_ev (suf : List SimplLoan) : ∀ (pre : List SimplLoan), pre.length + suf.length ≤ 9223372036854775807 → Ev (fun k => laws_eqLoanS.l0 k (pre ++ suf) (pre ++ suf) (pre.length : Int)) true := by
  induction suf with
  | nil =>
    intro pre h2
    refine Ev.step (fun k => ?_) (Ev.now _)
    simp [laws_eqLoanS.l0]
  | cons x suf ih =>
    intro pre h2
    simp only [List.length_cons] at h2
    refine Ev.step (f := fun k => laws_eqLoanS.l0 k ((pre ++ [x]) ++ suf) ((pre ++ [x]) ++ suf) ((pre ++ [x]).length : Int)) (fun k => ?_) (ih (pre ++ [x]) (by simp; omega))
    simp only [laws_eqLoanS.l0]
    rw [if_pos (by simp; omega), if_pos (by omega), if_pos (by simp; omega), eqLoan_f, Option.bind_some, if_pos rfl, wrap_len (by omega)]
    simp
theorem eqLoanS_f (l : List SimplLoan) (h : l.length ≤ 9223372036854775807) : Ev (fun k => laws_eqLoanS.f k l l) true := by
  refine Ev.congr (fun k => ?_) (eqLoanS_ev l [] (by simpa using h))
  unfold laws_eqLoanS.f
  rw [if_pos rfl]
  rfl
/-- The numbers of a loan's window are those of an int. -/
def wfL (x : SimplLoan) : Prop := -9223372036854775808 ≤ x.f0.f1 ∧ x.f0.f1 ≤ 9223372036854775807
theorem l10Loan_f (m : List (List Int)) (x : SimplLoan) (hm : okM m) (hs : wfL x) : Ev (fun k => spec_l10Loan.f k m x.f0.f0 x.f0.f1 x.f0.f2 x.f0.f3 x.f1 x.f2 x.f3) (memB m && loanB m x) := by
  refine Ev.bind (l2Window_f m x.f0.f0 x.f0.f1 x.f0.f2 x.f0.f3 hm.len hm.rows hs) ?_
  unfold loanB winW
  rw [l1In_f, l1In_f]
  cases memB m
  · exact Ev.now _
  · cases winB m x.f0.f0 x.f0.f1 x.f0.f2 x.f0.f3
    · exact Ev.now _
    · simp only [Bool.and_self, Bool.true_and, if_true, Option.bind_some]
      cases decide (0 ≤ x.f3 ∧ x.f3 ≤ 60)
      · exact Ev.now _
      · exact Ev.now _
def loansB (m : List (List Int)) (l : List SimplLoan) : Bool := memB m && l.all (loanB m) && decide (l.length ≤ 8)
theorem l10Loans_ev (m : List (List Int)) (hm : okM m) (suf : List SimplLoan) : ∀ (pre : List SimplLoan), pre.length ≤ 9 → pre.length + suf.length ≤ 9223372036854775807 → (∀ x ∈ suf, wfL x) →
    Ev (fun k => spec_l10Loans.l0 k (pre ++ suf) (pre.length : Int) m) (memB m && suf.all (loanB m) && decide ((pre ++ suf).length ≤ 8)) := by
  have fin : ∀ (l : List SimplLoan), Ev (fun k => (spec_l2Memory.f k m).bind fun t => if t = true then some (decide ((l.length : Int) ≤ 8)) else some false) (memB m && decide (l.length ≤ 8)) := by
    intro l
    refine Ev.bind (l2Memory_f m hm.len) ?_
    cases hb : memB m
    · exact Ev.now _
    · simp only [if_true, Bool.true_and]
      have : decide ((l.length : Int) ≤ 8) = decide (l.length ≤ 8) := by rw [decide_eq_decide]; omega
      rw [this]
      exact Ev.now _
  induction suf with
  | nil =>
    intro pre h1 h2 h3
    refine Ev.step (f := fun k => spec_l10Loans.j1 k (pre ++ []) (pre.length : Int) false m) (fun k => ?_) (Ev.step (f := fun k => (spec_l2Memory.f k m).bind fun t => if t = true then some (decide (((pre ++ [] : List SimplLoan).length : Int) ≤ 8)) else some false) (fun k => ?_) ?_)
    rotate_left
    · simp only [spec_l10Loans.j1, Bool.false_eq_true, if_false]
    · have := fin (pre ++ [])
      simpa using this
    · simp only [spec_l10Loans.l0]
      rw [if_neg (by simp)]
  | cons x suf ih =>
    intro pre h1 h2 h3
    simp only [List.length_cons] at h2
    by_cases h13 : pre.length ≤ 8
    · refine Ev.step (f := fun k => spec_l10Loans.j1 k (pre ++ x :: suf) (pre.length : Int) true m) (fun k => ?_) ?_
      · simp only [spec_l10Loans.l0]
        rw [if_pos (by simp; omega), decide_eq_true (by omega)]
      · refine Ev.step (f := fun k => (spec_l10Loan.f k m x.f0.f0 x.f0.f1 x.f0.f2 x.f0.f3 x.f1 x.f2 x.f3).bind fun t => if t = true then spec_l10Loans.l0 k ((pre ++ [x]) ++ suf) ((pre ++ [x]).length : Int) m else some false) (fun k => ?_) ?_
        · simp only [spec_l10Loans.j1]
          rw [if_pos trivial, if_pos (by omega), if_pos (by simp; omega), rdL_mid, wrap_len (by omega)]
          simp
        · refine Ev.bind (l10Loan_f m x hm (h3 x (by simp))) ?_
          cases hb : memB m
          · simp only [Bool.false_and, Bool.false_eq_true, if_false]
            exact Ev.now _
          · cases hw : loanB m x
            · simp only [Bool.and_false, Bool.false_eq_true, if_false]
              have : (x :: suf).all (loanB m) = false := by simp [hw]
              rw [this]
              exact Ev.now _
            · simp only [Bool.and_self, if_true]
              have := ih (pre ++ [x]) (by simp; omega) (by simp; omega) (fun y hy => h3 y (by simp [hy]))
              have e : (x :: suf).all (loanB m) = suf.all (loanB m) := by simp [hw]
              rw [e]
              simpa [hb] using this
    · refine Ev.step (f := fun k => spec_l10Loans.j1 k (pre ++ x :: suf) (pre.length : Int) false m) (fun k => ?_) (Ev.step (f := fun k => (spec_l2Memory.f k m).bind fun t => if t = true then some (decide (((pre ++ x :: suf : List SimplLoan).length : Int) ≤ 8)) else some false) (fun k => ?_) ?_)
      rotate_left
      · simp only [spec_l10Loans.j1, Bool.false_eq_true, if_false]
      · have := fin (pre ++ x :: suf)
        have hl : decide ((pre ++ x :: suf).length ≤ 8) = false := by simp; omega
        rw [hl] at this ⊢
        simpa using this
      · simp only [spec_l10Loans.l0]
        rw [if_pos (by simp; omega), decide_eq_false (by omega)]
theorem l10Loans_f (m : List (List Int)) (l : List SimplLoan) (hm : okM m) (hl : l.length ≤ 9223372036854775807) (h3 : ∀ x ∈ l, wfL x) : Ev (fun k => spec_l10Loans.f k m l) (loansB m l) := by
  have := l10Loans_ev m hm l [] (by simp) (by simpa using hl) h3
  simpa [spec_l10Loans.f, loansB] using this
theorem areLoans_f (m : List (List Int)) (l : List SimplLoan) : impl_areLoans.f m l = some (loansB m l) := by
  unfold impl_areLoans.f impl_areAnyLoans.f loansB
  rw [Option.bind_some]
  cases memB m && l.all (loanB m)
  · rfl
  · rw [if_pos rfl, Bool.true_and]
    congr 1
    rw [decide_eq_decide]
    omega
/-! ### Conflicts -/
/-- A loan's numbers are small. -/
def rangeL (x : SimplLoan) : Prop := (0 ≤ x.f0.f1 ∧ x.f0.f1 ≤ 64) ∧ (0 ≤ x.f0.f2 ∧ x.f0.f2 ≤ 64) ∧ (0 ≤ x.f2 ∧ x.f2 ≤ 1000000) ∧ (0 ≤ x.f3 ∧ x.f3 ≤ 1000000)
theorem rangeL_of {m : List (List Int)} {x : SimplLoan} (hm : memB m = true) (h : loanB m x = true) : rangeL x := by
  unfold loanB winW winB at h
  simp only [Bool.and_eq_true, decide_eq_true_eq] at h
  obtain ⟨⟨h0, h1, h2, h3, h4, h5, h6, h7⟩, ⟨h8, h9⟩, h10, h11⟩ := h
  have hr : (rd_Lsu8 m x.f0.f0).length ≤ 64 := by
    unfold rd_Lsu8
    rw [List.getD_eq_getElem?_getD, List.getElem?_eq_getElem (show x.f0.f0.toNat < m.length by omega)]
    exact (memB_rows hm _ (List.getElem_mem _)).2
  unfold rangeL
  omega
def shareB (a b : SimplWindow) : Bool := decide (a.f0 = b.f0 ∧ mx a.f1 b.f1 < mn (a.f1 + a.f2) (b.f1 + b.f2))
def confB (a b : SimplLoan) : Bool := (a.f1 || b.f1) && (shareB a.f0 b.f0 && decide (mx a.f2 b.f2 < mn a.f3 b.f3))
theorem areShared_f (a b : SimplWindow) (ha : 0 ≤ a.f1 ∧ a.f1 ≤ 64) (ha2 : 0 ≤ a.f2 ∧ a.f2 ≤ 64) (hb : 0 ≤ b.f1 ∧ b.f1 ≤ 64) (hb2 : 0 ≤ b.f2 ∧ b.f2 ≤ 64) : impl_areShared.f a.f0 a.f1 a.f2 a.f3 b.f0 b.f1 b.f2 b.f3 = some (shareB a b) := by
  unfold impl_areShared.f impl_common.f shareB
  rw [wrap_ok (by omega) (by omega), wrap_ok (x := b.f1 + b.f2) (by omega) (by omega)]
  by_cases h : a.f0 = b.f0
  · rw [if_pos h]
    by_cases h2 : mx a.f1 b.f1 ≥ mn (a.f1 + a.f2) (b.f1 + b.f2)
    · rw [if_pos h2, Option.bind_some]
      congr 1
      rw [decide_eq_decide]
      omega
    · rw [if_neg h2, Option.bind_some]
      congr 1
      rw [decide_eq_decide]
      have h3 : mn (a.f1 + a.f2) (b.f1 + b.f2) ≤ 128 := by unfold mn; split <;> omega
      have h4 : 0 ≤ mx a.f1 b.f1 := by unfold mx; split <;> omega
      simp only [wrap_ok (x := mn (a.f1 + a.f2) (b.f1 + b.f2) - mx a.f1 b.f1) (by omega) (by omega)]
      omega
  · rw [if_neg h, Option.bind_some]
    congr 1
    rw [decide_eq_decide]
    omega
theorem inConflict_f (a b : SimplLoan) (ha : rangeL a) (hb : rangeL b) : impl_inConflict.f a.f0.f0 a.f0.f1 a.f0.f2 a.f0.f3 a.f1 a.f2 a.f3 b.f0.f0 b.f0.f1 b.f0.f2 b.f0.f3 b.f1 b.f2 b.f3 = some (confB a b) := by
  unfold impl_inConflict.f confB
  rw [areShared_f a.f0 b.f0 ha.1 ha.2.1 hb.1 hb.2.1, Option.bind_some]
  cases a.f1 <;> cases b.f1 <;> cases shareB a.f0 b.f0 <;> simp
theorem l1Most_f (a b : Int) : spec_l1Most.f a b = some (mx a b) := by
  unfold spec_l1Most.f mx
  by_cases h : a > b
  · rw [if_pos h, if_neg (by omega)]
  · rw [if_neg h]
    by_cases h2 : a < b
    · rw [if_pos h2]
    · rw [if_neg h2, show a = b by omega]
theorem l1Least_f (a b : Int) : spec_l1Least.f a b = some (mn a b) := by
  unfold spec_l1Least.f mn
  by_cases h : a < b
  · rw [if_pos h, if_neg (by omega)]
  · rw [if_neg h]
    by_cases h2 : b < a
    · rw [if_pos h2]
    · rw [if_neg h2, show a = b by omega]
theorem l2Overlap_f (a b : SimplWindow) (ha : 0 ≤ a.f1 ∧ a.f1 ≤ 64) (ha2 : 0 ≤ a.f2 ∧ a.f2 ≤ 64) (hb : 0 ≤ b.f1 ∧ b.f1 ≤ 64) (hb2 : 0 ≤ b.f2 ∧ b.f2 ≤ 64) : ∃ n, spec_l2Overlap.f a.f0 a.f1 a.f2 a.f3 b.f0 b.f1 b.f2 b.f3 = some n ∧ (n = 0 ↔ shareB a b = false) := by
  unfold spec_l2Overlap.f shareB
  rw [wrap_ok (by omega) (by omega), wrap_ok (x := b.f1 + b.f2) (by omega) (by omega)]
  by_cases h : a.f0 = b.f0
  · rw [if_pos h]
    simp only [l1Least_f, l1Most_f, Option.bind_some]
    have h3 : mn (a.f1 + a.f2) (b.f1 + b.f2) ≤ 128 ∧ 0 ≤ mn (a.f1 + a.f2) (b.f1 + b.f2) := by unfold mn; split <;> omega
    have h4 : 0 ≤ mx a.f1 b.f1 ∧ mx a.f1 b.f1 ≤ 64 := by unfold mx; split <;> omega
    rw [wrap_ok (by omega) (by omega)]
    refine ⟨_, rfl, ?_⟩
    rw [decide_eq_false_iff_not]
    generalize mn (a.f1 + a.f2) (b.f1 + b.f2) = x at *
    generalize mx a.f1 b.f1 = y at *
    unfold mx
    split <;> omega
  · rw [if_neg h]
    exact ⟨_, rfl, by simp [h]⟩
theorem l10Clash_f (a b : SimplLoan) (ha : rangeL a) (hb : rangeL b) : spec_l10Clash.f a.f0.f0 a.f0.f1 a.f0.f2 a.f0.f3 a.f1 a.f2 a.f3 b.f0.f0 b.f0.f1 b.f0.f2 b.f0.f3 b.f1 b.f2 b.f3 = some (if confB a b = true then mx a.f2 b.f2 else -1) := by
  unfold spec_l10Clash.f confB
  obtain ⟨n, hn, hs⟩ := l2Overlap_f a.f0 b.f0 ha.1 ha.2.1 hb.1 hb.2.1
  rw [hn, l1Most_f, l1Least_f]
  simp only [Option.bind_some]
  have e : (if n = 0 then some (-1 : Int) else if mx a.f2 b.f2 ≥ mn a.f3 b.f3 then some (-1) else some (mx a.f2 b.f2)) = some (if (shareB a.f0 b.f0 && decide (mx a.f2 b.f2 < mn a.f3 b.f3)) = true then mx a.f2 b.f2 else -1) := by
    cases hsh : shareB a.f0 b.f0
    · rw [if_pos (hs.2 hsh)]
      simp
    · rw [if_neg (fun h => by rw [hs.1 h] at hsh; cases hsh)]
      by_cases h : mx a.f2 b.f2 ≥ mn a.f3 b.f3
      · rw [if_pos h, decide_eq_false (by omega)]
        simp
      · rw [if_neg h, decide_eq_true (by omega)]
        simp
  cases a.f1
  · cases b.f1
    · simp
    · simpa using e
  · simpa using e
theorem mx_nonneg {a b : SimplLoan} (ha : rangeL a) : 0 ≤ mx a.f2 b.f2 := by have := ha.2.2.1; unfold mx; split <;> omega
theorem clash_ge {a b : SimplLoan} (ha : rangeL a) : ((if confB a b = true then mx a.f2 b.f2 else -1) ≥ 0) ↔ confB a b = true := by
  have := mx_nonneg (b := b) ha
  split
  · rename_i h; simp [h]; omega
  · rename_i h; simp [h]
/-- The pairs (i, k) in conflict, the second one from k on. -/
def rowP (a : SimplLoan) (i : Nat) : Nat → List SimplLoan → List SA2int
  | _, [] => []
  | k, b :: r => if confB a b = true then ⟨(i : Int), (k : Int)⟩ :: rowP a i (k + 1) r else rowP a i (k + 1) r
def prs : Nat → List SimplLoan → List SA2int
  | _, [] => []
  | i, a :: r => rowP a i (i + 1) r ++ prs (i + 1) r
theorem rowP_length (a : SimplLoan) (i : Nat) (l : List SimplLoan) : ∀ k, (rowP a i k l).length ≤ l.length := by
  induction l with
  | nil => intro k; simp [rowP]
  | cons b r ih =>
    intro k
    unfold rowP
    have := ih (k + 1)
    split <;> simp <;> omega
theorem conflicts_in (a : SimplLoan) (ha : rangeL a) (i : Nat) (ls : List SimplLoan) (hr : ∀ x ∈ ls, rangeL x) (hn : ls.length ≤ 1000000) (R : List SA2int) (suf : List SimplLoan) : ∀ (pre : List SimplLoan) (acc : List SA2int), ls = pre ++ suf → acc.length + suf.length ≤ 1000000000000 →
    Ev (fun k => impl_conflicts.l0 k ls (acc ++ rowP a i pre.length suf) ls (ls.length : Int) (wrap64 ((i : Int) + 1))) R →
    Ev (fun k => impl_conflicts.l1 k ls acc (i : Int) (pre.length : Int) ls (ls.length : Int) (i : Int) a.f0.f0 a.f0.f1 a.f0.f2 a.f0.f3 a.f1 a.f2 a.f3) R := by
  induction suf with
  | nil =>
    intro pre acc hl hb h
    refine Ev.step (fun k => ?_) h
    simp only [impl_conflicts.l1]
    rw [if_neg (by rw [hl]; simp)]
    simp [rowP]
  | cons b suf ih =>
    intro pre acc hl hb h
    simp only [List.length_cons] at hb
    have hlen : pre.length + suf.length + 1 ≤ 1000000 := by rw [hl] at hn; simp at hn; omega
    have hl2 : ls = (pre ++ [b]) ++ suf := by rw [hl]; simp
    have hbm : rangeL b := hr b (by rw [hl]; simp)
    have hrd : rd_TimplLoan ls (pre.length : Int) = b := by rw [hl]; exact rdL_mid pre b suf
    have hw : wrap64 ((pre.length : Int) + 1) = ((pre ++ [b]).length : Int) := by rw [wrap_len (by omega)]; simp
    cases hc : confB a b
    · refine Ev.step (fun k => ?_) (ih (pre ++ [b]) acc hl2 (by omega) ?_)
      · simp only [impl_conflicts.l1]
        rw [if_pos (by rw [hl]; simp; omega), if_pos (by omega), hrd, inConflict_f a b ha hbm, hc, Option.bind_some, if_neg (by decide), hw]
      · simpa [rowP, hc] using h
    · refine Ev.step (fun k => ?_) (ih (pre ++ [b]) (acc ++ [⟨(i : Int), (pre.length : Int)⟩]) hl2 (by simp; omega) ?_)
      · simp only [impl_conflicts.l1]
        rw [if_pos (by rw [hl]; simp; omega), if_pos (by omega), hrd, inConflict_f a b ha hbm, hc, Option.bind_some, if_pos rfl, if_pos (by omega), hw]
      · simpa [rowP, hc] using h
theorem conflicts_out (ls : List SimplLoan) (hr : ∀ x ∈ ls, rangeL x) (hn : ls.length ≤ 1000000) (suf : List SimplLoan) : ∀ (pre : List SimplLoan) (acc : List SA2int), ls = pre ++ suf → acc.length + suf.length * 1000000 ≤ 1000000000000 →
    Ev (fun k => impl_conflicts.l0 k ls acc ls (ls.length : Int) (pre.length : Int)) (acc ++ prs pre.length suf) := by
  induction suf with
  | nil =>
    intro pre acc hl hb
    refine Ev.step (fun k => ?_) (Ev.now _)
    simp only [impl_conflicts.l0]
    rw [if_neg (by rw [hl]; simp)]
    simp [prs]
  | cons a suf ih =>
    intro pre acc hl hb
    simp only [List.length_cons] at hb
    have hlen : pre.length + suf.length + 1 ≤ 1000000 := by rw [hl] at hn; simp at hn; omega
    have hl2 : ls = (pre ++ [a]) ++ suf := by rw [hl]; simp
    have ham : rangeL a := hr a (by rw [hl]; simp)
    have hrd : rd_TimplLoan ls (pre.length : Int) = a := by rw [hl]; exact rdL_mid pre a suf
    have hw : wrap64 ((pre.length : Int) + 1) = ((pre ++ [a]).length : Int) := by rw [wrap_len (by omega)]; simp
    have hrl := rowP_length a pre.length suf (pre ++ [a]).length
    refine Ev.step (fun k => ?_) (conflicts_in a ham pre.length ls hr hn (acc ++ prs pre.length (a :: suf)) suf (pre ++ [a]) acc hl2 (by omega) ?_)
    · simp only [impl_conflicts.l0]
      rw [if_pos (by rw [hl]; simp; omega), if_pos (by omega), if_pos (by rw [hl]; simp; omega), hrd, hw]
    · have := ih (pre ++ [a]) (acc ++ rowP a pre.length (pre ++ [a]).length suf) hl2 (by rw [List.length_append]; omega)
      rw [hw]
      simpa [prs] using this
theorem conflicts_f (ls : List SimplLoan) (hr : ∀ x ∈ ls, rangeL x) (hn : ls.length ≤ 1000) : Ev (fun k => impl_conflicts.f k ls) (prs 0 ls) := by
  have := conflicts_out ls hr (by omega) ls [] [] rfl (by simp; omega)
  simpa [impl_conflicts.f] using this
def cleanB (ls : List SimplLoan) : Bool := (prs 0 ls).isEmpty
theorem areClean_f (ls : List SimplLoan) (hr : ∀ x ∈ ls, rangeL x) (hn : ls.length ≤ 1000) : Ev (fun k => impl_areClean.f k ls) (cleanB ls) := by
  refine Ev.bind (conflicts_f ls hr hn) ?_
  have : (((prs 0 ls).length : Int) == 0) = cleanB ls := by
    unfold cleanB
    cases prs 0 ls with
    | nil => rfl
    | cons x r =>
      show ((((x :: r).length : Nat) : Int) == 0) = false
      simp
      omega
  rw [this]
  exact Ev.now _
theorem pairs_in (a : SimplLoan) (ha : rangeL a) (ls : List SimplLoan) (hr : ∀ x ∈ ls, rangeL x) (hn : ls.length ≤ 1000000) (i : Nat) (hi : ls[i]? = some a) (R : List SA2int) (suf : List SimplLoan) : ∀ (pre : List SimplLoan) (acc : List SA2int), ls = pre ++ suf → acc.length + suf.length ≤ 1000000000000 →
    Ev (fun k => spec_l10Pairs.l0 k ls (acc ++ rowP a i pre.length suf) (wrap64 ((i : Int) + 1))) R →
    Ev (fun k => spec_l10Pairs.l1 k ls acc (i : Int) (pre.length : Int)) R := by
  have hil : i < ls.length := by
    rcases Nat.lt_or_ge i ls.length with h | h
    · exact h
    · rw [List.getElem?_eq_none h] at hi; cases hi
  have hra : rd_TimplLoan ls (i : Int) = a := by unfold rd_TimplLoan; rw [Int.toNat_natCast, List.getD_eq_getElem?_getD, hi]; rfl
  induction suf with
  | nil =>
    intro pre acc hl hb h
    refine Ev.step (fun k => ?_) h
    simp only [spec_l10Pairs.l1]
    rw [if_neg (by rw [hl]; simp)]
    simp [rowP]
  | cons b suf ih =>
    intro pre acc hl hb h
    simp only [List.length_cons] at hb
    have hlen : pre.length + suf.length + 1 ≤ 1000000 := by rw [hl] at hn; simp at hn; omega
    have hl2 : ls = (pre ++ [b]) ++ suf := by rw [hl]; simp
    have hbm : rangeL b := hr b (by rw [hl]; simp)
    have hrd : rd_TimplLoan ls (pre.length : Int) = b := by rw [hl]; exact rdL_mid pre b suf
    have hw : wrap64 ((pre.length : Int) + 1) = ((pre ++ [b]).length : Int) := by rw [wrap_len (by omega)]; simp
    cases hc : confB a b
    · refine Ev.step (fun k => ?_) (ih (pre ++ [b]) acc hl2 (by omega) ?_)
      · simp only [spec_l10Pairs.l1]
        rw [if_pos (by rw [hl]; simp; omega), if_pos (by omega), if_pos (by omega), if_pos (by omega), hra, hrd, l10Clash_f a b ha hbm, Option.bind_some, if_neg (by rw [clash_ge ha, hc]; decide), hw]
      · simpa [rowP, hc] using h
    · refine Ev.step (fun k => ?_) (ih (pre ++ [b]) (acc ++ [⟨(i : Int), (pre.length : Int)⟩]) hl2 (by simp; omega) ?_)
      · simp only [spec_l10Pairs.l1]
        rw [if_pos (by rw [hl]; simp; omega), if_pos (by omega), if_pos (by omega), if_pos (by omega), hra, hrd, l10Clash_f a b ha hbm, Option.bind_some, if_pos (by rw [clash_ge ha, hc]), if_pos (by omega), hw]
      · simpa [rowP, hc] using h
theorem pairs_out (ls : List SimplLoan) (hr : ∀ x ∈ ls, rangeL x) (hn : ls.length ≤ 1000000) (suf : List SimplLoan) : ∀ (pre : List SimplLoan) (acc : List SA2int), ls = pre ++ suf → acc.length + suf.length * 1000000 ≤ 1000000000000 →
    Ev (fun k => spec_l10Pairs.l0 k ls acc (pre.length : Int)) (acc ++ prs pre.length suf) := by
  induction suf with
  | nil =>
    intro pre acc hl hb
    refine Ev.step (fun k => ?_) (Ev.now _)
    simp only [spec_l10Pairs.l0]
    rw [if_neg (by rw [hl]; simp)]
    simp [prs]
  | cons a suf ih =>
    intro pre acc hl hb
    simp only [List.length_cons] at hb
    have hlen : pre.length + suf.length + 1 ≤ 1000000 := by rw [hl] at hn; simp at hn; omega
    have hl2 : ls = (pre ++ [a]) ++ suf := by rw [hl]; simp
    have ham : rangeL a := hr a (by rw [hl]; simp)
    have hw : wrap64 ((pre.length : Int) + 1) = ((pre ++ [a]).length : Int) := by rw [wrap_len (by omega)]; simp
    have hrl := rowP_length a pre.length suf (pre ++ [a]).length
    refine Ev.step (fun k => ?_) (pairs_in a ham ls hr hn pre.length (by rw [hl]; simp) (acc ++ prs pre.length (a :: suf)) suf (pre ++ [a]) acc hl2 (by omega) ?_)
    · simp only [spec_l10Pairs.l0]
      rw [if_pos (by rw [hl]; simp; omega), hw]
    · have := ih (pre ++ [a]) (acc ++ rowP a pre.length (pre ++ [a]).length suf) hl2 (by rw [List.length_append]; omega)
      rw [hw]
      simpa [prs] using this
theorem pairs_f (ls : List SimplLoan) (hr : ∀ x ∈ ls, rangeL x) (hn : ls.length ≤ 1000) : Ev (fun k => spec_l10Pairs.f k ls) (prs 0 ls) := by
  have := pairs_out ls hr (by omega) ls [] [] rfl (by simp; omega)
  simpa [spec_l10Pairs.f] using this
/-- A loan is in conflict with none of some others. -/
def aloneB (ls : List SimplLoan) (x : SimplLoan) : Bool := ls.all (fun y => !confB y x)
theorem alone_ev (x : SimplLoan) (hx : rangeL x) (suf : List SimplLoan) : ∀ (pre : List SimplLoan), pre.length + suf.length ≤ 1000000 → (∀ y ∈ suf, rangeL y) →
    Ev (fun k => spec_l10Alone.l0 k (pre ++ suf) (pre.length : Int) x.f0.f0 x.f0.f1 x.f0.f2 x.f0.f3 x.f1 x.f2 x.f3) (aloneB suf x) := by
  induction suf with
  | nil =>
    intro pre h1 h2
    refine Ev.step (fun k => ?_) (Ev.now _)
    simp only [spec_l10Alone.l0]
    rw [if_neg (by simp)]
    rfl
  | cons y suf ih =>
    intro pre h1 h2
    simp only [List.length_cons] at h1
    cases hc : confB y x
    · refine Ev.step (f := fun k => spec_l10Alone.l0 k ((pre ++ [y]) ++ suf) ((pre ++ [y]).length : Int) x.f0.f0 x.f0.f1 x.f0.f2 x.f0.f3 x.f1 x.f2 x.f3) (fun k => ?_) ?_
      · simp only [spec_l10Alone.l0]
        rw [if_pos (by simp; omega), if_pos (by omega), rdL_mid, l10Clash_f y x (h2 y (by simp)) hx, Option.bind_some, if_neg (by rw [clash_ge (h2 y (by simp)), hc]; decide), wrap_len (by omega)]
        simp
      · have := ih (pre ++ [y]) (by simp; omega) (fun z hz => h2 z (by simp [hz]))
        have e : aloneB (y :: suf) x = aloneB suf x := by simp [aloneB, hc]
        rw [e]
        exact this
    · have e : aloneB (y :: suf) x = false := by simp [aloneB, hc]
      rw [e]
      refine Ev.step (fun k => ?_) (Ev.now _)
      simp only [spec_l10Alone.l0]
      rw [if_pos (by simp; omega), if_pos (by omega), rdL_mid, l10Clash_f y x (h2 y (by simp)) hx, Option.bind_some, if_pos (by rw [clash_ge (h2 y (by simp)), hc])]
theorem alone_f (ls : List SimplLoan) (x : SimplLoan) (hx : rangeL x) (hn : ls.length ≤ 1000000) (hr : ∀ y ∈ ls, rangeL y) : Ev (fun k => spec_l10Alone.f k ls x.f0.f0 x.f0.f1 x.f0.f2 x.f0.f3 x.f1 x.f2 x.f3) (aloneB ls x) := by
  have := alone_ev x hx ls [] (by simpa using hn) hr
  simpa [spec_l10Alone.f] using this
theorem empty_app {α : Type} (a b : List α) : (a ++ b).isEmpty = (a.isEmpty && b.isEmpty) := by cases a <;> rfl
theorem rowP_snoc (a x : SimplLoan) (i : Nat) (l : List SimplLoan) : ∀ k, (rowP a i k (l ++ [x])).isEmpty = ((rowP a i k l).isEmpty && !confB a x) := by
  induction l with
  | nil =>
    intro k
    cases h : confB a x <;> simp [rowP, h]
  | cons b r ih =>
    intro k
    have := ih (k + 1)
    cases h : confB a b
    · simpa [rowP, h] using this
    · simp [rowP, h]
theorem prs_snoc (x : SimplLoan) (l : List SimplLoan) : ∀ i, (prs i (l ++ [x])).isEmpty = ((prs i l).isEmpty && aloneB l x) := by
  induction l with
  | nil => intro i; simp [prs, rowP, aloneB]
  | cons a r ih =>
    intro i
    have h1 := ih (i + 1)
    have h2 := rowP_snoc a x i r (i + 1)
    have e1 : (prs i (a :: r ++ [x])).isEmpty = ((rowP a i (i + 1) (r ++ [x])).isEmpty && (prs (i + 1) (r ++ [x])).isEmpty) := by
      show (rowP a i (i + 1) (r ++ [x]) ++ prs (i + 1) (r ++ [x])).isEmpty = _
      rw [empty_app]
    have e2 : (prs i (a :: r)).isEmpty = ((rowP a i (i + 1) r).isEmpty && (prs (i + 1) r).isEmpty) := by
      show (rowP a i (i + 1) r ++ prs (i + 1) r).isEmpty = _
      rw [empty_app]
    have e3 : aloneB (a :: r) x = (!confB a x && aloneB r x) := by simp [aloneB]
    rw [e1, e2, e3, h1, h2]
    cases (rowP a i (i + 1) r).isEmpty <;> cases (prs (i + 1) r).isEmpty <;> cases confB a x <;> cases aloneB r x <;> rfl
theorem cleanB_snoc (l : List SimplLoan) (x : SimplLoan) : cleanB (l ++ [x]) = (cleanB l && aloneB l x) := prs_snoc x l 0
end Go.Proofs.Ytpbboooeahmgpaa.P


namespace Go.Proofs.Ytpbboooeahmgpaa.P
open Go.RowKit Go.Proofs.YtpbboooeahmgpaaW.PrintWords Go.Proofs.YtpbboooeahmgpaaW.PrintLast Go.Proofs.YtpbboooeahmgpaaW.PrintMore
attribute [local go_sem] max2_int min2_int max_two min_two max_three min_three max_four min_four   -- for this text's walks alone
set_option linter.unusedVariables false
set_option linter.unusedSimpArgs false

/-! ### spec_CanLend: function 42 -/
def spec_CanLend.f (k : Nat) (l0_0 : List (List Int)) (l1 : List (SimplLoan)) (a2_0 : Int) (a2_1 : Int) (a2_2 : Int) (a2_3 : Int) (a2_4 : Bool) (a2_5 : Int) (a2_6 : Int) : Option (Bool × Bool) := (spec_l10Loans.f k l0_0 l1).bind fun t774 => (if t774 = true then ((spec_l10Loan.f k l0_0 a2_0 a2_1 a2_2 a2_3 a2_4 a2_5 a2_6).bind fun t775 => (if t775 = true then (if (l1.length : Int) = 8 then (some (false, false)) else ((spec_l10Pairs.f k l1).bind fun t776 => (if (t776.length : Int) > 0 then (some (false, false)) else ((spec_l10Alone.f k l1 a2_0 a2_1 a2_2 a2_3 a2_4 a2_5 a2_6).bind fun t779 => (some (t779, true)))))) else (some (false, false)))) else (some (false, false)))
set_option maxHeartbeats 8000000 in
set_option maxRecDepth 100000 in
theorem spec_CanLend.calls (k : Nat) (A0_0 : Option Addr) (c0_0 : Nat) (l0_0 : List (List Int)) (A1 : Option Addr) (c1 : Nat) (l1 : List (SimplLoan)) (a2_0 : Int) (a2_1 : Int) (a2_2 : Int) (a2_3 : Int) (a2_4 : Bool) (a2_5 : Int) (a2_6 : Int) (r1 : Bool) (r2 : Bool) (w : World) (hr0_0 : Kd.C (Kd.slice 5 (Kd.int .u8)) w A0_0 l0_0.length l0_0) (hc0_0 : l0_0.length ≤ c0_0) (hr1 : Kd.C kimplLoan w A1 l1.length l1) (hc1 : l1.length ≤ c1) (h : spec_CanLend.f k l0_0 l1 a2_0 a2_1 a2_2 a2_3 a2_4 a2_5 a2_6 = some (r1, r2)) :
    Calls Try.prog 42 #[.agg #[.slice A0_0 l0_0.length c0_0], .slice A1 l1.length c1, .agg #[.int .i64 a2_0, .int .i64 a2_1, .int .i64 a2_2, .int .i64 a2_3, .bool a2_4, .int .i64 a2_5, .int .i64 a2_6]] w fun e w' => e = .returned (.tuple #[.bool r1, .bool r2]) ∧ Below w.heap.size w w' := by
  have hu26 := Try.underlying26
  have hu30 := Try.underlying30
  have HR0_0 := Aside0.mk hr0_0
  have HC0_0 := Aside0.mk hc0_0
  clear hr0_0 hc0_0
  have HR1 := Aside0.mk hr1
  have HC1 := Aside0.mk hc1
  clear hr1 hc1
  have HB := Aside0.mk (Below.refl w.heap.size w)
  have H : ((spec_l10Loans.f k l0_0 l1).bind fun t774 => (if t774 = true then ((spec_l10Loan.f k l0_0 a2_0 a2_1 a2_2 a2_3 a2_4 a2_5 a2_6).bind fun t775 => (if t775 = true then (if (l1.length : Int) = 8 then (some (false, false)) else ((spec_l10Pairs.f k l1).bind fun t776 => (if (t776.length : Int) > 0 then (some (false, false)) else ((spec_l10Alone.f k l1 a2_0 a2_1 a2_2 a2_3 a2_4 a2_5 a2_6).bind fun t779 => (some (t779, true)))))) else (some (false, false)))) else (some (false, false)))) = some (r1, r2) := h
  clear h
  replace H := Option.bind_eq_some_iff.mp H
  obtain ⟨t774, A40, H⟩ := H
  replace H : (if t774 = true then ((spec_l10Loan.f k l0_0 a2_0 a2_1 a2_2 a2_3 a2_4 a2_5 a2_6).bind fun t775 => (if t775 = true then (if (l1.length : Int) = 8 then (some (false, false)) else ((spec_l10Pairs.f k l1).bind fun t776 => (if (t776.length : Int) > 0 then (some (false, false)) else ((spec_l10Alone.f k l1 a2_0 a2_1 a2_2 a2_3 a2_4 a2_5 a2_6).bind fun t779 => (some (t779, true)))))) else (some (false, false)))) else (some (false, false))) = some (r1, r2) := H
  have A4 := Aside0.mk A40
  clear A40
  by_cases c5 : t774 = true
  · subst c5
    have H1 : ((spec_l10Loan.f k l0_0 a2_0 a2_1 a2_2 a2_3 a2_4 a2_5 a2_6).bind fun t775 => (if t775 = true then (if (l1.length : Int) = 8 then (some (false, false)) else ((spec_l10Pairs.f k l1).bind fun t776 => (if (t776.length : Int) > 0 then (some (false, false)) else ((spec_l10Alone.f k l1 a2_0 a2_1 a2_2 a2_3 a2_4 a2_5 a2_6).bind fun t779 => (some (t779, true)))))) else (some (false, false)))) = some (r1, r2) := by rw [if_pos rfl] at H; exact H
    clear H
    have H := H1
    clear H1
    replace H := Option.bind_eq_some_iff.mp H
    obtain ⟨t775, A60, H⟩ := H
    replace H : (if t775 = true then (if (l1.length : Int) = 8 then (some (false, false)) else ((spec_l10Pairs.f k l1).bind fun t776 => (if (t776.length : Int) > 0 then (some (false, false)) else ((spec_l10Alone.f k l1 a2_0 a2_1 a2_2 a2_3 a2_4 a2_5 a2_6).bind fun t779 => (some (t779, true)))))) else (some (false, false))) = some (r1, r2) := H
    have A6 := Aside0.mk A60
    clear A60
    by_cases c7 : t775 = true
    · subst c7
      have H1 : (if (l1.length : Int) = 8 then (some (false, false)) else ((spec_l10Pairs.f k l1).bind fun t776 => (if (t776.length : Int) > 0 then (some (false, false)) else ((spec_l10Alone.f k l1 a2_0 a2_1 a2_2 a2_3 a2_4 a2_5 a2_6).bind fun t779 => (some (t779, true)))))) = some (r1, r2) := by rw [if_pos rfl] at H; exact H
      clear H
      have H := H1
      clear H1
      by_cases c8 : (l1.length : Int) = 8
      · rw [if_pos c8] at H
        have c8b0 : ((l1.length : Int) == 8) = true := beq_iff_eq.mpr c8
        have c8b1 : ((l1.length : Int) != 8) = false := bne_eq_false_iff_eq.mpr c8
        clear c8
        simp only [Option.some.injEq, Prod.mk.injEq] at H
        obtain ⟨rfl, rfl⟩ := H
        go_enter Try.func42, Try.ntmps42
        go_wp2_with (first | ((with_reducible refine gate_dst (N := 3) rfl ?_); (try (refine gate_guard (by rfl) ?_; dsimp only)); refine box_event ?hg (N := 3) ?hd (cs := #[.slice A0_0 l0_0.length c0_0]) (t := 26) ?hr ?_; (case hd => rfl); (case hg => rfl); (case hr => first | (go_simp; done) | (go_simp; rfl)); intro gb772 hg w9 hbox hb; have n0_ := Aside0.mk (below_step (by repeat (first | (with_reducible first | exact HB.out | apply below_alloc | apply pw_below_drewN | apply below_drew1) | exact HB.out)) hb); have n1_ := Aside0.mk (hbox); have n2_ := Aside0.mk ((by rw [hg]; exact (below_size (by repeat (first | (with_reducible first | exact HB.out | apply below_alloc | apply pw_below_drewN | apply below_drew1) | exact HB.out))) : w.heap.size ≤ gb772)); have n3_ := Aside0.mk ((by rw [hg]; exact (below_size (by repeat (first | (with_reducible first | exact HB.out | apply below_alloc | apply pw_below_drewN | apply below_drew1) | exact HB.out))) : w.heap.size ≤ gb772)); clear HB; have HB := n0_; have BK772 := n1_; have GW772 := n2_; have GE772 := n3_; clear n0_ n1_ n2_ n3_; clear hb hbox hg) | ((with_reducible refine gate_dst (N := 5) rfl ?_); (try (refine gate_guard (by rfl) ?_; dsimp only)); refine box_event ?hg (N := 5) ?hd (cs := #[.int .i64 a2_0, .int .i64 a2_1, .int .i64 a2_2, .int .i64 a2_3, .bool a2_4, .int .i64 a2_5, .int .i64 a2_6]) (t := 30) ?hr ?_; (case hd => rfl); (case hg => rfl); (case hr => first | (go_simp; done) | (go_simp; rfl)); intro gb773 hg w10 hbox hb; have n0_ := Aside0.mk (blk_below (g := gb772) (o := .cells #[.slice A0_0 l0_0.length c0_0] 26 (0, 0)) (by (with_reducible repeat (first | refine blk_drewN ?_ _ | refine blk_drew ?_ | refine blk_alloc ?_ _)); exact BK772.out) hb); have n1_ := Aside0.mk (below_step (by repeat (first | (with_reducible first | exact HB.out | apply below_alloc | apply pw_below_drewN | apply below_drew1 | refine below_set ?_ GE772.out) | exact HB.out)) hb); have n2_ := Aside0.mk (hbox); have n3_ := Aside0.mk ((by rw [hg]; exact (below_size (by repeat (first | (with_reducible first | exact HB.out | apply below_alloc | apply pw_below_drewN | apply below_drew1 | refine below_set ?_ GE772.out) | exact HB.out))) : w.heap.size ≤ gb773)); have n4_ := Aside0.mk ((by rw [hg]; exact (below_size (by repeat (first | (with_reducible first | exact HB.out | apply below_alloc | apply pw_below_drewN | apply below_drew1 | refine below_set ?_ GE772.out) | exact HB.out))) : w.heap.size ≤ gb773)); have n5_ := Aside0.mk ((by rw [hg]; exact Nat.ne_of_lt (blk_lt (g := gb772) (o := .cells #[.slice A0_0 l0_0.length c0_0] 26 (0, 0)) (by (with_reducible repeat (first | refine blk_drewN ?_ _ | refine blk_drew ?_ | refine blk_alloc ?_ _)); exact BK772.out)) : gb772 ≠ gb773)); have n6_ := Aside0.mk ((by rw [hg]; exact Nat.ne_of_gt (blk_lt (g := gb772) (o := .cells #[.slice A0_0 l0_0.length c0_0] 26 (0, 0)) (by (with_reducible repeat (first | refine blk_drewN ?_ _ | refine blk_drew ?_ | refine blk_alloc ?_ _)); exact BK772.out)) : gb773 ≠ gb772)); clear BK772; clear HB; have BK772 := n0_; have HB := n1_; have BK773 := n2_; have GW773 := n3_; have GE773 := n4_; have NB772_773 := n5_; have NB773_772 := n6_; clear n0_ n1_ n2_ n3_ n4_ n5_ n6_; clear hb hbox hg; have hnb11 := NB772_773.out; have hnc11 := NB773_772.out; have hcz12_0 : w10.cell? ⟨gb772, 0, none⟩ = some (.slice A0_0 l0_0.length c0_0) := (blk_cell BK772.out 0).trans rfl; have hfz12_0 := blk_frozen BK772.out 0) | ((with_reducible refine gate_callee (f := 83) rfl ?_); refine goesL_ (some 10) rfl rfl Try.func83 (by kernel_rfl) rfl #[.agg #[.slice A0_0 l0_0.length c0_0], .slice A1 l1.length c1] rfl (by (try simp only [List.map_toArray, List.map_cons, List.map_nil]); first | done | rfl | (simp only [List.length_drop, List.length_take]; rfl)) ?_; (with_reducible refine (spec_l10Loans.calls k _ _ l0_0 _ _ l1 true _ ?side1 ?side2 ?side3 ?side4 A4.out).mono ?_); (case side1 => repeat (first | exact (Kd.C_below HR0_0.out HB.out) | (with_reducible refine Kd.C_alloc ?_ _) | (with_reducible refine Kd.C_drewN ?_ _) | (with_reducible refine Kd.C_drew ?_))); (case side2 => exact HC0_0.out); (case side3 => repeat (first | exact (Kd.C_below HR1.out HB.out) | (with_reducible refine Kd.C_alloc ?_ _) | (with_reducible refine Kd.C_drewN ?_ _) | (with_reducible refine Kd.C_drew ?_))); (case side4 => exact HC1.out); rintro e w13 ⟨rfl, hb⟩; refine ⟨_, rfl, ?_⟩; have n0_ := Aside0.mk (blk_below (g := gb772) (o := .cells #[.slice A0_0 l0_0.length c0_0] 26 (0, 0)) (by (with_reducible repeat (first | refine blk_drewN ?_ _ | refine blk_drew ?_ | refine blk_alloc ?_ _)); exact BK772.out) hb); have n1_ := Aside0.mk (blk_below (g := gb773) (o := .cells #[.int .i64 a2_0, .int .i64 a2_1, .int .i64 a2_2, .int .i64 a2_3, .bool a2_4, .int .i64 a2_5, .int .i64 a2_6] 30 (0, 0)) (by (with_reducible repeat (first | refine blk_drewN ?_ _ | refine blk_drew ?_ | refine blk_alloc ?_ _)); exact BK773.out) hb); have n2_ := Aside0.mk (below_step (by repeat (first | (with_reducible first | exact HB.out | apply below_alloc | apply pw_below_drewN | apply below_drew1 | refine below_set ?_ GE772.out | refine below_set ?_ GE773.out) | exact HB.out)) hb); clear BK772; clear BK773; clear HB; have BK772 := n0_; have BK773 := n1_; have HB := n2_; clear n0_ n1_ n2_; (try clear hb); (try clear hb2); (try clear hk); (try clear hi); have hcz14_0 : w13.cell? ⟨gb772, 0, none⟩ = some (.slice A0_0 l0_0.length c0_0) := (blk_cell BK772.out 0).trans rfl; have hfz14_0 := blk_frozen BK772.out 0; have hcz15_0 : w13.cell? ⟨gb773, 0, none⟩ = some (.int .i64 a2_0) := (blk_cell BK773.out 0).trans rfl; have hcz15_1 : w13.cell? ⟨gb773, 1, none⟩ = some (.int .i64 a2_1) := (blk_cell BK773.out 1).trans rfl; have hcz15_2 : w13.cell? ⟨gb773, 2, none⟩ = some (.int .i64 a2_2) := (blk_cell BK773.out 2).trans rfl; have hcz15_3 : w13.cell? ⟨gb773, 3, none⟩ = some (.int .i64 a2_3) := (blk_cell BK773.out 3).trans rfl; have hcz15_4 : w13.cell? ⟨gb773, 4, none⟩ = some (.bool a2_4) := (blk_cell BK773.out 4).trans rfl; have hcz15_5 : w13.cell? ⟨gb773, 5, none⟩ = some (.int .i64 a2_5) := (blk_cell BK773.out 5).trans rfl; have hcz15_6 : w13.cell? ⟨gb773, 6, none⟩ = some (.int .i64 a2_6) := (blk_cell BK773.out 6).trans rfl; have hfz15_0 := blk_frozen BK773.out 0; have hfz15_1 := blk_frozen BK773.out 1; have hfz15_2 := blk_frozen BK773.out 2; have hfz15_3 := blk_frozen BK773.out 3; have hfz15_4 := blk_frozen BK773.out 4; have hfz15_5 := blk_frozen BK773.out 5; have hfz15_6 := blk_frozen BK773.out 6) | (go_at_call 70; (with_reducible refine (spec_l10Loan.calls k _ _ l0_0 a2_0 a2_1 a2_2 a2_3 a2_4 a2_5 a2_6 true _ ?side1 ?side2 A6.out).mono ?_); (case side1 => repeat (first | exact (Kd.C_below HR0_0.out HB.out) | (with_reducible refine Kd.C_alloc ?_ _) | (with_reducible refine Kd.C_drewN ?_ _) | (with_reducible refine Kd.C_drew ?_))); (case side2 => exact HC0_0.out); rintro e w16 ⟨rfl, hb⟩; have n0_ := Aside0.mk (blk_below (g := gb772) (o := .cells #[.slice A0_0 l0_0.length c0_0] 26 (0, 0)) (by (with_reducible repeat (first | refine blk_drewN ?_ _ | refine blk_drew ?_ | refine blk_alloc ?_ _)); exact BK772.out) hb); have n1_ := Aside0.mk (blk_below (g := gb773) (o := .cells #[.int .i64 a2_0, .int .i64 a2_1, .int .i64 a2_2, .int .i64 a2_3, .bool a2_4, .int .i64 a2_5, .int .i64 a2_6] 30 (0, 0)) (by (with_reducible repeat (first | refine blk_drewN ?_ _ | refine blk_drew ?_ | refine blk_alloc ?_ _)); exact BK773.out) hb); have n2_ := Aside0.mk (below_step (by repeat (first | (with_reducible first | exact HB.out | apply below_alloc | apply pw_below_drewN | apply below_drew1 | refine below_set ?_ GE772.out | refine below_set ?_ GE773.out) | exact HB.out)) hb); clear BK772; clear BK773; clear HB; have BK772 := n0_; have BK773 := n1_; have HB := n2_; clear n0_ n1_ n2_; (try clear hb); (try clear hb2); (try clear hk); (try clear hi)))
        go_ret2
        exact ⟨by first | rfl | (simp [errW_none, errW_some] <;> rfl) | (simp [*, errW_none, errW_some] <;> rfl), by repeat (first | (with_reducible first | exact HB.out | apply below_alloc | apply pw_below_drewN | apply below_drew1 | refine below_set ?_ GE772.out | refine below_set ?_ GE773.out) | exact HB.out)⟩
      · rw [if_neg c8] at H
        have c8b0 : ((l1.length : Int) == 8) = false := beq_eq_false_iff_ne.mpr c8
        have c8b1 : ((l1.length : Int) != 8) = true := bne_iff_ne.mpr c8
        replace H := Option.bind_eq_some_iff.mp H
        obtain ⟨t776, A170, H⟩ := H
        replace H : (if (t776.length : Int) > 0 then (some (false, false)) else ((spec_l10Alone.f k l1 a2_0 a2_1 a2_2 a2_3 a2_4 a2_5 a2_6).bind fun t779 => (some (t779, true)))) = some (r1, r2) := H
        have A17 := Aside0.mk A170
        clear A170
        by_cases c18 : (t776.length : Int) > 0
        · rw [if_pos c18] at H
          have c18b0 : decide (0 < (t776.length : Int)) = true := decide_eq_true c18
          have c18b1 : decide (0 < t776.length) = true := decide_eq_true (by omega)
          clear c18
          simp only [Option.some.injEq, Prod.mk.injEq] at H
          obtain ⟨rfl, rfl⟩ := H
          go_enter Try.func42, Try.ntmps42
          go_wp2_with (first | ((with_reducible refine gate_dst (N := 3) rfl ?_); (try (refine gate_guard (by rfl) ?_; dsimp only)); refine box_event ?hg (N := 3) ?hd (cs := #[.slice A0_0 l0_0.length c0_0]) (t := 26) ?hr ?_; (case hd => rfl); (case hg => rfl); (case hr => first | (go_simp; done) | (go_simp; rfl)); intro gb772 hg w19 hbox hb; have n0_ := Aside0.mk (below_step (by repeat (first | (with_reducible first | exact HB.out | apply below_alloc | apply pw_below_drewN | apply below_drew1) | exact HB.out)) hb); have n1_ := Aside0.mk (hbox); have n2_ := Aside0.mk ((by rw [hg]; exact (below_size (by repeat (first | (with_reducible first | exact HB.out | apply below_alloc | apply pw_below_drewN | apply below_drew1) | exact HB.out))) : w.heap.size ≤ gb772)); have n3_ := Aside0.mk ((by rw [hg]; exact (below_size (by repeat (first | (with_reducible first | exact HB.out | apply below_alloc | apply pw_below_drewN | apply below_drew1) | exact HB.out))) : w.heap.size ≤ gb772)); clear HB; have HB := n0_; have BK772 := n1_; have GW772 := n2_; have GE772 := n3_; clear n0_ n1_ n2_ n3_; clear hb hbox hg) | ((with_reducible refine gate_dst (N := 5) rfl ?_); (try (refine gate_guard (by rfl) ?_; dsimp only)); refine box_event ?hg (N := 5) ?hd (cs := #[.int .i64 a2_0, .int .i64 a2_1, .int .i64 a2_2, .int .i64 a2_3, .bool a2_4, .int .i64 a2_5, .int .i64 a2_6]) (t := 30) ?hr ?_; (case hd => rfl); (case hg => rfl); (case hr => first | (go_simp; done) | (go_simp; rfl)); intro gb773 hg w20 hbox hb; have n0_ := Aside0.mk (blk_below (g := gb772) (o := .cells #[.slice A0_0 l0_0.length c0_0] 26 (0, 0)) (by (with_reducible repeat (first | refine blk_drewN ?_ _ | refine blk_drew ?_ | refine blk_alloc ?_ _)); exact BK772.out) hb); have n1_ := Aside0.mk (below_step (by repeat (first | (with_reducible first | exact HB.out | apply below_alloc | apply pw_below_drewN | apply below_drew1 | refine below_set ?_ GE772.out) | exact HB.out)) hb); have n2_ := Aside0.mk (hbox); have n3_ := Aside0.mk ((by rw [hg]; exact (below_size (by repeat (first | (with_reducible first | exact HB.out | apply below_alloc | apply pw_below_drewN | apply below_drew1 | refine below_set ?_ GE772.out) | exact HB.out))) : w.heap.size ≤ gb773)); have n4_ := Aside0.mk ((by rw [hg]; exact (below_size (by repeat (first | (with_reducible first | exact HB.out | apply below_alloc | apply pw_below_drewN | apply below_drew1 | refine below_set ?_ GE772.out) | exact HB.out))) : w.heap.size ≤ gb773)); have n5_ := Aside0.mk ((by rw [hg]; exact Nat.ne_of_lt (blk_lt (g := gb772) (o := .cells #[.slice A0_0 l0_0.length c0_0] 26 (0, 0)) (by (with_reducible repeat (first | refine blk_drewN ?_ _ | refine blk_drew ?_ | refine blk_alloc ?_ _)); exact BK772.out)) : gb772 ≠ gb773)); have n6_ := Aside0.mk ((by rw [hg]; exact Nat.ne_of_gt (blk_lt (g := gb772) (o := .cells #[.slice A0_0 l0_0.length c0_0] 26 (0, 0)) (by (with_reducible repeat (first | refine blk_drewN ?_ _ | refine blk_drew ?_ | refine blk_alloc ?_ _)); exact BK772.out)) : gb773 ≠ gb772)); clear BK772; clear HB; have BK772 := n0_; have HB := n1_; have BK773 := n2_; have GW773 := n3_; have GE773 := n4_; have NB772_773 := n5_; have NB773_772 := n6_; clear n0_ n1_ n2_ n3_ n4_ n5_ n6_; clear hb hbox hg; have hnb21 := NB772_773.out; have hnc21 := NB773_772.out; have hcz22_0 : w20.cell? ⟨gb772, 0, none⟩ = some (.slice A0_0 l0_0.length c0_0) := (blk_cell BK772.out 0).trans rfl; have hfz22_0 := blk_frozen BK772.out 0) | ((with_reducible refine gate_callee (f := 83) rfl ?_); refine goesL_ (some 10) rfl rfl Try.func83 (by kernel_rfl) rfl #[.agg #[.slice A0_0 l0_0.length c0_0], .slice A1 l1.length c1] rfl (by (try simp only [List.map_toArray, List.map_cons, List.map_nil]); first | done | rfl | (simp only [List.length_drop, List.length_take]; rfl)) ?_; (with_reducible refine (spec_l10Loans.calls k _ _ l0_0 _ _ l1 true _ ?side1 ?side2 ?side3 ?side4 A4.out).mono ?_); (case side1 => repeat (first | exact (Kd.C_below HR0_0.out HB.out) | (with_reducible refine Kd.C_alloc ?_ _) | (with_reducible refine Kd.C_drewN ?_ _) | (with_reducible refine Kd.C_drew ?_))); (case side2 => exact HC0_0.out); (case side3 => repeat (first | exact (Kd.C_below HR1.out HB.out) | (with_reducible refine Kd.C_alloc ?_ _) | (with_reducible refine Kd.C_drewN ?_ _) | (with_reducible refine Kd.C_drew ?_))); (case side4 => exact HC1.out); rintro e w23 ⟨rfl, hb⟩; refine ⟨_, rfl, ?_⟩; have n0_ := Aside0.mk (blk_below (g := gb772) (o := .cells #[.slice A0_0 l0_0.length c0_0] 26 (0, 0)) (by (with_reducible repeat (first | refine blk_drewN ?_ _ | refine blk_drew ?_ | refine blk_alloc ?_ _)); exact BK772.out) hb); have n1_ := Aside0.mk (blk_below (g := gb773) (o := .cells #[.int .i64 a2_0, .int .i64 a2_1, .int .i64 a2_2, .int .i64 a2_3, .bool a2_4, .int .i64 a2_5, .int .i64 a2_6] 30 (0, 0)) (by (with_reducible repeat (first | refine blk_drewN ?_ _ | refine blk_drew ?_ | refine blk_alloc ?_ _)); exact BK773.out) hb); have n2_ := Aside0.mk (below_step (by repeat (first | (with_reducible first | exact HB.out | apply below_alloc | apply pw_below_drewN | apply below_drew1 | refine below_set ?_ GE772.out | refine below_set ?_ GE773.out) | exact HB.out)) hb); clear BK772; clear BK773; clear HB; have BK772 := n0_; have BK773 := n1_; have HB := n2_; clear n0_ n1_ n2_; (try clear hb); (try clear hb2); (try clear hk); (try clear hi); have hcz24_0 : w23.cell? ⟨gb772, 0, none⟩ = some (.slice A0_0 l0_0.length c0_0) := (blk_cell BK772.out 0).trans rfl; have hfz24_0 := blk_frozen BK772.out 0; have hcz25_0 : w23.cell? ⟨gb773, 0, none⟩ = some (.int .i64 a2_0) := (blk_cell BK773.out 0).trans rfl; have hcz25_1 : w23.cell? ⟨gb773, 1, none⟩ = some (.int .i64 a2_1) := (blk_cell BK773.out 1).trans rfl; have hcz25_2 : w23.cell? ⟨gb773, 2, none⟩ = some (.int .i64 a2_2) := (blk_cell BK773.out 2).trans rfl; have hcz25_3 : w23.cell? ⟨gb773, 3, none⟩ = some (.int .i64 a2_3) := (blk_cell BK773.out 3).trans rfl; have hcz25_4 : w23.cell? ⟨gb773, 4, none⟩ = some (.bool a2_4) := (blk_cell BK773.out 4).trans rfl; have hcz25_5 : w23.cell? ⟨gb773, 5, none⟩ = some (.int .i64 a2_5) := (blk_cell BK773.out 5).trans rfl; have hcz25_6 : w23.cell? ⟨gb773, 6, none⟩ = some (.int .i64 a2_6) := (blk_cell BK773.out 6).trans rfl; have hfz25_0 := blk_frozen BK773.out 0; have hfz25_1 := blk_frozen BK773.out 1; have hfz25_2 := blk_frozen BK773.out 2; have hfz25_3 := blk_frozen BK773.out 3; have hfz25_4 := blk_frozen BK773.out 4; have hfz25_5 := blk_frozen BK773.out 5; have hfz25_6 := blk_frozen BK773.out 6) | (go_at_call 70; (with_reducible refine (spec_l10Loan.calls k _ _ l0_0 a2_0 a2_1 a2_2 a2_3 a2_4 a2_5 a2_6 true _ ?side1 ?side2 A6.out).mono ?_); (case side1 => repeat (first | exact (Kd.C_below HR0_0.out HB.out) | (with_reducible refine Kd.C_alloc ?_ _) | (with_reducible refine Kd.C_drewN ?_ _) | (with_reducible refine Kd.C_drew ?_))); (case side2 => exact HC0_0.out); rintro e w26 ⟨rfl, hb⟩; have n0_ := Aside0.mk (blk_below (g := gb772) (o := .cells #[.slice A0_0 l0_0.length c0_0] 26 (0, 0)) (by (with_reducible repeat (first | refine blk_drewN ?_ _ | refine blk_drew ?_ | refine blk_alloc ?_ _)); exact BK772.out) hb); have n1_ := Aside0.mk (blk_below (g := gb773) (o := .cells #[.int .i64 a2_0, .int .i64 a2_1, .int .i64 a2_2, .int .i64 a2_3, .bool a2_4, .int .i64 a2_5, .int .i64 a2_6] 30 (0, 0)) (by (with_reducible repeat (first | refine blk_drewN ?_ _ | refine blk_drew ?_ | refine blk_alloc ?_ _)); exact BK773.out) hb); have n2_ := Aside0.mk (below_step (by repeat (first | (with_reducible first | exact HB.out | apply below_alloc | apply pw_below_drewN | apply below_drew1 | refine below_set ?_ GE772.out | refine below_set ?_ GE773.out) | exact HB.out)) hb); clear BK772; clear BK773; clear HB; have BK772 := n0_; have BK773 := n1_; have HB := n2_; clear n0_ n1_ n2_; (try clear hb); (try clear hb2); (try clear hk); (try clear hi)) | (go_at_call 96; (with_reducible refine (spec_l10Pairs.calls k _ _ l1 t776 _ ?side1 ?side2 A17.out).mono ?_); (case side1 => repeat (first | exact (Kd.C_below HR1.out HB.out) | (with_reducible refine Kd.C_alloc ?_ _) | (with_reducible refine Kd.C_drewN ?_ _) | (with_reducible refine Kd.C_drew ?_))); (case side2 => exact HC1.out); rintro e w27 ⟨v777, rfl, ho0, hb⟩; have n0_ := Aside0.mk (Kd.R_lower ho0 (below_size (by repeat (first | (with_reducible first | exact HB.out | apply below_alloc | apply pw_below_drewN | apply below_drew1 | refine below_set ?_ GE772.out | refine below_set ?_ GE773.out) | exact HB.out)))); have n1_ := Aside0.mk (blk_below (g := gb772) (o := .cells #[.slice A0_0 l0_0.length c0_0] 26 (0, 0)) (by (with_reducible repeat (first | refine blk_drewN ?_ _ | refine blk_drew ?_ | refine blk_alloc ?_ _)); exact BK772.out) hb); have n2_ := Aside0.mk (blk_below (g := gb773) (o := .cells #[.int .i64 a2_0, .int .i64 a2_1, .int .i64 a2_2, .int .i64 a2_3, .bool a2_4, .int .i64 a2_5, .int .i64 a2_6] 30 (0, 0)) (by (with_reducible repeat (first | refine blk_drewN ?_ _ | refine blk_drew ?_ | refine blk_alloc ?_ _)); exact BK773.out) hb); have n3_ := Aside0.mk (below_step (by repeat (first | (with_reducible first | exact HB.out | apply below_alloc | apply pw_below_drewN | apply below_drew1 | refine below_set ?_ GE772.out | refine below_set ?_ GE773.out) | exact HB.out)) hb); clear BK772; clear BK773; clear HB; have HO778 := n0_; have BK772 := n1_; have BK773 := n2_; have HB := n3_; clear n0_ n1_ n2_ n3_; (try clear hb); (try clear hb2); (try clear hk); (try clear hi); (try clear ho0); obtain ⟨Ao28, co28, eo28⟩ := Kd.R_slice HO778.out; subst eo28))
          go_ret2
          exact ⟨by first | rfl | (simp [errW_none, errW_some] <;> rfl) | (simp [*, errW_none, errW_some] <;> rfl), by repeat (first | (with_reducible first | exact HB.out | apply below_alloc | apply pw_below_drewN | apply below_drew1 | refine below_set ?_ GE772.out | refine below_set ?_ GE773.out) | exact HB.out)⟩
        · rw [if_neg c18] at H
          have c18b0 : decide (0 < (t776.length : Int)) = false := decide_eq_false c18
          have c18b1 : decide (0 < t776.length) = false := decide_eq_false (by omega)
          clear c18
          replace H := Option.bind_eq_some_iff.mp H
          obtain ⟨t779, A290, H⟩ := H
          replace H : (some (t779, true)) = some (r1, r2) := H
          have A29 := Aside0.mk A290
          clear A290
          simp only [Option.some.injEq, Prod.mk.injEq] at H
          obtain ⟨rfl, rfl⟩ := H
          go_enter Try.func42, Try.ntmps42
          go_wp2_with (first | ((with_reducible refine gate_dst (N := 3) rfl ?_); (try (refine gate_guard (by rfl) ?_; dsimp only)); refine box_event ?hg (N := 3) ?hd (cs := #[.slice A0_0 l0_0.length c0_0]) (t := 26) ?hr ?_; (case hd => rfl); (case hg => rfl); (case hr => first | (go_simp; done) | (go_simp; rfl)); intro gb772 hg w30 hbox hb; have n0_ := Aside0.mk (below_step (by repeat (first | (with_reducible first | exact HB.out | apply below_alloc | apply pw_below_drewN | apply below_drew1) | exact HB.out)) hb); have n1_ := Aside0.mk (hbox); have n2_ := Aside0.mk ((by rw [hg]; exact (below_size (by repeat (first | (with_reducible first | exact HB.out | apply below_alloc | apply pw_below_drewN | apply below_drew1) | exact HB.out))) : w.heap.size ≤ gb772)); have n3_ := Aside0.mk ((by rw [hg]; exact (below_size (by repeat (first | (with_reducible first | exact HB.out | apply below_alloc | apply pw_below_drewN | apply below_drew1) | exact HB.out))) : w.heap.size ≤ gb772)); clear HB; have HB := n0_; have BK772 := n1_; have GW772 := n2_; have GE772 := n3_; clear n0_ n1_ n2_ n3_; clear hb hbox hg) | ((with_reducible refine gate_dst (N := 5) rfl ?_); (try (refine gate_guard (by rfl) ?_; dsimp only)); refine box_event ?hg (N := 5) ?hd (cs := #[.int .i64 a2_0, .int .i64 a2_1, .int .i64 a2_2, .int .i64 a2_3, .bool a2_4, .int .i64 a2_5, .int .i64 a2_6]) (t := 30) ?hr ?_; (case hd => rfl); (case hg => rfl); (case hr => first | (go_simp; done) | (go_simp; rfl)); intro gb773 hg w31 hbox hb; have n0_ := Aside0.mk (blk_below (g := gb772) (o := .cells #[.slice A0_0 l0_0.length c0_0] 26 (0, 0)) (by (with_reducible repeat (first | refine blk_drewN ?_ _ | refine blk_drew ?_ | refine blk_alloc ?_ _)); exact BK772.out) hb); have n1_ := Aside0.mk (below_step (by repeat (first | (with_reducible first | exact HB.out | apply below_alloc | apply pw_below_drewN | apply below_drew1 | refine below_set ?_ GE772.out) | exact HB.out)) hb); have n2_ := Aside0.mk (hbox); have n3_ := Aside0.mk ((by rw [hg]; exact (below_size (by repeat (first | (with_reducible first | exact HB.out | apply below_alloc | apply pw_below_drewN | apply below_drew1 | refine below_set ?_ GE772.out) | exact HB.out))) : w.heap.size ≤ gb773)); have n4_ := Aside0.mk ((by rw [hg]; exact (below_size (by repeat (first | (with_reducible first | exact HB.out | apply below_alloc | apply pw_below_drewN | apply below_drew1 | refine below_set ?_ GE772.out) | exact HB.out))) : w.heap.size ≤ gb773)); have n5_ := Aside0.mk ((by rw [hg]; exact Nat.ne_of_lt (blk_lt (g := gb772) (o := .cells #[.slice A0_0 l0_0.length c0_0] 26 (0, 0)) (by (with_reducible repeat (first | refine blk_drewN ?_ _ | refine blk_drew ?_ | refine blk_alloc ?_ _)); exact BK772.out)) : gb772 ≠ gb773)); have n6_ := Aside0.mk ((by rw [hg]; exact Nat.ne_of_gt (blk_lt (g := gb772) (o := .cells #[.slice A0_0 l0_0.length c0_0] 26 (0, 0)) (by (with_reducible repeat (first | refine blk_drewN ?_ _ | refine blk_drew ?_ | refine blk_alloc ?_ _)); exact BK772.out)) : gb773 ≠ gb772)); clear BK772; clear HB; have BK772 := n0_; have HB := n1_; have BK773 := n2_; have GW773 := n3_; have GE773 := n4_; have NB772_773 := n5_; have NB773_772 := n6_; clear n0_ n1_ n2_ n3_ n4_ n5_ n6_; clear hb hbox hg; have hnb32 := NB772_773.out; have hnc32 := NB773_772.out; have hcz33_0 : w31.cell? ⟨gb772, 0, none⟩ = some (.slice A0_0 l0_0.length c0_0) := (blk_cell BK772.out 0).trans rfl; have hfz33_0 := blk_frozen BK772.out 0) | ((with_reducible refine gate_callee (f := 83) rfl ?_); refine goesL_ (some 10) rfl rfl Try.func83 (by kernel_rfl) rfl #[.agg #[.slice A0_0 l0_0.length c0_0], .slice A1 l1.length c1] rfl (by (try simp only [List.map_toArray, List.map_cons, List.map_nil]); first | done | rfl | (simp only [List.length_drop, List.length_take]; rfl)) ?_; (with_reducible refine (spec_l10Loans.calls k _ _ l0_0 _ _ l1 true _ ?side1 ?side2 ?side3 ?side4 A4.out).mono ?_); (case side1 => repeat (first | exact (Kd.C_below HR0_0.out HB.out) | (with_reducible refine Kd.C_alloc ?_ _) | (with_reducible refine Kd.C_drewN ?_ _) | (with_reducible refine Kd.C_drew ?_))); (case side2 => exact HC0_0.out); (case side3 => repeat (first | exact (Kd.C_below HR1.out HB.out) | (with_reducible refine Kd.C_alloc ?_ _) | (with_reducible refine Kd.C_drewN ?_ _) | (with_reducible refine Kd.C_drew ?_))); (case side4 => exact HC1.out); rintro e w34 ⟨rfl, hb⟩; refine ⟨_, rfl, ?_⟩; have n0_ := Aside0.mk (blk_below (g := gb772) (o := .cells #[.slice A0_0 l0_0.length c0_0] 26 (0, 0)) (by (with_reducible repeat (first | refine blk_drewN ?_ _ | refine blk_drew ?_ | refine blk_alloc ?_ _)); exact BK772.out) hb); have n1_ := Aside0.mk (blk_below (g := gb773) (o := .cells #[.int .i64 a2_0, .int .i64 a2_1, .int .i64 a2_2, .int .i64 a2_3, .bool a2_4, .int .i64 a2_5, .int .i64 a2_6] 30 (0, 0)) (by (with_reducible repeat (first | refine blk_drewN ?_ _ | refine blk_drew ?_ | refine blk_alloc ?_ _)); exact BK773.out) hb); have n2_ := Aside0.mk (below_step (by repeat (first | (with_reducible first | exact HB.out | apply below_alloc | apply pw_below_drewN | apply below_drew1 | refine below_set ?_ GE772.out | refine below_set ?_ GE773.out) | exact HB.out)) hb); clear BK772; clear BK773; clear HB; have BK772 := n0_; have BK773 := n1_; have HB := n2_; clear n0_ n1_ n2_; (try clear hb); (try clear hb2); (try clear hk); (try clear hi); have hcz35_0 : w34.cell? ⟨gb772, 0, none⟩ = some (.slice A0_0 l0_0.length c0_0) := (blk_cell BK772.out 0).trans rfl; have hfz35_0 := blk_frozen BK772.out 0; have hcz36_0 : w34.cell? ⟨gb773, 0, none⟩ = some (.int .i64 a2_0) := (blk_cell BK773.out 0).trans rfl; have hcz36_1 : w34.cell? ⟨gb773, 1, none⟩ = some (.int .i64 a2_1) := (blk_cell BK773.out 1).trans rfl; have hcz36_2 : w34.cell? ⟨gb773, 2, none⟩ = some (.int .i64 a2_2) := (blk_cell BK773.out 2).trans rfl; have hcz36_3 : w34.cell? ⟨gb773, 3, none⟩ = some (.int .i64 a2_3) := (blk_cell BK773.out 3).trans rfl; have hcz36_4 : w34.cell? ⟨gb773, 4, none⟩ = some (.bool a2_4) := (blk_cell BK773.out 4).trans rfl; have hcz36_5 : w34.cell? ⟨gb773, 5, none⟩ = some (.int .i64 a2_5) := (blk_cell BK773.out 5).trans rfl; have hcz36_6 : w34.cell? ⟨gb773, 6, none⟩ = some (.int .i64 a2_6) := (blk_cell BK773.out 6).trans rfl; have hfz36_0 := blk_frozen BK773.out 0; have hfz36_1 := blk_frozen BK773.out 1; have hfz36_2 := blk_frozen BK773.out 2; have hfz36_3 := blk_frozen BK773.out 3; have hfz36_4 := blk_frozen BK773.out 4; have hfz36_5 := blk_frozen BK773.out 5; have hfz36_6 := blk_frozen BK773.out 6) | (go_at_call 70; (with_reducible refine (spec_l10Loan.calls k _ _ l0_0 a2_0 a2_1 a2_2 a2_3 a2_4 a2_5 a2_6 true _ ?side1 ?side2 A6.out).mono ?_); (case side1 => repeat (first | exact (Kd.C_below HR0_0.out HB.out) | (with_reducible refine Kd.C_alloc ?_ _) | (with_reducible refine Kd.C_drewN ?_ _) | (with_reducible refine Kd.C_drew ?_))); (case side2 => exact HC0_0.out); rintro e w37 ⟨rfl, hb⟩; have n0_ := Aside0.mk (blk_below (g := gb772) (o := .cells #[.slice A0_0 l0_0.length c0_0] 26 (0, 0)) (by (with_reducible repeat (first | refine blk_drewN ?_ _ | refine blk_drew ?_ | refine blk_alloc ?_ _)); exact BK772.out) hb); have n1_ := Aside0.mk (blk_below (g := gb773) (o := .cells #[.int .i64 a2_0, .int .i64 a2_1, .int .i64 a2_2, .int .i64 a2_3, .bool a2_4, .int .i64 a2_5, .int .i64 a2_6] 30 (0, 0)) (by (with_reducible repeat (first | refine blk_drewN ?_ _ | refine blk_drew ?_ | refine blk_alloc ?_ _)); exact BK773.out) hb); have n2_ := Aside0.mk (below_step (by repeat (first | (with_reducible first | exact HB.out | apply below_alloc | apply pw_below_drewN | apply below_drew1 | refine below_set ?_ GE772.out | refine below_set ?_ GE773.out) | exact HB.out)) hb); clear BK772; clear BK773; clear HB; have BK772 := n0_; have BK773 := n1_; have HB := n2_; clear n0_ n1_ n2_; (try clear hb); (try clear hb2); (try clear hk); (try clear hi)) | (go_at_call 96; (with_reducible refine (spec_l10Pairs.calls k _ _ l1 t776 _ ?side1 ?side2 A17.out).mono ?_); (case side1 => repeat (first | exact (Kd.C_below HR1.out HB.out) | (with_reducible refine Kd.C_alloc ?_ _) | (with_reducible refine Kd.C_drewN ?_ _) | (with_reducible refine Kd.C_drew ?_))); (case side2 => exact HC1.out); rintro e w38 ⟨v777, rfl, ho0, hb⟩; have n0_ := Aside0.mk (Kd.R_lower ho0 (below_size (by repeat (first | (with_reducible first | exact HB.out | apply below_alloc | apply pw_below_drewN | apply below_drew1 | refine below_set ?_ GE772.out | refine below_set ?_ GE773.out) | exact HB.out)))); have n1_ := Aside0.mk (blk_below (g := gb772) (o := .cells #[.slice A0_0 l0_0.length c0_0] 26 (0, 0)) (by (with_reducible repeat (first | refine blk_drewN ?_ _ | refine blk_drew ?_ | refine blk_alloc ?_ _)); exact BK772.out) hb); have n2_ := Aside0.mk (blk_below (g := gb773) (o := .cells #[.int .i64 a2_0, .int .i64 a2_1, .int .i64 a2_2, .int .i64 a2_3, .bool a2_4, .int .i64 a2_5, .int .i64 a2_6] 30 (0, 0)) (by (with_reducible repeat (first | refine blk_drewN ?_ _ | refine blk_drew ?_ | refine blk_alloc ?_ _)); exact BK773.out) hb); have n3_ := Aside0.mk (below_step (by repeat (first | (with_reducible first | exact HB.out | apply below_alloc | apply pw_below_drewN | apply below_drew1 | refine below_set ?_ GE772.out | refine below_set ?_ GE773.out) | exact HB.out)) hb); clear BK772; clear BK773; clear HB; have HO778 := n0_; have BK772 := n1_; have BK773 := n2_; have HB := n3_; clear n0_ n1_ n2_ n3_; (try clear hb); (try clear hb2); (try clear hk); (try clear hi); (try clear ho0); obtain ⟨Ao39, co39, eo39⟩ := Kd.R_slice HO778.out; subst eo39; have hcz40_0 : w38.cell? ⟨gb773, 0, none⟩ = some (.int .i64 a2_0) := (blk_cell BK773.out 0).trans rfl; have hcz40_1 : w38.cell? ⟨gb773, 1, none⟩ = some (.int .i64 a2_1) := (blk_cell BK773.out 1).trans rfl; have hcz40_2 : w38.cell? ⟨gb773, 2, none⟩ = some (.int .i64 a2_2) := (blk_cell BK773.out 2).trans rfl; have hcz40_3 : w38.cell? ⟨gb773, 3, none⟩ = some (.int .i64 a2_3) := (blk_cell BK773.out 3).trans rfl; have hcz40_4 : w38.cell? ⟨gb773, 4, none⟩ = some (.bool a2_4) := (blk_cell BK773.out 4).trans rfl; have hcz40_5 : w38.cell? ⟨gb773, 5, none⟩ = some (.int .i64 a2_5) := (blk_cell BK773.out 5).trans rfl; have hcz40_6 : w38.cell? ⟨gb773, 6, none⟩ = some (.int .i64 a2_6) := (blk_cell BK773.out 6).trans rfl; have hfz40_0 := blk_frozen BK773.out 0; have hfz40_1 := blk_frozen BK773.out 1; have hfz40_2 := blk_frozen BK773.out 2; have hfz40_3 := blk_frozen BK773.out 3; have hfz40_4 := blk_frozen BK773.out 4; have hfz40_5 := blk_frozen BK773.out 5; have hfz40_6 := blk_frozen BK773.out 6) | ((with_reducible refine gate_callee (f := 84) rfl ?_); refine goesL_ (some 31) rfl rfl Try.func84 (by kernel_rfl) rfl #[.slice A1 l1.length c1, .agg #[.int .i64 a2_0, .int .i64 a2_1, .int .i64 a2_2, .int .i64 a2_3, .bool a2_4, .int .i64 a2_5, .int .i64 a2_6]] rfl (by (try simp only [List.map_toArray, List.map_cons, List.map_nil]); first | done | rfl | (simp only [List.length_drop, List.length_take]; rfl)) ?_; (with_reducible refine (spec_l10Alone.calls k _ _ l1 a2_0 a2_1 a2_2 a2_3 a2_4 a2_5 a2_6 t779 _ ?side1 ?side2 A29.out).mono ?_); (case side1 => repeat (first | exact (Kd.C_below HR1.out HB.out) | (with_reducible refine Kd.C_alloc ?_ _) | (with_reducible refine Kd.C_drewN ?_ _) | (with_reducible refine Kd.C_drew ?_))); (case side2 => exact HC1.out); rintro e w41 ⟨rfl, hb⟩; refine ⟨_, rfl, ?_⟩; have n0_ := Aside0.mk (Kd.R_below (by (with_reducible repeat (first | apply Kd.R_alloc | apply Kd.R_drewN | apply Kd.R_drew)); exact HO778.out) hb); have n1_ := Aside0.mk (blk_below (g := gb772) (o := .cells #[.slice A0_0 l0_0.length c0_0] 26 (0, 0)) (by (with_reducible repeat (first | refine blk_drewN ?_ _ | refine blk_drew ?_ | refine blk_alloc ?_ _)); exact BK772.out) hb); have n2_ := Aside0.mk (blk_below (g := gb773) (o := .cells #[.int .i64 a2_0, .int .i64 a2_1, .int .i64 a2_2, .int .i64 a2_3, .bool a2_4, .int .i64 a2_5, .int .i64 a2_6] 30 (0, 0)) (by (with_reducible repeat (first | refine blk_drewN ?_ _ | refine blk_drew ?_ | refine blk_alloc ?_ _)); exact BK773.out) hb); have n3_ := Aside0.mk (below_step (by repeat (first | (with_reducible first | exact HB.out | apply below_alloc | apply pw_below_drewN | apply below_drew1 | refine below_set ?_ GE772.out | refine below_set ?_ GE773.out) | exact HB.out)) hb); clear HO778; clear BK772; clear BK773; clear HB; have HO778 := n0_; have BK772 := n1_; have BK773 := n2_; have HB := n3_; clear n0_ n1_ n2_ n3_; (try clear hb); (try clear hb2); (try clear hk); (try clear hi)))
          go_ret2
          exact ⟨by first | rfl | (simp [errW_none, errW_some] <;> rfl) | (simp [*, errW_none, errW_some] <;> rfl), by repeat (first | (with_reducible first | exact HB.out | apply below_alloc | apply pw_below_drewN | apply below_drew1 | refine below_set ?_ GE772.out | refine below_set ?_ GE773.out) | exact HB.out)⟩
    · replace c7 := Bool.eq_false_iff.mpr c7
      subst c7
      have H1 : (some (false, false)) = some (r1, r2) := by rw [if_neg (show ¬ (false = true) by decide)] at H; exact H
      clear H
      have H := H1
      clear H1
      simp only [Option.some.injEq, Prod.mk.injEq] at H
      obtain ⟨rfl, rfl⟩ := H
      go_enter Try.func42, Try.ntmps42
      go_wp2_with (first | ((with_reducible refine gate_dst (N := 3) rfl ?_); (try (refine gate_guard (by rfl) ?_; dsimp only)); refine box_event ?hg (N := 3) ?hd (cs := #[.slice A0_0 l0_0.length c0_0]) (t := 26) ?hr ?_; (case hd => rfl); (case hg => rfl); (case hr => first | (go_simp; done) | (go_simp; rfl)); intro gb772 hg w42 hbox hb; have n0_ := Aside0.mk (below_step (by repeat (first | (with_reducible first | exact HB.out | apply below_alloc | apply pw_below_drewN | apply below_drew1) | exact HB.out)) hb); have n1_ := Aside0.mk (hbox); have n2_ := Aside0.mk ((by rw [hg]; exact (below_size (by repeat (first | (with_reducible first | exact HB.out | apply below_alloc | apply pw_below_drewN | apply below_drew1) | exact HB.out))) : w.heap.size ≤ gb772)); have n3_ := Aside0.mk ((by rw [hg]; exact (below_size (by repeat (first | (with_reducible first | exact HB.out | apply below_alloc | apply pw_below_drewN | apply below_drew1) | exact HB.out))) : w.heap.size ≤ gb772)); clear HB; have HB := n0_; have BK772 := n1_; have GW772 := n2_; have GE772 := n3_; clear n0_ n1_ n2_ n3_; clear hb hbox hg) | ((with_reducible refine gate_dst (N := 5) rfl ?_); (try (refine gate_guard (by rfl) ?_; dsimp only)); refine box_event ?hg (N := 5) ?hd (cs := #[.int .i64 a2_0, .int .i64 a2_1, .int .i64 a2_2, .int .i64 a2_3, .bool a2_4, .int .i64 a2_5, .int .i64 a2_6]) (t := 30) ?hr ?_; (case hd => rfl); (case hg => rfl); (case hr => first | (go_simp; done) | (go_simp; rfl)); intro gb773 hg w43 hbox hb; have n0_ := Aside0.mk (blk_below (g := gb772) (o := .cells #[.slice A0_0 l0_0.length c0_0] 26 (0, 0)) (by (with_reducible repeat (first | refine blk_drewN ?_ _ | refine blk_drew ?_ | refine blk_alloc ?_ _)); exact BK772.out) hb); have n1_ := Aside0.mk (below_step (by repeat (first | (with_reducible first | exact HB.out | apply below_alloc | apply pw_below_drewN | apply below_drew1 | refine below_set ?_ GE772.out) | exact HB.out)) hb); have n2_ := Aside0.mk (hbox); have n3_ := Aside0.mk ((by rw [hg]; exact (below_size (by repeat (first | (with_reducible first | exact HB.out | apply below_alloc | apply pw_below_drewN | apply below_drew1 | refine below_set ?_ GE772.out) | exact HB.out))) : w.heap.size ≤ gb773)); have n4_ := Aside0.mk ((by rw [hg]; exact (below_size (by repeat (first | (with_reducible first | exact HB.out | apply below_alloc | apply pw_below_drewN | apply below_drew1 | refine below_set ?_ GE772.out) | exact HB.out))) : w.heap.size ≤ gb773)); have n5_ := Aside0.mk ((by rw [hg]; exact Nat.ne_of_lt (blk_lt (g := gb772) (o := .cells #[.slice A0_0 l0_0.length c0_0] 26 (0, 0)) (by (with_reducible repeat (first | refine blk_drewN ?_ _ | refine blk_drew ?_ | refine blk_alloc ?_ _)); exact BK772.out)) : gb772 ≠ gb773)); have n6_ := Aside0.mk ((by rw [hg]; exact Nat.ne_of_gt (blk_lt (g := gb772) (o := .cells #[.slice A0_0 l0_0.length c0_0] 26 (0, 0)) (by (with_reducible repeat (first | refine blk_drewN ?_ _ | refine blk_drew ?_ | refine blk_alloc ?_ _)); exact BK772.out)) : gb773 ≠ gb772)); clear BK772; clear HB; have BK772 := n0_; have HB := n1_; have BK773 := n2_; have GW773 := n3_; have GE773 := n4_; have NB772_773 := n5_; have NB773_772 := n6_; clear n0_ n1_ n2_ n3_ n4_ n5_ n6_; clear hb hbox hg; have hnb44 := NB772_773.out; have hnc44 := NB773_772.out; have hcz45_0 : w43.cell? ⟨gb772, 0, none⟩ = some (.slice A0_0 l0_0.length c0_0) := (blk_cell BK772.out 0).trans rfl; have hfz45_0 := blk_frozen BK772.out 0) | ((with_reducible refine gate_callee (f := 83) rfl ?_); refine goesL_ (some 10) rfl rfl Try.func83 (by kernel_rfl) rfl #[.agg #[.slice A0_0 l0_0.length c0_0], .slice A1 l1.length c1] rfl (by (try simp only [List.map_toArray, List.map_cons, List.map_nil]); first | done | rfl | (simp only [List.length_drop, List.length_take]; rfl)) ?_; (with_reducible refine (spec_l10Loans.calls k _ _ l0_0 _ _ l1 true _ ?side1 ?side2 ?side3 ?side4 A4.out).mono ?_); (case side1 => repeat (first | exact (Kd.C_below HR0_0.out HB.out) | (with_reducible refine Kd.C_alloc ?_ _) | (with_reducible refine Kd.C_drewN ?_ _) | (with_reducible refine Kd.C_drew ?_))); (case side2 => exact HC0_0.out); (case side3 => repeat (first | exact (Kd.C_below HR1.out HB.out) | (with_reducible refine Kd.C_alloc ?_ _) | (with_reducible refine Kd.C_drewN ?_ _) | (with_reducible refine Kd.C_drew ?_))); (case side4 => exact HC1.out); rintro e w46 ⟨rfl, hb⟩; refine ⟨_, rfl, ?_⟩; have n0_ := Aside0.mk (blk_below (g := gb772) (o := .cells #[.slice A0_0 l0_0.length c0_0] 26 (0, 0)) (by (with_reducible repeat (first | refine blk_drewN ?_ _ | refine blk_drew ?_ | refine blk_alloc ?_ _)); exact BK772.out) hb); have n1_ := Aside0.mk (blk_below (g := gb773) (o := .cells #[.int .i64 a2_0, .int .i64 a2_1, .int .i64 a2_2, .int .i64 a2_3, .bool a2_4, .int .i64 a2_5, .int .i64 a2_6] 30 (0, 0)) (by (with_reducible repeat (first | refine blk_drewN ?_ _ | refine blk_drew ?_ | refine blk_alloc ?_ _)); exact BK773.out) hb); have n2_ := Aside0.mk (below_step (by repeat (first | (with_reducible first | exact HB.out | apply below_alloc | apply pw_below_drewN | apply below_drew1 | refine below_set ?_ GE772.out | refine below_set ?_ GE773.out) | exact HB.out)) hb); clear BK772; clear BK773; clear HB; have BK772 := n0_; have BK773 := n1_; have HB := n2_; clear n0_ n1_ n2_; (try clear hb); (try clear hb2); (try clear hk); (try clear hi); have hcz47_0 : w46.cell? ⟨gb772, 0, none⟩ = some (.slice A0_0 l0_0.length c0_0) := (blk_cell BK772.out 0).trans rfl; have hfz47_0 := blk_frozen BK772.out 0; have hcz48_0 : w46.cell? ⟨gb773, 0, none⟩ = some (.int .i64 a2_0) := (blk_cell BK773.out 0).trans rfl; have hcz48_1 : w46.cell? ⟨gb773, 1, none⟩ = some (.int .i64 a2_1) := (blk_cell BK773.out 1).trans rfl; have hcz48_2 : w46.cell? ⟨gb773, 2, none⟩ = some (.int .i64 a2_2) := (blk_cell BK773.out 2).trans rfl; have hcz48_3 : w46.cell? ⟨gb773, 3, none⟩ = some (.int .i64 a2_3) := (blk_cell BK773.out 3).trans rfl; have hcz48_4 : w46.cell? ⟨gb773, 4, none⟩ = some (.bool a2_4) := (blk_cell BK773.out 4).trans rfl; have hcz48_5 : w46.cell? ⟨gb773, 5, none⟩ = some (.int .i64 a2_5) := (blk_cell BK773.out 5).trans rfl; have hcz48_6 : w46.cell? ⟨gb773, 6, none⟩ = some (.int .i64 a2_6) := (blk_cell BK773.out 6).trans rfl; have hfz48_0 := blk_frozen BK773.out 0; have hfz48_1 := blk_frozen BK773.out 1; have hfz48_2 := blk_frozen BK773.out 2; have hfz48_3 := blk_frozen BK773.out 3; have hfz48_4 := blk_frozen BK773.out 4; have hfz48_5 := blk_frozen BK773.out 5; have hfz48_6 := blk_frozen BK773.out 6) | (go_at_call 70; (with_reducible refine (spec_l10Loan.calls k _ _ l0_0 a2_0 a2_1 a2_2 a2_3 a2_4 a2_5 a2_6 false _ ?side1 ?side2 A6.out).mono ?_); (case side1 => repeat (first | exact (Kd.C_below HR0_0.out HB.out) | (with_reducible refine Kd.C_alloc ?_ _) | (with_reducible refine Kd.C_drewN ?_ _) | (with_reducible refine Kd.C_drew ?_))); (case side2 => exact HC0_0.out); rintro e w49 ⟨rfl, hb⟩; have n0_ := Aside0.mk (blk_below (g := gb772) (o := .cells #[.slice A0_0 l0_0.length c0_0] 26 (0, 0)) (by (with_reducible repeat (first | refine blk_drewN ?_ _ | refine blk_drew ?_ | refine blk_alloc ?_ _)); exact BK772.out) hb); have n1_ := Aside0.mk (blk_below (g := gb773) (o := .cells #[.int .i64 a2_0, .int .i64 a2_1, .int .i64 a2_2, .int .i64 a2_3, .bool a2_4, .int .i64 a2_5, .int .i64 a2_6] 30 (0, 0)) (by (with_reducible repeat (first | refine blk_drewN ?_ _ | refine blk_drew ?_ | refine blk_alloc ?_ _)); exact BK773.out) hb); have n2_ := Aside0.mk (below_step (by repeat (first | (with_reducible first | exact HB.out | apply below_alloc | apply pw_below_drewN | apply below_drew1 | refine below_set ?_ GE772.out | refine below_set ?_ GE773.out) | exact HB.out)) hb); clear BK772; clear BK773; clear HB; have BK772 := n0_; have BK773 := n1_; have HB := n2_; clear n0_ n1_ n2_; (try clear hb); (try clear hb2); (try clear hk); (try clear hi)))
      go_ret2
      exact ⟨by first | rfl | (simp [errW_none, errW_some] <;> rfl) | (simp [*, errW_none, errW_some] <;> rfl), by repeat (first | (with_reducible first | exact HB.out | apply below_alloc | apply pw_below_drewN | apply below_drew1 | refine below_set ?_ GE772.out | refine below_set ?_ GE773.out) | exact HB.out)⟩
  · replace c5 := Bool.eq_false_iff.mpr c5
    subst c5
    have H1 : (some (false, false)) = some (r1, r2) := by rw [if_neg (show ¬ (false = true) by decide)] at H; exact H
    clear H
    have H := H1
    clear H1
    simp only [Option.some.injEq, Prod.mk.injEq] at H
    obtain ⟨rfl, rfl⟩ := H
    go_enter Try.func42, Try.ntmps42
    go_wp2_with (first | ((with_reducible refine gate_dst (N := 3) rfl ?_); (try (refine gate_guard (by rfl) ?_; dsimp only)); refine box_event ?hg (N := 3) ?hd (cs := #[.slice A0_0 l0_0.length c0_0]) (t := 26) ?hr ?_; (case hd => rfl); (case hg => rfl); (case hr => first | (go_simp; done) | (go_simp; rfl)); intro gb772 hg w50 hbox hb; have n0_ := Aside0.mk (below_step (by repeat (first | (with_reducible first | exact HB.out | apply below_alloc | apply pw_below_drewN | apply below_drew1) | exact HB.out)) hb); have n1_ := Aside0.mk (hbox); have n2_ := Aside0.mk ((by rw [hg]; exact (below_size (by repeat (first | (with_reducible first | exact HB.out | apply below_alloc | apply pw_below_drewN | apply below_drew1) | exact HB.out))) : w.heap.size ≤ gb772)); have n3_ := Aside0.mk ((by rw [hg]; exact (below_size (by repeat (first | (with_reducible first | exact HB.out | apply below_alloc | apply pw_below_drewN | apply below_drew1) | exact HB.out))) : w.heap.size ≤ gb772)); clear HB; have HB := n0_; have BK772 := n1_; have GW772 := n2_; have GE772 := n3_; clear n0_ n1_ n2_ n3_; clear hb hbox hg) | ((with_reducible refine gate_dst (N := 5) rfl ?_); (try (refine gate_guard (by rfl) ?_; dsimp only)); refine box_event ?hg (N := 5) ?hd (cs := #[.int .i64 a2_0, .int .i64 a2_1, .int .i64 a2_2, .int .i64 a2_3, .bool a2_4, .int .i64 a2_5, .int .i64 a2_6]) (t := 30) ?hr ?_; (case hd => rfl); (case hg => rfl); (case hr => first | (go_simp; done) | (go_simp; rfl)); intro gb773 hg w51 hbox hb; have n0_ := Aside0.mk (blk_below (g := gb772) (o := .cells #[.slice A0_0 l0_0.length c0_0] 26 (0, 0)) (by (with_reducible repeat (first | refine blk_drewN ?_ _ | refine blk_drew ?_ | refine blk_alloc ?_ _)); exact BK772.out) hb); have n1_ := Aside0.mk (below_step (by repeat (first | (with_reducible first | exact HB.out | apply below_alloc | apply pw_below_drewN | apply below_drew1 | refine below_set ?_ GE772.out) | exact HB.out)) hb); have n2_ := Aside0.mk (hbox); have n3_ := Aside0.mk ((by rw [hg]; exact (below_size (by repeat (first | (with_reducible first | exact HB.out | apply below_alloc | apply pw_below_drewN | apply below_drew1 | refine below_set ?_ GE772.out) | exact HB.out))) : w.heap.size ≤ gb773)); have n4_ := Aside0.mk ((by rw [hg]; exact (below_size (by repeat (first | (with_reducible first | exact HB.out | apply below_alloc | apply pw_below_drewN | apply below_drew1 | refine below_set ?_ GE772.out) | exact HB.out))) : w.heap.size ≤ gb773)); have n5_ := Aside0.mk ((by rw [hg]; exact Nat.ne_of_lt (blk_lt (g := gb772) (o := .cells #[.slice A0_0 l0_0.length c0_0] 26 (0, 0)) (by (with_reducible repeat (first | refine blk_drewN ?_ _ | refine blk_drew ?_ | refine blk_alloc ?_ _)); exact BK772.out)) : gb772 ≠ gb773)); have n6_ := Aside0.mk ((by rw [hg]; exact Nat.ne_of_gt (blk_lt (g := gb772) (o := .cells #[.slice A0_0 l0_0.length c0_0] 26 (0, 0)) (by (with_reducible repeat (first | refine blk_drewN ?_ _ | refine blk_drew ?_ | refine blk_alloc ?_ _)); exact BK772.out)) : gb773 ≠ gb772)); clear BK772; clear HB; have BK772 := n0_; have HB := n1_; have BK773 := n2_; have GW773 := n3_; have GE773 := n4_; have NB772_773 := n5_; have NB773_772 := n6_; clear n0_ n1_ n2_ n3_ n4_ n5_ n6_; clear hb hbox hg; have hnb52 := NB772_773.out; have hnc52 := NB773_772.out; have hcz53_0 : w51.cell? ⟨gb772, 0, none⟩ = some (.slice A0_0 l0_0.length c0_0) := (blk_cell BK772.out 0).trans rfl; have hfz53_0 := blk_frozen BK772.out 0) | ((with_reducible refine gate_callee (f := 83) rfl ?_); refine goesL_ (some 10) rfl rfl Try.func83 (by kernel_rfl) rfl #[.agg #[.slice A0_0 l0_0.length c0_0], .slice A1 l1.length c1] rfl (by (try simp only [List.map_toArray, List.map_cons, List.map_nil]); first | done | rfl | (simp only [List.length_drop, List.length_take]; rfl)) ?_; (with_reducible refine (spec_l10Loans.calls k _ _ l0_0 _ _ l1 false _ ?side1 ?side2 ?side3 ?side4 A4.out).mono ?_); (case side1 => repeat (first | exact (Kd.C_below HR0_0.out HB.out) | (with_reducible refine Kd.C_alloc ?_ _) | (with_reducible refine Kd.C_drewN ?_ _) | (with_reducible refine Kd.C_drew ?_))); (case side2 => exact HC0_0.out); (case side3 => repeat (first | exact (Kd.C_below HR1.out HB.out) | (with_reducible refine Kd.C_alloc ?_ _) | (with_reducible refine Kd.C_drewN ?_ _) | (with_reducible refine Kd.C_drew ?_))); (case side4 => exact HC1.out); rintro e w54 ⟨rfl, hb⟩; refine ⟨_, rfl, ?_⟩; have n0_ := Aside0.mk (blk_below (g := gb772) (o := .cells #[.slice A0_0 l0_0.length c0_0] 26 (0, 0)) (by (with_reducible repeat (first | refine blk_drewN ?_ _ | refine blk_drew ?_ | refine blk_alloc ?_ _)); exact BK772.out) hb); have n1_ := Aside0.mk (blk_below (g := gb773) (o := .cells #[.int .i64 a2_0, .int .i64 a2_1, .int .i64 a2_2, .int .i64 a2_3, .bool a2_4, .int .i64 a2_5, .int .i64 a2_6] 30 (0, 0)) (by (with_reducible repeat (first | refine blk_drewN ?_ _ | refine blk_drew ?_ | refine blk_alloc ?_ _)); exact BK773.out) hb); have n2_ := Aside0.mk (below_step (by repeat (first | (with_reducible first | exact HB.out | apply below_alloc | apply pw_below_drewN | apply below_drew1 | refine below_set ?_ GE772.out | refine below_set ?_ GE773.out) | exact HB.out)) hb); clear BK772; clear BK773; clear HB; have BK772 := n0_; have BK773 := n1_; have HB := n2_; clear n0_ n1_ n2_; (try clear hb); (try clear hb2); (try clear hk); (try clear hi)))
    go_ret2
    exact ⟨by first | rfl | (simp [errW_none, errW_some] <;> rfl) | (simp [*, errW_none, errW_some] <;> rfl), by repeat (first | (with_reducible first | exact HB.out | apply below_alloc | apply pw_below_drewN | apply below_drew1 | refine below_set ?_ GE772.out | refine below_set ?_ GE773.out) | exact HB.out)⟩

end Go.Proofs.Ytpbboooeahmgpaa.P


/- The contract of slices.Clone at []Loan: the same elements in new memory. -/
namespace Go.Proofs.Ytpbboooeahmgpaa.P
open Go.RowKit Go.Proofs.YtpbboooeahmgpaaW.PrintWords Go.Proofs.YtpbboooeahmgpaaW.PrintLast Go.Proofs.YtpbboooeahmgpaaW.PrintMore
set_option linter.unusedVariables false
set_option linter.unusedSimpArgs false
def slices_Clone_impl_Loan_impl_Loan.f (l0 : List SimplLoan) : Option (List SimplLoan) := if l0.length < 2513169434916 then some l0 else none
theorem infoCLoan : (Try.prog.info? 30).map (fun i => (i.zero, i.size, i.bytes)) = some (some (.agg #[(.int .i64 0), (.int .i64 0), (.int .i64 0), (.int .i64 0), (.bool false), (.int .i64 0), (.int .i64 0)]), 7, 56) := by kernel_rfl
set_option maxHeartbeats 1000000 in
set_option maxRecDepth 100000 in
theorem slices_Clone_impl_Loan_impl_Loan.calls (A0 : Option Addr) (c0 : Nat) (l0 : List SimplLoan) (r : List SimplLoan) (w : World) (hr0 : Kd.C kimplLoan w A0 l0.length l0) (hc0 : l0.length ≤ c0) (h : slices_Clone_impl_Loan_impl_Loan.f l0 = some r) :
    Calls Try.prog 97 #[.slice A0 l0.length c0] w fun e w' => ∃ v0_ : Value, e = .returned (v0_) ∧ Kd.R kimplLoan 30 w' w.heap.size (fun _ => True) v0_ r ∧ Below w.heap.size w w' := by
  have HR0 := Aside0.mk hr0
  have HC0 := Aside0.mk hc0
  clear hr0 hc0
  unfold slices_Clone_impl_Loan_impl_Loan.f at h
  split at h
  next hlim =>
    obtain rfl := Option.some.inj h
    have HL := Aside0.mk hlim
    clear hlim h
    rcases A0 with _ | ad
    · have hnil : l0 = [] := by
        rcases Nat.eq_zero_or_pos l0.length with h0 | h0
        · exact List.eq_nil_of_length_eq_zero h0
        · obtain ⟨_, h1, _⟩ := HR0.out.2.2 h0
          cases h1
      subst hnil
      have hq2 := fun w => Lib.run_eql_slice_nil (P := Try.prog) w 43 30 none 0 c0 0 0 Try.underlying43
      go_enter Try.func97, Try.ntmps97
      go_wp2
      go_ret
      exact ⟨_, rfl, Kd.R_nil _ _ _ _ _, Below.refl _ _⟩
    · have hq := fun w => Lib.run_eql_slice_nil (P := Try.prog) w 43 30 (some ad) l0.length c0 0 0 Try.underlying43
      go_enter Try.func97, Try.ntmps97
      go_wp2_with (first | ((with_reducible refine gate_dst (N := 5) rfl ?_); refine Kd.R_lit kimplLoan (w0 := w) w.heap.size 30 (by rfl) (N := 5) rfl (xs := []) (inner := []) (ok := fun _ => True) (okp := fun _ => False) ?r1 ?r2 (fun _ _ => trivial) trivial (Below.refl _ _) (Nat.le_refl _) (by decide) ?_; (case r1 => go_simp; try rfl); (case r2 => exact ⟨rfl, fun j p hj => by cases hj⟩); intro v1 w1 ho hb hg hat; have HO := Aside0.mk ho; have HB := Aside0.mk hb; clear ho hb hg hat) | ((with_reducible refine gate_dst (N := 7) rfl ?_); refine Kd.R_append_rows kimplLoan (Rr := kimplLoan.K w) (w0 := w) w.heap.size (by rfl) (.tmp 5) (.tmp 6) 43 30 (.agg #[(.int .i64 0), (.int .i64 0), (.int .i64 0), (.int .i64 0), (.bool false), (.int .i64 0), (.int .i64 0)]) 56 (by rfl) Try.underlying43 infoCLoan rfl (by decide) (by decide) _ [] l0 (some ad) l0.length c0 (fun _ => True) (fun _ => False) (by rfl) (by rfl) ?c1 ?c2 ?c3 ?c4 ?c5 ?c6 ?c7 ?c8 ?_; (case c1 => exact HO.out); (case c2 => exact Kd.C_below HR0.out HB.out); (case c3 => exact (fun _ _ h => h)); (case c4 => exact fun _ h => h.elim); (case c5 => exact fun _ _ => trivial); (case c6 => exact HB.out); (case c7 => exact HB.out.size); (case c8 => have := HL.out; simp only [List.length_nil]; omega); intro v2 w2 ho hb hg hat; clear HB; have HB := Aside0.mk hb; have HO2 := Aside0.mk ho; clear ho hb hg hat))
      go_ret
      exact ⟨_, rfl, HO2.out, HB.out⟩
  next => cases h
end Go.Proofs.Ytpbboooeahmgpaa.P


