/- Part 4 of the proof of the law FnExactCanLend: contracts of the functions that it reaches. -/
import Derived.Test.YtpbboooeahmgpaaQFnExactCanLend3
namespace Go.Proofs.Ytpbboooeahmgpaa.P
open Go.RowKit Go.Proofs.YtpbboooeahmgpaaW.PrintWords Go.Proofs.YtpbboooeahmgpaaW.PrintLast Go.Proofs.YtpbboooeahmgpaaW.PrintMore
attribute [local go_sem] max2_int min2_int max_two min_two max_three min_three max_four min_four   -- for this text's walks alone
set_option linter.unusedVariables false
set_option linter.unusedSimpArgs false

/-! ### spec_l10Loan: function 70 -/
def spec_l10Loan.f (k : Nat) (l0_0 : List (List Int)) (a1_0 : Int) (a1_1 : Int) (a1_2 : Int) (a1_3 : Int) (a1_4 : Bool) (a1_5 : Int) (a1_6 : Int) : Option (Bool) := (spec_l2Window.f k l0_0 a1_0 a1_1 a1_2 a1_3).bind fun t360 => (if t360 = true then ((spec_l1In.f a1_6 0 60).bind fun t361 => (if t361 = true then ((spec_l1In.f a1_5 0 a1_6).bind fun t362 => (some t362)) else (some false))) else (some false))
set_option maxHeartbeats 8000000 in
set_option maxRecDepth 100000 in
theorem spec_l10Loan.calls (k : Nat) (A0_0 : Option Addr) (c0_0 : Nat) (l0_0 : List (List Int)) (a1_0 : Int) (a1_1 : Int) (a1_2 : Int) (a1_3 : Int) (a1_4 : Bool) (a1_5 : Int) (a1_6 : Int) (r : Bool) (w : World) (hr0_0 : Kd.C (Kd.slice 5 (Kd.int .u8)) w A0_0 l0_0.length l0_0) (hc0_0 : l0_0.length ≤ c0_0) (h : spec_l10Loan.f k l0_0 a1_0 a1_1 a1_2 a1_3 a1_4 a1_5 a1_6 = some r) :
    Calls Try.prog 70 #[.agg #[.slice A0_0 l0_0.length c0_0], .agg #[.int .i64 a1_0, .int .i64 a1_1, .int .i64 a1_2, .int .i64 a1_3, .bool a1_4, .int .i64 a1_5, .int .i64 a1_6]] w fun e w' => e = .returned (.bool r) ∧ Below w.heap.size w w' := by
  have hu26 := Try.underlying26
  have hu30 := Try.underlying30
  have hu28 := Try.underlying28
  have HR0_0 := Aside0.mk hr0_0
  have HC0_0 := Aside0.mk hc0_0
  clear hr0_0 hc0_0
  have HB := Aside0.mk (Below.refl w.heap.size w)
  have H : ((spec_l2Window.f k l0_0 a1_0 a1_1 a1_2 a1_3).bind fun t360 => (if t360 = true then ((spec_l1In.f a1_6 0 60).bind fun t361 => (if t361 = true then ((spec_l1In.f a1_5 0 a1_6).bind fun t362 => (some t362)) else (some false))) else (some false))) = some r := h
  clear h
  replace H := Option.bind_eq_some_iff.mp H
  obtain ⟨t360, A30, H⟩ := H
  replace H : (if t360 = true then ((spec_l1In.f a1_6 0 60).bind fun t361 => (if t361 = true then ((spec_l1In.f a1_5 0 a1_6).bind fun t362 => (some t362)) else (some false))) else (some false)) = some r := H
  have A3 := Aside0.mk A30
  clear A30
  by_cases c4 : t360 = true
  · subst c4
    have H1 : ((spec_l1In.f a1_6 0 60).bind fun t361 => (if t361 = true then ((spec_l1In.f a1_5 0 a1_6).bind fun t362 => (some t362)) else (some false))) = some r := by rw [if_pos rfl] at H; exact H
    clear H
    have H := H1
    clear H1
    replace H := Option.bind_eq_some_iff.mp H
    obtain ⟨t361, A50, H⟩ := H
    replace H : (if t361 = true then ((spec_l1In.f a1_5 0 a1_6).bind fun t362 => (some t362)) else (some false)) = some r := H
    have A5 := Aside0.mk A50
    clear A50
    by_cases c6 : t361 = true
    · subst c6
      have H1 : ((spec_l1In.f a1_5 0 a1_6).bind fun t362 => (some t362)) = some r := by rw [if_pos rfl] at H; exact H
      clear H
      have H := H1
      clear H1
      replace H := Option.bind_eq_some_iff.mp H
      obtain ⟨t362, A70, H⟩ := H
      replace H : (some t362) = some r := H
      have A7 := Aside0.mk A70
      clear A70
      obtain rfl := Option.some.inj H
      go_enter Try.func70, Try.ntmps70
      go_wp2_with (first | ((with_reducible refine gate_dst (N := 2) rfl ?_); refine box_event ?hg (N := 2) ?hd (cs := #[.slice A0_0 l0_0.length c0_0]) (t := 26) ?hr ?_; (case hd => rfl); (case hg => rfl); (case hr => first | (go_simp; done) | (go_simp; rfl)); intro gb358 hg w8 hbox hb; have n0_ := Aside0.mk (below_step (by repeat (first | (with_reducible first | exact HB.out | apply below_alloc | apply pw_below_drewN | apply below_drew1) | exact HB.out)) hb); have n1_ := Aside0.mk (hbox); have n2_ := Aside0.mk ((by rw [hg]; exact (below_size (by repeat (first | (with_reducible first | exact HB.out | apply below_alloc | apply pw_below_drewN | apply below_drew1) | exact HB.out))) : w.heap.size ≤ gb358)); have n3_ := Aside0.mk ((by rw [hg]; exact (below_size (by repeat (first | (with_reducible first | exact HB.out | apply below_alloc | apply pw_below_drewN | apply below_drew1) | exact HB.out))) : w.heap.size ≤ gb358)); clear HB; have HB := n0_; have BK358 := n1_; have GW358 := n2_; have GE358 := n3_; clear n0_ n1_ n2_ n3_; clear hb hbox hg) | ((with_reducible refine gate_dst (N := 3) rfl ?_); refine box_event ?hg (N := 3) ?hd (cs := #[.int .i64 a1_0, .int .i64 a1_1, .int .i64 a1_2, .int .i64 a1_3, .bool a1_4, .int .i64 a1_5, .int .i64 a1_6]) (t := 30) ?hr ?_; (case hd => rfl); (case hg => rfl); (case hr => first | (go_simp; done) | (go_simp; rfl)); intro gb359 hg w9 hbox hb; have n0_ := Aside0.mk (blk_below (g := gb358) (o := .cells #[.slice A0_0 l0_0.length c0_0] 26 (0, 0)) (by (with_reducible repeat (first | refine blk_drewN ?_ _ | refine blk_drew ?_ | refine blk_alloc ?_ _)); exact BK358.out) hb); have n1_ := Aside0.mk (below_step (by repeat (first | (with_reducible first | exact HB.out | apply below_alloc | apply pw_below_drewN | apply below_drew1 | refine below_set ?_ GE358.out) | exact HB.out)) hb); have n2_ := Aside0.mk (hbox); have n3_ := Aside0.mk ((by rw [hg]; exact (below_size (by repeat (first | (with_reducible first | exact HB.out | apply below_alloc | apply pw_below_drewN | apply below_drew1 | refine below_set ?_ GE358.out) | exact HB.out))) : w.heap.size ≤ gb359)); have n4_ := Aside0.mk ((by rw [hg]; exact (below_size (by repeat (first | (with_reducible first | exact HB.out | apply below_alloc | apply pw_below_drewN | apply below_drew1 | refine below_set ?_ GE358.out) | exact HB.out))) : w.heap.size ≤ gb359)); have n5_ := Aside0.mk ((by rw [hg]; exact Nat.ne_of_lt (blk_lt (g := gb358) (o := .cells #[.slice A0_0 l0_0.length c0_0] 26 (0, 0)) (by (with_reducible repeat (first | refine blk_drewN ?_ _ | refine blk_drew ?_ | refine blk_alloc ?_ _)); exact BK358.out)) : gb358 ≠ gb359)); have n6_ := Aside0.mk ((by rw [hg]; exact Nat.ne_of_gt (blk_lt (g := gb358) (o := .cells #[.slice A0_0 l0_0.length c0_0] 26 (0, 0)) (by (with_reducible repeat (first | refine blk_drewN ?_ _ | refine blk_drew ?_ | refine blk_alloc ?_ _)); exact BK358.out)) : gb359 ≠ gb358)); clear BK358; clear HB; have BK358 := n0_; have HB := n1_; have BK359 := n2_; have GW359 := n3_; have GE359 := n4_; have NB358_359 := n5_; have NB359_358 := n6_; clear n0_ n1_ n2_ n3_ n4_ n5_ n6_; clear hb hbox hg; have hnb10 := NB358_359.out; have hnc10 := NB359_358.out; have hcz11_0 : w9.cell? ⟨gb358, 0, none⟩ = some (.slice A0_0 l0_0.length c0_0) := (blk_cell BK358.out 0).trans rfl; have hfz11_0 := blk_frozen BK358.out 0; have hcz12_0 : w9.cell? ⟨gb359, 0, none⟩ = some (.int .i64 a1_0) := (blk_cell BK359.out 0).trans rfl; have hcz12_1 : w9.cell? ⟨gb359, 1, none⟩ = some (.int .i64 a1_1) := (blk_cell BK359.out 1).trans rfl; have hcz12_2 : w9.cell? ⟨gb359, 2, none⟩ = some (.int .i64 a1_2) := (blk_cell BK359.out 2).trans rfl; have hcz12_3 : w9.cell? ⟨gb359, 3, none⟩ = some (.int .i64 a1_3) := (blk_cell BK359.out 3).trans rfl; have hcz12_4 : w9.cell? ⟨gb359, 4, none⟩ = some (.bool a1_4) := (blk_cell BK359.out 4).trans rfl; have hcz12_5 : w9.cell? ⟨gb359, 5, none⟩ = some (.int .i64 a1_5) := (blk_cell BK359.out 5).trans rfl; have hcz12_6 : w9.cell? ⟨gb359, 6, none⟩ = some (.int .i64 a1_6) := (blk_cell BK359.out 6).trans rfl; have hfz12_0 := blk_frozen BK359.out 0; have hfz12_1 := blk_frozen BK359.out 1; have hfz12_2 := blk_frozen BK359.out 2; have hfz12_3 := blk_frozen BK359.out 3; have hfz12_4 := blk_frozen BK359.out 4; have hfz12_5 := blk_frozen BK359.out 5; have hfz12_6 := blk_frozen BK359.out 6) | ((with_reducible refine gate_callee (f := 113) rfl ?_); refine goesL_ (some 8) rfl rfl Try.func113 (by kernel_rfl) rfl #[.agg #[.slice A0_0 l0_0.length c0_0], .agg #[.int .i64 a1_0, .int .i64 a1_1, .int .i64 a1_2, .int .i64 a1_3]] rfl (by (try simp only [List.map_toArray, List.map_cons, List.map_nil]); first | done | rfl | (simp only [List.length_drop, List.length_take]; rfl)) ?_; (with_reducible refine (spec_l2Window.calls k _ _ l0_0 a1_0 a1_1 a1_2 a1_3 true _ ?side1 ?side2 A3.out).mono ?_); (case side1 => repeat (first | exact (Kd.C_below HR0_0.out HB.out) | (with_reducible refine Kd.C_alloc ?_ _) | (with_reducible refine Kd.C_drewN ?_ _) | (with_reducible refine Kd.C_drew ?_))); (case side2 => exact HC0_0.out); rintro e w13 ⟨rfl, hb⟩; refine ⟨_, rfl, ?_⟩; have n0_ := Aside0.mk (blk_below (g := gb358) (o := .cells #[.slice A0_0 l0_0.length c0_0] 26 (0, 0)) (by (with_reducible repeat (first | refine blk_drewN ?_ _ | refine blk_drew ?_ | refine blk_alloc ?_ _)); exact BK358.out) hb); have n1_ := Aside0.mk (blk_below (g := gb359) (o := .cells #[.int .i64 a1_0, .int .i64 a1_1, .int .i64 a1_2, .int .i64 a1_3, .bool a1_4, .int .i64 a1_5, .int .i64 a1_6] 30 (0, 0)) (by (with_reducible repeat (first | refine blk_drewN ?_ _ | refine blk_drew ?_ | refine blk_alloc ?_ _)); exact BK359.out) hb); have n2_ := Aside0.mk (below_step (by repeat (first | (with_reducible first | exact HB.out | apply below_alloc | apply pw_below_drewN | apply below_drew1 | refine below_set ?_ GE358.out | refine below_set ?_ GE359.out) | exact HB.out)) hb); clear BK358; clear BK359; clear HB; have BK358 := n0_; have BK359 := n1_; have HB := n2_; clear n0_ n1_ n2_; (try clear hb); (try clear hb2); (try clear hk); (try clear hi); have hcz14_0 : w13.cell? ⟨gb359, 0, none⟩ = some (.int .i64 a1_0) := (blk_cell BK359.out 0).trans rfl; have hcz14_1 : w13.cell? ⟨gb359, 1, none⟩ = some (.int .i64 a1_1) := (blk_cell BK359.out 1).trans rfl; have hcz14_2 : w13.cell? ⟨gb359, 2, none⟩ = some (.int .i64 a1_2) := (blk_cell BK359.out 2).trans rfl; have hcz14_3 : w13.cell? ⟨gb359, 3, none⟩ = some (.int .i64 a1_3) := (blk_cell BK359.out 3).trans rfl; have hcz14_4 : w13.cell? ⟨gb359, 4, none⟩ = some (.bool a1_4) := (blk_cell BK359.out 4).trans rfl; have hcz14_5 : w13.cell? ⟨gb359, 5, none⟩ = some (.int .i64 a1_5) := (blk_cell BK359.out 5).trans rfl; have hcz14_6 : w13.cell? ⟨gb359, 6, none⟩ = some (.int .i64 a1_6) := (blk_cell BK359.out 6).trans rfl; have hfz14_0 := blk_frozen BK359.out 0; have hfz14_1 := blk_frozen BK359.out 1; have hfz14_2 := blk_frozen BK359.out 2; have hfz14_3 := blk_frozen BK359.out 3; have hfz14_4 := blk_frozen BK359.out 4; have hfz14_5 := blk_frozen BK359.out 5; have hfz14_6 := blk_frozen BK359.out 6) | (go_at_call 71; (with_reducible refine (spec_l1In.calls a1_6 0 60 true _ A5.out).mono ?_); rintro e w' ⟨rfl, ⟨nd, rfl⟩⟩) | (go_at_call 71; (with_reducible refine (spec_l1In.calls a1_5 0 a1_6 t362 _ A7.out).mono ?_); rintro e w' ⟨rfl, ⟨nd, rfl⟩⟩))
      go_ret
      exact ⟨by first | rfl | (simp [errW_none, errW_some] <;> rfl) | (simp [*, errW_none, errW_some] <;> rfl), by repeat (first | (with_reducible first | exact HB.out | apply below_alloc | apply pw_below_drewN | apply below_drew1 | refine below_set ?_ GE358.out | refine below_set ?_ GE359.out) | exact HB.out)⟩
    · replace c6 := Bool.eq_false_iff.mpr c6
      subst c6
      have H1 : (some false) = some r := by rw [if_neg (show ¬ (false = true) by decide)] at H; exact H
      clear H
      have H := H1
      clear H1
      obtain rfl := Option.some.inj H
      go_enter Try.func70, Try.ntmps70
      go_wp2_with (first | ((with_reducible refine gate_dst (N := 2) rfl ?_); refine box_event ?hg (N := 2) ?hd (cs := #[.slice A0_0 l0_0.length c0_0]) (t := 26) ?hr ?_; (case hd => rfl); (case hg => rfl); (case hr => first | (go_simp; done) | (go_simp; rfl)); intro gb358 hg w15 hbox hb; have n0_ := Aside0.mk (below_step (by repeat (first | (with_reducible first | exact HB.out | apply below_alloc | apply pw_below_drewN | apply below_drew1) | exact HB.out)) hb); have n1_ := Aside0.mk (hbox); have n2_ := Aside0.mk ((by rw [hg]; exact (below_size (by repeat (first | (with_reducible first | exact HB.out | apply below_alloc | apply pw_below_drewN | apply below_drew1) | exact HB.out))) : w.heap.size ≤ gb358)); have n3_ := Aside0.mk ((by rw [hg]; exact (below_size (by repeat (first | (with_reducible first | exact HB.out | apply below_alloc | apply pw_below_drewN | apply below_drew1) | exact HB.out))) : w.heap.size ≤ gb358)); clear HB; have HB := n0_; have BK358 := n1_; have GW358 := n2_; have GE358 := n3_; clear n0_ n1_ n2_ n3_; clear hb hbox hg) | ((with_reducible refine gate_dst (N := 3) rfl ?_); refine box_event ?hg (N := 3) ?hd (cs := #[.int .i64 a1_0, .int .i64 a1_1, .int .i64 a1_2, .int .i64 a1_3, .bool a1_4, .int .i64 a1_5, .int .i64 a1_6]) (t := 30) ?hr ?_; (case hd => rfl); (case hg => rfl); (case hr => first | (go_simp; done) | (go_simp; rfl)); intro gb359 hg w16 hbox hb; have n0_ := Aside0.mk (blk_below (g := gb358) (o := .cells #[.slice A0_0 l0_0.length c0_0] 26 (0, 0)) (by (with_reducible repeat (first | refine blk_drewN ?_ _ | refine blk_drew ?_ | refine blk_alloc ?_ _)); exact BK358.out) hb); have n1_ := Aside0.mk (below_step (by repeat (first | (with_reducible first | exact HB.out | apply below_alloc | apply pw_below_drewN | apply below_drew1 | refine below_set ?_ GE358.out) | exact HB.out)) hb); have n2_ := Aside0.mk (hbox); have n3_ := Aside0.mk ((by rw [hg]; exact (below_size (by repeat (first | (with_reducible first | exact HB.out | apply below_alloc | apply pw_below_drewN | apply below_drew1 | refine below_set ?_ GE358.out) | exact HB.out))) : w.heap.size ≤ gb359)); have n4_ := Aside0.mk ((by rw [hg]; exact (below_size (by repeat (first | (with_reducible first | exact HB.out | apply below_alloc | apply pw_below_drewN | apply below_drew1 | refine below_set ?_ GE358.out) | exact HB.out))) : w.heap.size ≤ gb359)); have n5_ := Aside0.mk ((by rw [hg]; exact Nat.ne_of_lt (blk_lt (g := gb358) (o := .cells #[.slice A0_0 l0_0.length c0_0] 26 (0, 0)) (by (with_reducible repeat (first | refine blk_drewN ?_ _ | refine blk_drew ?_ | refine blk_alloc ?_ _)); exact BK358.out)) : gb358 ≠ gb359)); have n6_ := Aside0.mk ((by rw [hg]; exact Nat.ne_of_gt (blk_lt (g := gb358) (o := .cells #[.slice A0_0 l0_0.length c0_0] 26 (0, 0)) (by (with_reducible repeat (first | refine blk_drewN ?_ _ | refine blk_drew ?_ | refine blk_alloc ?_ _)); exact BK358.out)) : gb359 ≠ gb358)); clear BK358; clear HB; have BK358 := n0_; have HB := n1_; have BK359 := n2_; have GW359 := n3_; have GE359 := n4_; have NB358_359 := n5_; have NB359_358 := n6_; clear n0_ n1_ n2_ n3_ n4_ n5_ n6_; clear hb hbox hg; have hnb17 := NB358_359.out; have hnc17 := NB359_358.out; have hcz18_0 : w16.cell? ⟨gb358, 0, none⟩ = some (.slice A0_0 l0_0.length c0_0) := (blk_cell BK358.out 0).trans rfl; have hfz18_0 := blk_frozen BK358.out 0; have hcz19_0 : w16.cell? ⟨gb359, 0, none⟩ = some (.int .i64 a1_0) := (blk_cell BK359.out 0).trans rfl; have hcz19_1 : w16.cell? ⟨gb359, 1, none⟩ = some (.int .i64 a1_1) := (blk_cell BK359.out 1).trans rfl; have hcz19_2 : w16.cell? ⟨gb359, 2, none⟩ = some (.int .i64 a1_2) := (blk_cell BK359.out 2).trans rfl; have hcz19_3 : w16.cell? ⟨gb359, 3, none⟩ = some (.int .i64 a1_3) := (blk_cell BK359.out 3).trans rfl; have hcz19_4 : w16.cell? ⟨gb359, 4, none⟩ = some (.bool a1_4) := (blk_cell BK359.out 4).trans rfl; have hcz19_5 : w16.cell? ⟨gb359, 5, none⟩ = some (.int .i64 a1_5) := (blk_cell BK359.out 5).trans rfl; have hcz19_6 : w16.cell? ⟨gb359, 6, none⟩ = some (.int .i64 a1_6) := (blk_cell BK359.out 6).trans rfl; have hfz19_0 := blk_frozen BK359.out 0; have hfz19_1 := blk_frozen BK359.out 1; have hfz19_2 := blk_frozen BK359.out 2; have hfz19_3 := blk_frozen BK359.out 3; have hfz19_4 := blk_frozen BK359.out 4; have hfz19_5 := blk_frozen BK359.out 5; have hfz19_6 := blk_frozen BK359.out 6) | ((with_reducible refine gate_callee (f := 113) rfl ?_); refine goesL_ (some 8) rfl rfl Try.func113 (by kernel_rfl) rfl #[.agg #[.slice A0_0 l0_0.length c0_0], .agg #[.int .i64 a1_0, .int .i64 a1_1, .int .i64 a1_2, .int .i64 a1_3]] rfl (by (try simp only [List.map_toArray, List.map_cons, List.map_nil]); first | done | rfl | (simp only [List.length_drop, List.length_take]; rfl)) ?_; (with_reducible refine (spec_l2Window.calls k _ _ l0_0 a1_0 a1_1 a1_2 a1_3 true _ ?side1 ?side2 A3.out).mono ?_); (case side1 => repeat (first | exact (Kd.C_below HR0_0.out HB.out) | (with_reducible refine Kd.C_alloc ?_ _) | (with_reducible refine Kd.C_drewN ?_ _) | (with_reducible refine Kd.C_drew ?_))); (case side2 => exact HC0_0.out); rintro e w20 ⟨rfl, hb⟩; refine ⟨_, rfl, ?_⟩; have n0_ := Aside0.mk (blk_below (g := gb358) (o := .cells #[.slice A0_0 l0_0.length c0_0] 26 (0, 0)) (by (with_reducible repeat (first | refine blk_drewN ?_ _ | refine blk_drew ?_ | refine blk_alloc ?_ _)); exact BK358.out) hb); have n1_ := Aside0.mk (blk_below (g := gb359) (o := .cells #[.int .i64 a1_0, .int .i64 a1_1, .int .i64 a1_2, .int .i64 a1_3, .bool a1_4, .int .i64 a1_5, .int .i64 a1_6] 30 (0, 0)) (by (with_reducible repeat (first | refine blk_drewN ?_ _ | refine blk_drew ?_ | refine blk_alloc ?_ _)); exact BK359.out) hb); have n2_ := Aside0.mk (below_step (by repeat (first | (with_reducible first | exact HB.out | apply below_alloc | apply pw_below_drewN | apply below_drew1 | refine below_set ?_ GE358.out | refine below_set ?_ GE359.out) | exact HB.out)) hb); clear BK358; clear BK359; clear HB; have BK358 := n0_; have BK359 := n1_; have HB := n2_; clear n0_ n1_ n2_; (try clear hb); (try clear hb2); (try clear hk); (try clear hi); have hcz21_0 : w20.cell? ⟨gb359, 0, none⟩ = some (.int .i64 a1_0) := (blk_cell BK359.out 0).trans rfl; have hcz21_1 : w20.cell? ⟨gb359, 1, none⟩ = some (.int .i64 a1_1) := (blk_cell BK359.out 1).trans rfl; have hcz21_2 : w20.cell? ⟨gb359, 2, none⟩ = some (.int .i64 a1_2) := (blk_cell BK359.out 2).trans rfl; have hcz21_3 : w20.cell? ⟨gb359, 3, none⟩ = some (.int .i64 a1_3) := (blk_cell BK359.out 3).trans rfl; have hcz21_4 : w20.cell? ⟨gb359, 4, none⟩ = some (.bool a1_4) := (blk_cell BK359.out 4).trans rfl; have hcz21_5 : w20.cell? ⟨gb359, 5, none⟩ = some (.int .i64 a1_5) := (blk_cell BK359.out 5).trans rfl; have hcz21_6 : w20.cell? ⟨gb359, 6, none⟩ = some (.int .i64 a1_6) := (blk_cell BK359.out 6).trans rfl; have hfz21_0 := blk_frozen BK359.out 0; have hfz21_1 := blk_frozen BK359.out 1; have hfz21_2 := blk_frozen BK359.out 2; have hfz21_3 := blk_frozen BK359.out 3; have hfz21_4 := blk_frozen BK359.out 4; have hfz21_5 := blk_frozen BK359.out 5; have hfz21_6 := blk_frozen BK359.out 6) | (go_at_call 71; (with_reducible refine (spec_l1In.calls a1_6 0 60 false _ A5.out).mono ?_); rintro e w' ⟨rfl, ⟨nd, rfl⟩⟩))
      go_ret
      exact ⟨by first | rfl | (simp [errW_none, errW_some] <;> rfl) | (simp [*, errW_none, errW_some] <;> rfl), by repeat (first | (with_reducible first | exact HB.out | apply below_alloc | apply pw_below_drewN | apply below_drew1 | refine below_set ?_ GE358.out | refine below_set ?_ GE359.out) | exact HB.out)⟩
  · replace c4 := Bool.eq_false_iff.mpr c4
    subst c4
    have H1 : (some false) = some r := by rw [if_neg (show ¬ (false = true) by decide)] at H; exact H
    clear H
    have H := H1
    clear H1
    obtain rfl := Option.some.inj H
    go_enter Try.func70, Try.ntmps70
    go_wp2_with (first | ((with_reducible refine gate_dst (N := 2) rfl ?_); refine box_event ?hg (N := 2) ?hd (cs := #[.slice A0_0 l0_0.length c0_0]) (t := 26) ?hr ?_; (case hd => rfl); (case hg => rfl); (case hr => first | (go_simp; done) | (go_simp; rfl)); intro gb358 hg w22 hbox hb; have n0_ := Aside0.mk (below_step (by repeat (first | (with_reducible first | exact HB.out | apply below_alloc | apply pw_below_drewN | apply below_drew1) | exact HB.out)) hb); have n1_ := Aside0.mk (hbox); have n2_ := Aside0.mk ((by rw [hg]; exact (below_size (by repeat (first | (with_reducible first | exact HB.out | apply below_alloc | apply pw_below_drewN | apply below_drew1) | exact HB.out))) : w.heap.size ≤ gb358)); have n3_ := Aside0.mk ((by rw [hg]; exact (below_size (by repeat (first | (with_reducible first | exact HB.out | apply below_alloc | apply pw_below_drewN | apply below_drew1) | exact HB.out))) : w.heap.size ≤ gb358)); clear HB; have HB := n0_; have BK358 := n1_; have GW358 := n2_; have GE358 := n3_; clear n0_ n1_ n2_ n3_; clear hb hbox hg) | ((with_reducible refine gate_dst (N := 3) rfl ?_); refine box_event ?hg (N := 3) ?hd (cs := #[.int .i64 a1_0, .int .i64 a1_1, .int .i64 a1_2, .int .i64 a1_3, .bool a1_4, .int .i64 a1_5, .int .i64 a1_6]) (t := 30) ?hr ?_; (case hd => rfl); (case hg => rfl); (case hr => first | (go_simp; done) | (go_simp; rfl)); intro gb359 hg w23 hbox hb; have n0_ := Aside0.mk (blk_below (g := gb358) (o := .cells #[.slice A0_0 l0_0.length c0_0] 26 (0, 0)) (by (with_reducible repeat (first | refine blk_drewN ?_ _ | refine blk_drew ?_ | refine blk_alloc ?_ _)); exact BK358.out) hb); have n1_ := Aside0.mk (below_step (by repeat (first | (with_reducible first | exact HB.out | apply below_alloc | apply pw_below_drewN | apply below_drew1 | refine below_set ?_ GE358.out) | exact HB.out)) hb); have n2_ := Aside0.mk (hbox); have n3_ := Aside0.mk ((by rw [hg]; exact (below_size (by repeat (first | (with_reducible first | exact HB.out | apply below_alloc | apply pw_below_drewN | apply below_drew1 | refine below_set ?_ GE358.out) | exact HB.out))) : w.heap.size ≤ gb359)); have n4_ := Aside0.mk ((by rw [hg]; exact (below_size (by repeat (first | (with_reducible first | exact HB.out | apply below_alloc | apply pw_below_drewN | apply below_drew1 | refine below_set ?_ GE358.out) | exact HB.out))) : w.heap.size ≤ gb359)); have n5_ := Aside0.mk ((by rw [hg]; exact Nat.ne_of_lt (blk_lt (g := gb358) (o := .cells #[.slice A0_0 l0_0.length c0_0] 26 (0, 0)) (by (with_reducible repeat (first | refine blk_drewN ?_ _ | refine blk_drew ?_ | refine blk_alloc ?_ _)); exact BK358.out)) : gb358 ≠ gb359)); have n6_ := Aside0.mk ((by rw [hg]; exact Nat.ne_of_gt (blk_lt (g := gb358) (o := .cells #[.slice A0_0 l0_0.length c0_0] 26 (0, 0)) (by (with_reducible repeat (first | refine blk_drewN ?_ _ | refine blk_drew ?_ | refine blk_alloc ?_ _)); exact BK358.out)) : gb359 ≠ gb358)); clear BK358; clear HB; have BK358 := n0_; have HB := n1_; have BK359 := n2_; have GW359 := n3_; have GE359 := n4_; have NB358_359 := n5_; have NB359_358 := n6_; clear n0_ n1_ n2_ n3_ n4_ n5_ n6_; clear hb hbox hg; have hnb24 := NB358_359.out; have hnc24 := NB359_358.out; have hcz25_0 : w23.cell? ⟨gb358, 0, none⟩ = some (.slice A0_0 l0_0.length c0_0) := (blk_cell BK358.out 0).trans rfl; have hfz25_0 := blk_frozen BK358.out 0; have hcz26_0 : w23.cell? ⟨gb359, 0, none⟩ = some (.int .i64 a1_0) := (blk_cell BK359.out 0).trans rfl; have hcz26_1 : w23.cell? ⟨gb359, 1, none⟩ = some (.int .i64 a1_1) := (blk_cell BK359.out 1).trans rfl; have hcz26_2 : w23.cell? ⟨gb359, 2, none⟩ = some (.int .i64 a1_2) := (blk_cell BK359.out 2).trans rfl; have hcz26_3 : w23.cell? ⟨gb359, 3, none⟩ = some (.int .i64 a1_3) := (blk_cell BK359.out 3).trans rfl; have hcz26_4 : w23.cell? ⟨gb359, 4, none⟩ = some (.bool a1_4) := (blk_cell BK359.out 4).trans rfl; have hcz26_5 : w23.cell? ⟨gb359, 5, none⟩ = some (.int .i64 a1_5) := (blk_cell BK359.out 5).trans rfl; have hcz26_6 : w23.cell? ⟨gb359, 6, none⟩ = some (.int .i64 a1_6) := (blk_cell BK359.out 6).trans rfl; have hfz26_0 := blk_frozen BK359.out 0; have hfz26_1 := blk_frozen BK359.out 1; have hfz26_2 := blk_frozen BK359.out 2; have hfz26_3 := blk_frozen BK359.out 3; have hfz26_4 := blk_frozen BK359.out 4; have hfz26_5 := blk_frozen BK359.out 5; have hfz26_6 := blk_frozen BK359.out 6) | ((with_reducible refine gate_callee (f := 113) rfl ?_); refine goesL_ (some 8) rfl rfl Try.func113 (by kernel_rfl) rfl #[.agg #[.slice A0_0 l0_0.length c0_0], .agg #[.int .i64 a1_0, .int .i64 a1_1, .int .i64 a1_2, .int .i64 a1_3]] rfl (by (try simp only [List.map_toArray, List.map_cons, List.map_nil]); first | done | rfl | (simp only [List.length_drop, List.length_take]; rfl)) ?_; (with_reducible refine (spec_l2Window.calls k _ _ l0_0 a1_0 a1_1 a1_2 a1_3 false _ ?side1 ?side2 A3.out).mono ?_); (case side1 => repeat (first | exact (Kd.C_below HR0_0.out HB.out) | (with_reducible refine Kd.C_alloc ?_ _) | (with_reducible refine Kd.C_drewN ?_ _) | (with_reducible refine Kd.C_drew ?_))); (case side2 => exact HC0_0.out); rintro e w27 ⟨rfl, hb⟩; refine ⟨_, rfl, ?_⟩; have n0_ := Aside0.mk (blk_below (g := gb358) (o := .cells #[.slice A0_0 l0_0.length c0_0] 26 (0, 0)) (by (with_reducible repeat (first | refine blk_drewN ?_ _ | refine blk_drew ?_ | refine blk_alloc ?_ _)); exact BK358.out) hb); have n1_ := Aside0.mk (blk_below (g := gb359) (o := .cells #[.int .i64 a1_0, .int .i64 a1_1, .int .i64 a1_2, .int .i64 a1_3, .bool a1_4, .int .i64 a1_5, .int .i64 a1_6] 30 (0, 0)) (by (with_reducible repeat (first | refine blk_drewN ?_ _ | refine blk_drew ?_ | refine blk_alloc ?_ _)); exact BK359.out) hb); have n2_ := Aside0.mk (below_step (by repeat (first | (with_reducible first | exact HB.out | apply below_alloc | apply pw_below_drewN | apply below_drew1 | refine below_set ?_ GE358.out | refine below_set ?_ GE359.out) | exact HB.out)) hb); clear BK358; clear BK359; clear HB; have BK358 := n0_; have BK359 := n1_; have HB := n2_; clear n0_ n1_ n2_; (try clear hb); (try clear hb2); (try clear hk); (try clear hi)))
    go_ret
    exact ⟨by first | rfl | (simp [errW_none, errW_some] <;> rfl) | (simp [*, errW_none, errW_some] <;> rfl), by repeat (first | (with_reducible first | exact HB.out | apply below_alloc | apply pw_below_drewN | apply below_drew1 | refine below_set ?_ GE358.out | refine below_set ?_ GE359.out) | exact HB.out)⟩

end Go.Proofs.Ytpbboooeahmgpaa.P


namespace Go.Proofs.Ytpbboooeahmgpaa.P
open Go.RowKit Go.Proofs.YtpbboooeahmgpaaW.PrintWords Go.Proofs.YtpbboooeahmgpaaW.PrintLast Go.Proofs.YtpbboooeahmgpaaW.PrintMore
attribute [local go_sem] max2_int min2_int max_two min_two max_three min_three max_four min_four   -- for this text's walks alone
set_option linter.unusedVariables false
set_option linter.unusedSimpArgs false

/-! ### spec_l10Loans: function 83 -/
mutual
def spec_l10Loans.l0 : Nat → List (SimplLoan) → Int → List (List Int) → Option (Bool)
  | 0, _, _, _ => none
  | k + 1, x1, x5, x540000 => if x5 < (x1.length : Int) then (spec_l10Loans.j1 k x1 x5 (decide (x5 ≤ 8)) x540000) else (spec_l10Loans.j1 k x1 x5 false x540000)
def spec_l10Loans.j1 : Nat → List (SimplLoan) → Int → Bool → List (List Int) → Option (Bool)
  | 0, _, _, _, _ => none
  | k + 1, x1, x5, x13, x540000 => if x13 = true then (if 0 ≤ x5 then (if x5 < (x1.length : Int) then ((spec_l10Loan.f k x540000 ((rd_TimplLoan x1 x5).f0.f0) ((rd_TimplLoan x1 x5).f0.f1) ((rd_TimplLoan x1 x5).f0.f2) ((rd_TimplLoan x1 x5).f0.f3) ((rd_TimplLoan x1 x5).f1) ((rd_TimplLoan x1 x5).f2) ((rd_TimplLoan x1 x5).f3)).bind fun t541 => (if t541 = true then (spec_l10Loans.l0 k x1 (wrap64 (x5 + 1)) x540000) else (some false))) else (none)) else (none)) else ((spec_l2Memory.f k x540000).bind fun t542 => (if t542 = true then (some (decide ((x1.length : Int) ≤ 8))) else (some false)))
end
def spec_l10Loans.f (k : Nat) (l0_0 : List (List Int)) (l1 : List (SimplLoan)) : Option (Bool) := spec_l10Loans.l0 k l1 0 l0_0
set_option maxHeartbeats 8000000 in
set_option maxRecDepth 100000 in
theorem spec_l10Loans.calls (k : Nat) (A0_0 : Option Addr) (c0_0 : Nat) (l0_0 : List (List Int)) (A1 : Option Addr) (c1 : Nat) (l1 : List (SimplLoan)) (r : Bool) (w : World) (hr0_0 : Kd.C (Kd.slice 5 (Kd.int .u8)) w A0_0 l0_0.length l0_0) (hc0_0 : l0_0.length ≤ c0_0) (hr1 : Kd.C kimplLoan w A1 l1.length l1) (hc1 : l1.length ≤ c1) (h : spec_l10Loans.f k l0_0 l1 = some r) :
    Calls Try.prog 83 #[.agg #[.slice A0_0 l0_0.length c0_0], .slice A1 l1.length c1] w fun e w' => e = .returned (.bool r) ∧ Below w.heap.size w w' := by
  have hu26 := Try.underlying26
  have hu30 := Try.underlying30
  have HR0_0 := Aside0.mk hr0_0
  have HC0_0 := Aside0.mk hc0_0
  clear hr0_0 hc0_0
  have HR1 := Aside0.mk hr1
  have HC1 := Aside0.mk hc1
  clear hr1 hc1
  have HB := Aside0.mk (Below.refl w.heap.size w)
  have H : (spec_l10Loans.l0 k l1 0 l0_0) = some r := h
  clear h
  have H' := Aside0.mk H
  clear H
  go_enter Try.func83, Try.ntmps83
  go_wp2_with (first | ((with_reducible refine gate_dst (N := 2) rfl ?_); (try (refine gate_guard (by rfl) ?_; dsimp only)); refine box_event ?hg (N := 2) ?hd (cs := #[.slice A0_0 l0_0.length c0_0]) (t := 26) ?hr ?_; (case hd => rfl); (case hg => rfl); (case hr => first | (go_simp; done) | (go_simp; rfl)); intro gb539 hg w3 hbox hb; have n0_ := Aside0.mk (below_step (by repeat (first | (with_reducible first | exact HB.out | apply below_alloc | apply pw_below_drewN | apply below_drew1) | exact HB.out)) hb); have n1_ := Aside0.mk (hbox); have n2_ := Aside0.mk ((by rw [hg]; exact (below_size (by repeat (first | (with_reducible first | exact HB.out | apply below_alloc | apply pw_below_drewN | apply below_drew1) | exact HB.out))) : w.heap.size ≤ gb539)); have n3_ := Aside0.mk ((by rw [hg]; exact (below_size (by repeat (first | (with_reducible first | exact HB.out | apply below_alloc | apply pw_below_drewN | apply below_drew1) | exact HB.out))) : w.heap.size ≤ gb539)); clear HB; have HB := n0_; have BK539 := n1_; have GW539 := n2_; have GE539 := n3_; clear n0_ n1_ n2_ n3_; clear hb hbox hg))
  go_loopg [5] k (fun kq v5 w' => ∃ (x5_1 : Int), v5 = .int .i64 x5_1 ∧ Aside0 (spec_l10Loans.l0 kq l1 x5_1 l0_0 = some r) ∧ Aside0 (kq ≤ k) ∧ Aside0 (w'.heap[gb539]? = some (.cells #[(.slice A0_0 l0_0.length c0_0)] 26 (0, 0))) ∧ Aside0 (Below w.heap.size w w'))
  case atStart => exact ⟨(0), (by first | rfl | (simp; done) | (simp [*]; done)), H', ⟨Nat.le_refl _⟩, ⟨by (with_reducible repeat (first | refine blk_drewN ?_ _ | refine blk_drew ?_ | refine blk_alloc ?_ _)); exact BK539.out⟩, ⟨by repeat (first | (with_reducible first | exact HB.out | apply below_alloc | apply pw_below_drewN | apply below_drew1 | refine below_set ?_ GE539.out) | exact HB.out)⟩⟩
  case round =>
    clear H'
    try clear c1
    try clear p2
    obtain ⟨x5_1, rfl, HA, HK1, BK539, HB⟩ := hrel
    cases gk with
    | zero => exact absurd HA.out (by simp [spec_l10Loans.l0])
    | succ k1 =>
      have H := HA.out
      clear HA
      simp only [spec_l10Loans.l0] at H
      have HC4 := Aside0.mk H
      clear H
      go_upto_region 2 with (fail)
      go_cut [13] (fun v13 wc => ∃ (kq : Nat) (x13_3 : Bool), v13 = .bool x13_3 ∧ Aside0 (spec_l10Loans.j1 kq l1 x5_1 x13_3 l0_0 = some r) ∧ Aside0 (kq ≤ k1) ∧ Aside0 (wc.heap[gb539]? = some (.cells #[(.slice A0_0 l0_0.length c0_0)] 26 (0, 0))) ∧ Aside0 (Below w.heap.size w wc))
      case first =>
        have H := HC4.out
        clear HC4
        by_cases c5 : x5_1 < (l1.length : Int)
        · rw [if_pos c5] at H
          have c5b0 : decide (x5_1 < (l1.length : Int)) = true := decide_eq_true c5
          clear c5
          (first | rw [c5b0] | (simp only [i64_w, i32_w]; rw [c5b0]) | skip)
          have H' := Aside0.mk H
          clear H
          go_wp2
          go_meet
          case rel => exact ⟨_, (decide (x5_1 ≤ 8)), (by first | rfl | (simp; done) | (simp [*]; done)), H', ⟨by have := HK1.out; first | omega | exact Nat.le_refl _⟩, ⟨by (with_reducible repeat (first | refine blk_drewN ?_ _ | refine blk_drew ?_ | refine blk_alloc ?_ _)); exact BK539.out⟩, ⟨by repeat (first | (with_reducible first | exact HB.out | apply below_alloc | apply pw_below_drewN | apply below_drew1 | refine below_set ?_ GE539.out) | exact HB.out)⟩⟩
        · rw [if_neg c5] at H
          have c5b0 : decide (x5_1 < (l1.length : Int)) = false := decide_eq_false c5
          clear c5
          (first | rw [c5b0] | (simp only [i64_w, i32_w]; rw [c5b0]) | skip)
          have H' := Aside0.mk H
          clear H
          go_wp2
          go_meet
          case rel => exact ⟨_, (false), (by first | rfl | (simp; done) | (simp [*]; done)), H', ⟨by have := HK1.out; first | omega | exact Nat.le_refl _⟩, ⟨by (with_reducible repeat (first | refine blk_drewN ?_ _ | refine blk_drew ?_ | refine blk_alloc ?_ _)); exact BK539.out⟩, ⟨by repeat (first | (with_reducible first | exact HB.out | apply below_alloc | apply pw_below_drewN | apply below_drew1 | refine below_set ?_ GE539.out) | exact HB.out)⟩⟩
      case rest =>
        clear HC4
        try clear c1
        try clear p2
        try clear c5
        try clear c5b0
        try clear p2
        obtain ⟨kq, x13_3, rfl, HA, HJ3, BK539, HB⟩ := hcut
        cases kq with
        | zero => exact absurd HA.out (by simp [spec_l10Loans.j1])
        | succ kj3 =>
          have H := HA.out
          clear HA
          simp only [spec_l10Loans.j1] at H
          by_cases c6 : x13_3 = true
          · subst c6
            have H1 : (if 0 ≤ x5_1 then (if x5_1 < (l1.length : Int) then ((spec_l10Loan.f kj3 l0_0 ((rd_TimplLoan l1 x5_1).f0.f0) ((rd_TimplLoan l1 x5_1).f0.f1) ((rd_TimplLoan l1 x5_1).f0.f2) ((rd_TimplLoan l1 x5_1).f0.f3) ((rd_TimplLoan l1 x5_1).f1) ((rd_TimplLoan l1 x5_1).f2) ((rd_TimplLoan l1 x5_1).f3)).bind fun t541 => (if t541 = true then (spec_l10Loans.l0 kj3 l1 (wrap64 (x5_1 + 1)) l0_0) else (some false))) else (none)) else (none)) = some r := by rw [if_pos rfl] at H; exact H
            clear H
            have H := H1
            clear H1
            by_cases c7 : 0 ≤ x5_1
            · rw [if_pos c7] at H
              have c7b0 : decide (0 ≤ x5_1) = true := decide_eq_true c7
              clear c7
              by_cases c8 : x5_1 < (l1.length : Int)
              · rw [if_pos c8] at H
                have c8b0 : decide (x5_1 < (l1.length : Int)) = true := decide_eq_true c8
                clear c8
                replace H := Option.bind_eq_some_iff.mp H
                obtain ⟨t541, A90, H⟩ := H
                replace H : (if t541 = true then (spec_l10Loans.l0 kj3 l1 (wrap64 (x5_1 + 1)) l0_0) else (some false)) = some r := H
                have A9 := Aside0.mk A90
                clear A90
                by_cases c10 : t541 = true
                · subst c10
                  have H1 : (spec_l10Loans.l0 kj3 l1 (wrap64 (x5_1 + 1)) l0_0) = some r := by rw [if_pos rfl] at H; exact H
                  clear H
                  have H := H1
                  clear H1
                  have H' := Aside0.mk H
                  clear H
                  try go_wp2
                  have n0_ := Aside0.mk (blk_drew BK539.out)
                  have n1_ := Aside0.mk (below_drew1 HB.out)
                  clear BK539
                  clear HB
                  have BK539 := n0_
                  have HB := n1_
                  clear n0_ n1_
                  have p540 : 0 ≤ (x5_1 : Int) := of_decide_eq_true (by first | (with_reducible assumption) | assumption)
                  have q540 : x5_1 < (l1.length : Int) := of_decide_eq_true (by first | (with_reducible assumption) | assumption)
                  obtain ⟨ad540, e540, hx540_0, hx540_1, hx540_2, hx540_3, hx540_4, hx540_5, hx540_6⟩ := at_TimplLoan HR1.out x5_1 p540 q540
                  have hw540_6 := hx540_6
                  have hw540_5 := hx540_5
                  have hw540_4 := hx540_4
                  have hw540_3 := hx540_3
                  have hw540_2 := hx540_2
                  have hw540_1 := hx540_1
                  have hw540_0 := hx540_0
                  cases e540
                  replace hx540_0 := (HB.out.cell (World.block_lt_of_cell? w _ hx540_0)).trans hx540_0
                  replace hx540_1 := (HB.out.cell (World.block_lt_of_cell? w _ hx540_1)).trans hx540_1
                  replace hx540_2 := (HB.out.cell (World.block_lt_of_cell? w _ hx540_2)).trans hx540_2
                  replace hx540_3 := (HB.out.cell (World.block_lt_of_cell? w _ hx540_3)).trans hx540_3
                  replace hx540_4 := (HB.out.cell (World.block_lt_of_cell? w _ hx540_4)).trans hx540_4
                  replace hx540_5 := (HB.out.cell (World.block_lt_of_cell? w _ hx540_5)).trans hx540_5
                  replace hx540_6 := (HB.out.cell (World.block_lt_of_cell? w _ hx540_6)).trans hx540_6
                  replace p540 := eq_true p540
                  replace q540 := eq_true q540
                  refine start_ (n := 7) (S := fun w' => w'.cell? ⟨gb539, 0, none⟩ = some (.slice A0_0 l0_0.length c0_0) ∧ w'.cell? (ad540.add ((x5_1).toNat * 7)) = some (.int .i64 ((rd_TimplLoan l1 x5_1).f0.f0)) ∧ w'.cell? ⟨(ad540.add ((x5_1).toNat * 7)).block, (ad540.add ((x5_1).toNat * 7)).off + 1, none⟩ = some (.int .i64 ((rd_TimplLoan l1 x5_1).f0.f1)) ∧ w'.cell? ⟨(ad540.add ((x5_1).toNat * 7)).block, (ad540.add ((x5_1).toNat * 7)).off + 2, none⟩ = some (.int .i64 ((rd_TimplLoan l1 x5_1).f0.f2)) ∧ w'.cell? ⟨(ad540.add ((x5_1).toNat * 7)).block, (ad540.add ((x5_1).toNat * 7)).off + 3, none⟩ = some (.int .i64 ((rd_TimplLoan l1 x5_1).f0.f3)) ∧ w'.cell? ⟨(ad540.add ((x5_1).toNat * 7)).block, (ad540.add ((x5_1).toNat * 7)).off + 4, none⟩ = some (.bool ((rd_TimplLoan l1 x5_1).f1)) ∧ w'.cell? ⟨(ad540.add ((x5_1).toNat * 7)).block, (ad540.add ((x5_1).toNat * 7)).off + 5, none⟩ = some (.int .i64 ((rd_TimplLoan l1 x5_1).f2)) ∧ w'.cell? ⟨(ad540.add ((x5_1).toNat * 7)).block, (ad540.add ((x5_1).toNat * 7)).off + 6, none⟩ = some (.int .i64 ((rd_TimplLoan l1 x5_1).f3))) (ds := []) #[false, false, false, false, false, false, false] (by kernel_rfl) rfl rfl ⟨(blk_cell BK539.out 0).trans rfl, (by have h_ := ((HB.out.cell (World.block_lt_of_cell? w _ hw540_0)).trans hw540_0); first | exact h_ | (simp only [*] at h_; exact h_) | simpa [*] using h_), (by have h_ := ((HB.out.cell (World.block_lt_of_cell? w _ hw540_1)).trans hw540_1); first | exact h_ | (simp only [*] at h_; exact h_) | simpa [*] using h_), (by have h_ := ((HB.out.cell (World.block_lt_of_cell? w _ hw540_2)).trans hw540_2); first | exact h_ | (simp only [*] at h_; exact h_) | simpa [*] using h_), (by have h_ := ((HB.out.cell (World.block_lt_of_cell? w _ hw540_3)).trans hw540_3); first | exact h_ | (simp only [*] at h_; exact h_) | simpa [*] using h_), (by have h_ := ((HB.out.cell (World.block_lt_of_cell? w _ hw540_4)).trans hw540_4); first | exact h_ | (simp only [*] at h_; exact h_) | simpa [*] using h_), (by have h_ := ((HB.out.cell (World.block_lt_of_cell? w _ hw540_5)).trans hw540_5); first | exact h_ | (simp only [*] at h_; exact h_) | simpa [*] using h_), (by have h_ := ((HB.out.cell (World.block_lt_of_cell? w _ hw540_6)).trans hw540_6); first | exact h_ | (simp only [*] at h_; exact h_) | simpa [*] using h_)⟩ (fun hHeld => ?_)
                  generalize wc.drew = w11 at BK539 HB hx540_0 hx540_1 hx540_2 hx540_3 hx540_4 hx540_5 hx540_6 hHeld ⊢
                  refine pure_ (i := 1) (N := some 17) (v := ?_) (a' := ?_) #[false, true, false, false, false, false, false] rfl rfl (by kernel_rfl) (fun _ _ _ h => h) (Or.inl ⟨by rfl, ?_⟩) ?_ ?_
                  rotate_left
                  · intro w'
                    go_simp
                    with_reducible rfl
                  rotate_left
                  · simp only [Act.put, List.setIfInBounds_toArray, List.set_cons_zero, List.set_cons_succ, i64_w, i32_w]
                    rfl
                  refine pure_ (i := 2) (N := some 18) (v := ?_) (a' := ?_) #[false, true, true, false, false, false, false] rfl rfl (by kernel_rfl) (fun _ _ _ h => h) (Or.inl ⟨by rfl, ?_⟩) ?_ ?_
                  rotate_left
                  · intro w'
                    go_simp
                    with_reducible rfl
                  rotate_left
                  · simp only [Act.put, List.setIfInBounds_toArray, List.set_cons_zero, List.set_cons_succ, i64_w, i32_w]
                    rfl
                  refine pure_ (i := 3) (N := some 19) (v := ?_) (a' := ?_) #[false, true, true, true, false, false, false] rfl rfl (by kernel_rfl) (fun _ _ _ h => h) (Or.inl ⟨by rfl, ?_⟩) ?_ ?_
                  rotate_left
                  · intro w'
                    go_simp
                    with_reducible rfl
                  rotate_left
                  · simp only [Act.put, List.setIfInBounds_toArray, List.set_cons_zero, List.set_cons_succ, i64_w, i32_w]
                    rfl
                  refine take_ (i := 0) (N := some 16) (v := ?_) (a' := ?_) #[true, true, true, true, false, false, false] rfl rfl (by kernel_rfl) (fun _ _ _ h => h) (Or.inl ⟨by rfl, ?_⟩) hHeld ?_ ?_
                  rotate_left
                  · rintro w' ⟨s0, s1, s2, s3, s4, s5, s6, s7⟩
                    go_simp
                    with_reducible rfl
                  rotate_left
                  · simp only [Act.put, List.setIfInBounds_toArray, List.set_cons_zero, List.set_cons_succ, i64_w, i32_w]
                    rfl
                  refine take_ (i := 4) (N := some 20) (v := ?_) (a' := ?_) #[true, true, true, true, true, false, false] rfl rfl (by kernel_rfl) (fun _ _ _ h => h) (Or.inl ⟨by rfl, ?_⟩) hHeld ?_ ?_
                  rotate_left
                  · rintro w' ⟨s0, s1, s2, s3, s4, s5, s6, s7⟩
                    go_simp
                    with_reducible rfl
                  rotate_left
                  · simp only [Act.put, List.setIfInBounds_toArray, List.set_cons_zero, List.set_cons_succ, i64_w, i32_w]
                    rfl
                  refine one_ (i := 5) (N := some 21) #[true, true, true, true, true, true, false] rfl rfl (by kernel_rfl) (by decide) (fun K hK => ?_)
                  refine goes_ Try.func70 (by kernel_rfl) rfl #[.agg #[.slice A0_0 l0_0.length c0_0], .agg #[.int .i64 ((rd_TimplLoan l1 x5_1).f0.f0), .int .i64 ((rd_TimplLoan l1 x5_1).f0.f1), .int .i64 ((rd_TimplLoan l1 x5_1).f0.f2), .int .i64 ((rd_TimplLoan l1 x5_1).f0.f3), .bool ((rd_TimplLoan l1 x5_1).f1), .int .i64 ((rd_TimplLoan l1 x5_1).f2), .int .i64 ((rd_TimplLoan l1 x5_1).f3)]] (by rfl) rfl rfl (by (try simp only [List.map_toArray, List.map_cons, List.map_nil]); first | done | rfl | (simp only [List.length_drop, List.length_take]; rfl)) ?_
                  with_reducible refine (spec_l10Loan.calls kj3 _ _ l0_0 ((rd_TimplLoan l1 x5_1).f0.f0) ((rd_TimplLoan l1 x5_1).f0.f1) ((rd_TimplLoan l1 x5_1).f0.f2) ((rd_TimplLoan l1 x5_1).f0.f3) ((rd_TimplLoan l1 x5_1).f1) ((rd_TimplLoan l1 x5_1).f2) ((rd_TimplLoan l1 x5_1).f3) true _ ?side1 ?side2 A9.out).mono ?_
                  (case side1 => repeat (first | exact (Kd.C_below HR0_0.out HB.out) | (with_reducible refine Kd.C_alloc ?_ _) | (with_reducible refine Kd.C_drewN ?_ _) | (with_reducible refine Kd.C_drew ?_)))
                  (case side2 => exact HC0_0.out)
                  rintro e w12 ⟨rfl, hb⟩
                  refine ⟨_, rfl, ?_⟩
                  have n0_ := Aside0.mk (blk_below (g := gb539) (o := .cells #[.slice A0_0 l0_0.length c0_0] 26 (0, 0)) (by (with_reducible repeat (first | refine blk_drewN ?_ _ | refine blk_drew ?_ | refine blk_alloc ?_ _)); exact BK539.out) hb)
                  have n1_ := Aside0.mk (below_step (by repeat (first | (with_reducible first | exact HB.out | apply below_alloc | apply pw_below_drewN | apply below_drew1 | refine below_set ?_ GE539.out) | exact HB.out)) hb)
                  clear BK539
                  clear HB
                  have BK539 := n0_
                  have HB := n1_
                  clear n0_ n1_
                  (try clear hb)
                  (try clear hb2)
                  (try clear hk)
                  (try clear hi)
                  refine hK.out _ _ ⟨(blk_cell BK539.out 0).trans rfl, (by have h_ := ((HB.out.cell (World.block_lt_of_cell? w _ hw540_0)).trans hw540_0); first | exact h_ | (simp only [*] at h_; exact h_) | simpa [*] using h_), (by have h_ := ((HB.out.cell (World.block_lt_of_cell? w _ hw540_1)).trans hw540_1); first | exact h_ | (simp only [*] at h_; exact h_) | simpa [*] using h_), (by have h_ := ((HB.out.cell (World.block_lt_of_cell? w _ hw540_2)).trans hw540_2); first | exact h_ | (simp only [*] at h_; exact h_) | simpa [*] using h_), (by have h_ := ((HB.out.cell (World.block_lt_of_cell? w _ hw540_3)).trans hw540_3); first | exact h_ | (simp only [*] at h_; exact h_) | simpa [*] using h_), (by have h_ := ((HB.out.cell (World.block_lt_of_cell? w _ hw540_4)).trans hw540_4); first | exact h_ | (simp only [*] at h_; exact h_) | simpa [*] using h_), (by have h_ := ((HB.out.cell (World.block_lt_of_cell? w _ hw540_5)).trans hw540_5); first | exact h_ | (simp only [*] at h_; exact h_) | simpa [*] using h_), (by have h_ := ((HB.out.cell (World.block_lt_of_cell? w _ hw540_6)).trans hw540_6); first | exact h_ | (simp only [*] at h_; exact h_) | simpa [*] using h_)⟩ (fun hHeld => ?_)
                  clear hK K
                  refine norm_ (a' := ?_) ?_ ?_
                  rotate_left
                  · show Act.put _ (some 21) _ = _
                    simp only [Act.put, List.setIfInBounds_toArray, List.set_cons_zero, List.set_cons_succ, i64_w, i32_w]
                    rfl
                  refine pure_ (i := 6) (N := some 22) (v := ?_) (a' := ?_) #[true, true, true, true, true, true, true] rfl rfl (by kernel_rfl) (fun _ _ _ h => h) (Or.inl ⟨by rfl, ?_⟩) ?_ ?_
                  rotate_left
                  · intro w'
                    go_simp
                    with_reducible rfl
                  rotate_left
                  · simp only [Act.put, List.setIfInBounds_toArray, List.set_cons_zero, List.set_cons_succ, i64_w, i32_w]
                    rfl
                  refine done_ (by kernel_rfl) ?_
                  try go_wp2
                  go_roundg kj3
                  case measure => have := HK1.out; have := HJ3.out; omega
                  case rel => exact ⟨(wrap64 (x5_1 + 1)), (by first | rfl | (simp; done) | (simp [*]; done)), H', ⟨by have := HK1.out; have := HJ3.out; omega⟩, ⟨by (with_reducible repeat (first | refine blk_drewN ?_ _ | refine blk_drew ?_ | refine blk_alloc ?_ _)); exact BK539.out⟩, ⟨by repeat (first | (with_reducible first | exact HB.out | apply below_alloc | apply pw_below_drewN | apply below_drew1 | refine below_set ?_ GE539.out) | exact HB.out)⟩⟩
                · replace c10 := Bool.eq_false_iff.mpr c10
                  subst c10
                  have H1 : (some false) = some r := by rw [if_neg (show ¬ (false = true) by decide)] at H; exact H
                  clear H
                  have H := H1
                  clear H1
                  obtain rfl := Option.some.inj H
                  try go_wp2
                  have n0_ := Aside0.mk (blk_drew BK539.out)
                  have n1_ := Aside0.mk (below_drew1 HB.out)
                  clear BK539
                  clear HB
                  have BK539 := n0_
                  have HB := n1_
                  clear n0_ n1_
                  have p540 : 0 ≤ (x5_1 : Int) := of_decide_eq_true (by first | (with_reducible assumption) | assumption)
                  have q540 : x5_1 < (l1.length : Int) := of_decide_eq_true (by first | (with_reducible assumption) | assumption)
                  obtain ⟨ad540, e540, hx540_0, hx540_1, hx540_2, hx540_3, hx540_4, hx540_5, hx540_6⟩ := at_TimplLoan HR1.out x5_1 p540 q540
                  have hw540_6 := hx540_6
                  have hw540_5 := hx540_5
                  have hw540_4 := hx540_4
                  have hw540_3 := hx540_3
                  have hw540_2 := hx540_2
                  have hw540_1 := hx540_1
                  have hw540_0 := hx540_0
                  cases e540
                  replace hx540_0 := (HB.out.cell (World.block_lt_of_cell? w _ hx540_0)).trans hx540_0
                  replace hx540_1 := (HB.out.cell (World.block_lt_of_cell? w _ hx540_1)).trans hx540_1
                  replace hx540_2 := (HB.out.cell (World.block_lt_of_cell? w _ hx540_2)).trans hx540_2
                  replace hx540_3 := (HB.out.cell (World.block_lt_of_cell? w _ hx540_3)).trans hx540_3
                  replace hx540_4 := (HB.out.cell (World.block_lt_of_cell? w _ hx540_4)).trans hx540_4
                  replace hx540_5 := (HB.out.cell (World.block_lt_of_cell? w _ hx540_5)).trans hx540_5
                  replace hx540_6 := (HB.out.cell (World.block_lt_of_cell? w _ hx540_6)).trans hx540_6
                  replace p540 := eq_true p540
                  replace q540 := eq_true q540
                  refine start_ (n := 7) (S := fun w' => w'.cell? ⟨gb539, 0, none⟩ = some (.slice A0_0 l0_0.length c0_0) ∧ w'.cell? (ad540.add ((x5_1).toNat * 7)) = some (.int .i64 ((rd_TimplLoan l1 x5_1).f0.f0)) ∧ w'.cell? ⟨(ad540.add ((x5_1).toNat * 7)).block, (ad540.add ((x5_1).toNat * 7)).off + 1, none⟩ = some (.int .i64 ((rd_TimplLoan l1 x5_1).f0.f1)) ∧ w'.cell? ⟨(ad540.add ((x5_1).toNat * 7)).block, (ad540.add ((x5_1).toNat * 7)).off + 2, none⟩ = some (.int .i64 ((rd_TimplLoan l1 x5_1).f0.f2)) ∧ w'.cell? ⟨(ad540.add ((x5_1).toNat * 7)).block, (ad540.add ((x5_1).toNat * 7)).off + 3, none⟩ = some (.int .i64 ((rd_TimplLoan l1 x5_1).f0.f3)) ∧ w'.cell? ⟨(ad540.add ((x5_1).toNat * 7)).block, (ad540.add ((x5_1).toNat * 7)).off + 4, none⟩ = some (.bool ((rd_TimplLoan l1 x5_1).f1)) ∧ w'.cell? ⟨(ad540.add ((x5_1).toNat * 7)).block, (ad540.add ((x5_1).toNat * 7)).off + 5, none⟩ = some (.int .i64 ((rd_TimplLoan l1 x5_1).f2)) ∧ w'.cell? ⟨(ad540.add ((x5_1).toNat * 7)).block, (ad540.add ((x5_1).toNat * 7)).off + 6, none⟩ = some (.int .i64 ((rd_TimplLoan l1 x5_1).f3))) (ds := []) #[false, false, false, false, false, false, false] (by kernel_rfl) rfl rfl ⟨(blk_cell BK539.out 0).trans rfl, (by have h_ := ((HB.out.cell (World.block_lt_of_cell? w _ hw540_0)).trans hw540_0); first | exact h_ | (simp only [*] at h_; exact h_) | simpa [*] using h_), (by have h_ := ((HB.out.cell (World.block_lt_of_cell? w _ hw540_1)).trans hw540_1); first | exact h_ | (simp only [*] at h_; exact h_) | simpa [*] using h_), (by have h_ := ((HB.out.cell (World.block_lt_of_cell? w _ hw540_2)).trans hw540_2); first | exact h_ | (simp only [*] at h_; exact h_) | simpa [*] using h_), (by have h_ := ((HB.out.cell (World.block_lt_of_cell? w _ hw540_3)).trans hw540_3); first | exact h_ | (simp only [*] at h_; exact h_) | simpa [*] using h_), (by have h_ := ((HB.out.cell (World.block_lt_of_cell? w _ hw540_4)).trans hw540_4); first | exact h_ | (simp only [*] at h_; exact h_) | simpa [*] using h_), (by have h_ := ((HB.out.cell (World.block_lt_of_cell? w _ hw540_5)).trans hw540_5); first | exact h_ | (simp only [*] at h_; exact h_) | simpa [*] using h_), (by have h_ := ((HB.out.cell (World.block_lt_of_cell? w _ hw540_6)).trans hw540_6); first | exact h_ | (simp only [*] at h_; exact h_) | simpa [*] using h_)⟩ (fun hHeld => ?_)
                  generalize wc.drew = w13 at BK539 HB hx540_0 hx540_1 hx540_2 hx540_3 hx540_4 hx540_5 hx540_6 hHeld ⊢
                  refine pure_ (i := 1) (N := some 17) (v := ?_) (a' := ?_) #[false, true, false, false, false, false, false] rfl rfl (by kernel_rfl) (fun _ _ _ h => h) (Or.inl ⟨by rfl, ?_⟩) ?_ ?_
                  rotate_left
                  · intro w'
                    go_simp
                    with_reducible rfl
                  rotate_left
                  · simp only [Act.put, List.setIfInBounds_toArray, List.set_cons_zero, List.set_cons_succ, i64_w, i32_w]
                    rfl
                  refine pure_ (i := 2) (N := some 18) (v := ?_) (a' := ?_) #[false, true, true, false, false, false, false] rfl rfl (by kernel_rfl) (fun _ _ _ h => h) (Or.inl ⟨by rfl, ?_⟩) ?_ ?_
                  rotate_left
                  · intro w'
                    go_simp
                    with_reducible rfl
                  rotate_left
                  · simp only [Act.put, List.setIfInBounds_toArray, List.set_cons_zero, List.set_cons_succ, i64_w, i32_w]
                    rfl
                  refine pure_ (i := 3) (N := some 19) (v := ?_) (a' := ?_) #[false, true, true, true, false, false, false] rfl rfl (by kernel_rfl) (fun _ _ _ h => h) (Or.inl ⟨by rfl, ?_⟩) ?_ ?_
                  rotate_left
                  · intro w'
                    go_simp
                    with_reducible rfl
                  rotate_left
                  · simp only [Act.put, List.setIfInBounds_toArray, List.set_cons_zero, List.set_cons_succ, i64_w, i32_w]
                    rfl
                  refine take_ (i := 0) (N := some 16) (v := ?_) (a' := ?_) #[true, true, true, true, false, false, false] rfl rfl (by kernel_rfl) (fun _ _ _ h => h) (Or.inl ⟨by rfl, ?_⟩) hHeld ?_ ?_
                  rotate_left
                  · rintro w' ⟨s0, s1, s2, s3, s4, s5, s6, s7⟩
                    go_simp
                    with_reducible rfl
                  rotate_left
                  · simp only [Act.put, List.setIfInBounds_toArray, List.set_cons_zero, List.set_cons_succ, i64_w, i32_w]
                    rfl
                  refine take_ (i := 4) (N := some 20) (v := ?_) (a' := ?_) #[true, true, true, true, true, false, false] rfl rfl (by kernel_rfl) (fun _ _ _ h => h) (Or.inl ⟨by rfl, ?_⟩) hHeld ?_ ?_
                  rotate_left
                  · rintro w' ⟨s0, s1, s2, s3, s4, s5, s6, s7⟩
                    go_simp
                    with_reducible rfl
                  rotate_left
                  · simp only [Act.put, List.setIfInBounds_toArray, List.set_cons_zero, List.set_cons_succ, i64_w, i32_w]
                    rfl
                  refine one_ (i := 5) (N := some 21) #[true, true, true, true, true, true, false] rfl rfl (by kernel_rfl) (by decide) (fun K hK => ?_)
                  refine goes_ Try.func70 (by kernel_rfl) rfl #[.agg #[.slice A0_0 l0_0.length c0_0], .agg #[.int .i64 ((rd_TimplLoan l1 x5_1).f0.f0), .int .i64 ((rd_TimplLoan l1 x5_1).f0.f1), .int .i64 ((rd_TimplLoan l1 x5_1).f0.f2), .int .i64 ((rd_TimplLoan l1 x5_1).f0.f3), .bool ((rd_TimplLoan l1 x5_1).f1), .int .i64 ((rd_TimplLoan l1 x5_1).f2), .int .i64 ((rd_TimplLoan l1 x5_1).f3)]] (by rfl) rfl rfl (by (try simp only [List.map_toArray, List.map_cons, List.map_nil]); first | done | rfl | (simp only [List.length_drop, List.length_take]; rfl)) ?_
                  with_reducible refine (spec_l10Loan.calls kj3 _ _ l0_0 ((rd_TimplLoan l1 x5_1).f0.f0) ((rd_TimplLoan l1 x5_1).f0.f1) ((rd_TimplLoan l1 x5_1).f0.f2) ((rd_TimplLoan l1 x5_1).f0.f3) ((rd_TimplLoan l1 x5_1).f1) ((rd_TimplLoan l1 x5_1).f2) ((rd_TimplLoan l1 x5_1).f3) false _ ?side1 ?side2 A9.out).mono ?_
                  (case side1 => repeat (first | exact (Kd.C_below HR0_0.out HB.out) | (with_reducible refine Kd.C_alloc ?_ _) | (with_reducible refine Kd.C_drewN ?_ _) | (with_reducible refine Kd.C_drew ?_)))
                  (case side2 => exact HC0_0.out)
                  rintro e w14 ⟨rfl, hb⟩
                  refine ⟨_, rfl, ?_⟩
                  have n0_ := Aside0.mk (blk_below (g := gb539) (o := .cells #[.slice A0_0 l0_0.length c0_0] 26 (0, 0)) (by (with_reducible repeat (first | refine blk_drewN ?_ _ | refine blk_drew ?_ | refine blk_alloc ?_ _)); exact BK539.out) hb)
                  have n1_ := Aside0.mk (below_step (by repeat (first | (with_reducible first | exact HB.out | apply below_alloc | apply pw_below_drewN | apply below_drew1 | refine below_set ?_ GE539.out) | exact HB.out)) hb)
                  clear BK539
                  clear HB
                  have BK539 := n0_
                  have HB := n1_
                  clear n0_ n1_
                  (try clear hb)
                  (try clear hb2)
                  (try clear hk)
                  (try clear hi)
                  refine hK.out _ _ ⟨(blk_cell BK539.out 0).trans rfl, (by have h_ := ((HB.out.cell (World.block_lt_of_cell? w _ hw540_0)).trans hw540_0); first | exact h_ | (simp only [*] at h_; exact h_) | simpa [*] using h_), (by have h_ := ((HB.out.cell (World.block_lt_of_cell? w _ hw540_1)).trans hw540_1); first | exact h_ | (simp only [*] at h_; exact h_) | simpa [*] using h_), (by have h_ := ((HB.out.cell (World.block_lt_of_cell? w _ hw540_2)).trans hw540_2); first | exact h_ | (simp only [*] at h_; exact h_) | simpa [*] using h_), (by have h_ := ((HB.out.cell (World.block_lt_of_cell? w _ hw540_3)).trans hw540_3); first | exact h_ | (simp only [*] at h_; exact h_) | simpa [*] using h_), (by have h_ := ((HB.out.cell (World.block_lt_of_cell? w _ hw540_4)).trans hw540_4); first | exact h_ | (simp only [*] at h_; exact h_) | simpa [*] using h_), (by have h_ := ((HB.out.cell (World.block_lt_of_cell? w _ hw540_5)).trans hw540_5); first | exact h_ | (simp only [*] at h_; exact h_) | simpa [*] using h_), (by have h_ := ((HB.out.cell (World.block_lt_of_cell? w _ hw540_6)).trans hw540_6); first | exact h_ | (simp only [*] at h_; exact h_) | simpa [*] using h_)⟩ (fun hHeld => ?_)
                  clear hK K
                  refine norm_ (a' := ?_) ?_ ?_
                  rotate_left
                  · show Act.put _ (some 21) _ = _
                    simp only [Act.put, List.setIfInBounds_toArray, List.set_cons_zero, List.set_cons_succ, i64_w, i32_w]
                    rfl
                  refine pure_ (i := 6) (N := some 22) (v := ?_) (a' := ?_) #[true, true, true, true, true, true, true] rfl rfl (by kernel_rfl) (fun _ _ _ h => h) (Or.inl ⟨by rfl, ?_⟩) ?_ ?_
                  rotate_left
                  · intro w'
                    go_simp
                    with_reducible rfl
                  rotate_left
                  · simp only [Act.put, List.setIfInBounds_toArray, List.set_cons_zero, List.set_cons_succ, i64_w, i32_w]
                    rfl
                  refine done_ (by kernel_rfl) ?_
                  try go_wp2
                  go_ret
                  exact ⟨by first | rfl | (simp [errW_none, errW_some] <;> rfl) | (simp [*, errW_none, errW_some] <;> rfl), by repeat (first | (with_reducible first | exact HB.out | apply below_alloc | apply pw_below_drewN | apply below_drew1 | refine below_set ?_ GE539.out) | exact HB.out)⟩
              · rw [if_neg c8] at H
                exact absurd H (by simp)
            · rw [if_neg c7] at H
              exact absurd H (by simp)
          · replace c6 := Bool.eq_false_iff.mpr c6
            subst c6
            have H1 : ((spec_l2Memory.f kj3 l0_0).bind fun t542 => (if t542 = true then (some (decide ((l1.length : Int) ≤ 8))) else (some false))) = some r := by rw [if_neg (show ¬ (false = true) by decide)] at H; exact H
            clear H
            have H := H1
            clear H1
            replace H := Option.bind_eq_some_iff.mp H
            obtain ⟨t542, A150, H⟩ := H
            replace H : (if t542 = true then (some (decide ((l1.length : Int) ≤ 8))) else (some false)) = some r := H
            have A15 := Aside0.mk A150
            clear A150
            by_cases c16 : t542 = true
            · subst c16
              have H1 : (some (decide ((l1.length : Int) ≤ 8))) = some r := by rw [if_pos rfl] at H; exact H
              clear H
              have H := H1
              clear H1
              obtain rfl := Option.some.inj H
              have hcz17_0 : wc.cell? ⟨gb539, 0, none⟩ = some (.slice A0_0 l0_0.length c0_0) := (blk_cell BK539.out 0).trans rfl
              have hfz17_0 := blk_frozen BK539.out 0
              go_wp2_with (first | ((with_reducible refine gate_callee (f := 119) rfl ?_); refine goesL_ (some 24) rfl rfl Try.func119 (by kernel_rfl) rfl #[.agg #[.slice A0_0 l0_0.length c0_0]] rfl (by (try simp only [List.map_toArray, List.map_cons, List.map_nil]); first | done | rfl | (simp only [List.length_drop, List.length_take]; rfl)) ?_; (with_reducible refine (spec_l2Memory.calls kj3 _ _ l0_0 true _ ?side1 ?side2 A15.out).mono ?_); (case side1 => repeat (first | exact (Kd.C_below HR0_0.out HB.out) | (with_reducible refine Kd.C_alloc ?_ _) | (with_reducible refine Kd.C_drewN ?_ _) | (with_reducible refine Kd.C_drew ?_))); (case side2 => exact HC0_0.out); rintro e w18 ⟨rfl, hb⟩; refine ⟨_, rfl, ?_⟩; have n0_ := Aside0.mk (blk_below (g := gb539) (o := .cells #[.slice A0_0 l0_0.length c0_0] 26 (0, 0)) (by (with_reducible repeat (first | refine blk_drewN ?_ _ | refine blk_drew ?_ | refine blk_alloc ?_ _)); exact BK539.out) hb); have n1_ := Aside0.mk (below_step (by repeat (first | (with_reducible first | exact HB.out | apply below_alloc | apply pw_below_drewN | apply below_drew1 | refine below_set ?_ GE539.out) | exact HB.out)) hb); clear BK539; clear HB; have BK539 := n0_; have HB := n1_; clear n0_ n1_; (try clear hb); (try clear hb2); (try clear hk); (try clear hi)))
              go_ret
              exact ⟨by first | rfl | (simp [errW_none, errW_some] <;> rfl) | (simp [*, errW_none, errW_some] <;> rfl), by repeat (first | (with_reducible first | exact HB.out | apply below_alloc | apply pw_below_drewN | apply below_drew1 | refine below_set ?_ GE539.out) | exact HB.out)⟩
            · replace c16 := Bool.eq_false_iff.mpr c16
              subst c16
              have H1 : (some false) = some r := by rw [if_neg (show ¬ (false = true) by decide)] at H; exact H
              clear H
              have H := H1
              clear H1
              obtain rfl := Option.some.inj H
              have hcz19_0 : wc.cell? ⟨gb539, 0, none⟩ = some (.slice A0_0 l0_0.length c0_0) := (blk_cell BK539.out 0).trans rfl
              have hfz19_0 := blk_frozen BK539.out 0
              go_wp2_with (first | ((with_reducible refine gate_callee (f := 119) rfl ?_); refine goesL_ (some 24) rfl rfl Try.func119 (by kernel_rfl) rfl #[.agg #[.slice A0_0 l0_0.length c0_0]] rfl (by (try simp only [List.map_toArray, List.map_cons, List.map_nil]); first | done | rfl | (simp only [List.length_drop, List.length_take]; rfl)) ?_; (with_reducible refine (spec_l2Memory.calls kj3 _ _ l0_0 false _ ?side1 ?side2 A15.out).mono ?_); (case side1 => repeat (first | exact (Kd.C_below HR0_0.out HB.out) | (with_reducible refine Kd.C_alloc ?_ _) | (with_reducible refine Kd.C_drewN ?_ _) | (with_reducible refine Kd.C_drew ?_))); (case side2 => exact HC0_0.out); rintro e w20 ⟨rfl, hb⟩; refine ⟨_, rfl, ?_⟩; have n0_ := Aside0.mk (blk_below (g := gb539) (o := .cells #[.slice A0_0 l0_0.length c0_0] 26 (0, 0)) (by (with_reducible repeat (first | refine blk_drewN ?_ _ | refine blk_drew ?_ | refine blk_alloc ?_ _)); exact BK539.out) hb); have n1_ := Aside0.mk (below_step (by repeat (first | (with_reducible first | exact HB.out | apply below_alloc | apply pw_below_drewN | apply below_drew1 | refine below_set ?_ GE539.out) | exact HB.out)) hb); clear BK539; clear HB; have BK539 := n0_; have HB := n1_; clear n0_ n1_; (try clear hb); (try clear hb2); (try clear hk); (try clear hi)))
              go_ret
              exact ⟨by first | rfl | (simp [errW_none, errW_some] <;> rfl) | (simp [*, errW_none, errW_some] <;> rfl), by repeat (first | (with_reducible first | exact HB.out | apply below_alloc | apply pw_below_drewN | apply below_drew1 | refine below_set ?_ GE539.out) | exact HB.out)⟩

end Go.Proofs.Ytpbboooeahmgpaa.P


namespace Go.Proofs.Ytpbboooeahmgpaa.P
open Go.RowKit Go.Proofs.YtpbboooeahmgpaaW.PrintWords Go.Proofs.YtpbboooeahmgpaaW.PrintLast Go.Proofs.YtpbboooeahmgpaaW.PrintMore
attribute [local go_sem] max2_int min2_int max_two min_two max_three min_three max_four min_four   -- for this text's walks alone
set_option linter.unusedVariables false
set_option linter.unusedSimpArgs false

/-! ### spec_l1Most: function 99 -/
def spec_l1Most.f (a0 : Int) (a1 : Int) : Option (Int) := if a0 > a1 then (some a0) else (some a1)
set_option maxHeartbeats 8000000 in
set_option maxRecDepth 100000 in
theorem spec_l1Most.calls (a0 : Int) (a1 : Int) (r : Int) (w : World) (h : spec_l1Most.f a0 a1 = some r) :
    Calls Try.prog 99 #[.int .i64 a0, .int .i64 a1] w fun e w' => e = .returned (.int .i64 r) ∧ Drawn0 w w' := by
  have H : (if a0 > a1 then (some a0) else (some a1)) = some r := h
  clear h
  by_cases c3 : a0 > a1
  · rw [if_pos c3] at H
    have c3b0 : decide (a1 < a0) = true := decide_eq_true c3
    clear c3
    obtain rfl := Option.some.inj H
    go_enter Try.func99, Try.ntmps99
    go_wp2
    go_ret
    exact ⟨by first | rfl | (simp; done) | (simp [*]; done), by repeat (first | exact Drawn0.refl _ | apply Drawn0.step)⟩
  · rw [if_neg c3] at H
    have c3b0 : decide (a1 < a0) = false := decide_eq_false c3
    clear c3
    obtain rfl := Option.some.inj H
    go_enter Try.func99, Try.ntmps99
    go_wp2
    go_ret
    exact ⟨by first | rfl | (simp; done) | (simp [*]; done), by repeat (first | exact Drawn0.refl _ | apply Drawn0.step)⟩

end Go.Proofs.Ytpbboooeahmgpaa.P


namespace Go.Proofs.Ytpbboooeahmgpaa.P
open Go.RowKit Go.Proofs.YtpbboooeahmgpaaW.PrintWords Go.Proofs.YtpbboooeahmgpaaW.PrintLast Go.Proofs.YtpbboooeahmgpaaW.PrintMore
attribute [local go_sem] max2_int min2_int max_two min_two max_three min_three max_four min_four   -- for this text's walks alone
set_option linter.unusedVariables false
set_option linter.unusedSimpArgs false

/-! ### spec_l1Least: function 109 -/
def spec_l1Least.f (a0 : Int) (a1 : Int) : Option (Int) := if a0 < a1 then (some a0) else (some a1)
set_option maxHeartbeats 8000000 in
set_option maxRecDepth 100000 in
theorem spec_l1Least.calls (a0 : Int) (a1 : Int) (r : Int) (w : World) (h : spec_l1Least.f a0 a1 = some r) :
    Calls Try.prog 109 #[.int .i64 a0, .int .i64 a1] w fun e w' => e = .returned (.int .i64 r) ∧ Drawn0 w w' := by
  have H : (if a0 < a1 then (some a0) else (some a1)) = some r := h
  clear h
  by_cases c3 : a0 < a1
  · rw [if_pos c3] at H
    have c3b0 : decide (a0 < a1) = true := decide_eq_true c3
    clear c3
    obtain rfl := Option.some.inj H
    go_enter Try.func109, Try.ntmps109
    go_wp2
    go_ret
    exact ⟨by first | rfl | (simp; done) | (simp [*]; done), by repeat (first | exact Drawn0.refl _ | apply Drawn0.step)⟩
  · rw [if_neg c3] at H
    have c3b0 : decide (a0 < a1) = false := decide_eq_false c3
    clear c3
    obtain rfl := Option.some.inj H
    go_enter Try.func109, Try.ntmps109
    go_wp2
    go_ret
    exact ⟨by first | rfl | (simp; done) | (simp [*]; done), by repeat (first | exact Drawn0.refl _ | apply Drawn0.step)⟩

end Go.Proofs.Ytpbboooeahmgpaa.P


namespace Go.Proofs.Ytpbboooeahmgpaa.P
open Go.RowKit Go.Proofs.YtpbboooeahmgpaaW.PrintWords Go.Proofs.YtpbboooeahmgpaaW.PrintLast Go.Proofs.YtpbboooeahmgpaaW.PrintMore
attribute [local go_sem] max2_int min2_int max_two min_two max_three min_three max_four min_four   -- for this text's walks alone
set_option linter.unusedVariables false
set_option linter.unusedSimpArgs false

/-! ### spec_l2Overlap: function 125 -/
def spec_l2Overlap.f (a0_0 : Int) (a0_1 : Int) (a0_2 : Int) (a0_3 : Int) (a1_0 : Int) (a1_1 : Int) (a1_2 : Int) (a1_3 : Int) : Option (Int) := if a0_0 = a1_0 then ((spec_l1Least.f (wrap64 (a0_1 + a0_2)) (wrap64 (a1_1 + a1_2))).bind fun t545 => ((spec_l1Most.f a0_1 a1_1).bind fun t546 => ((spec_l1Most.f 0 (wrap64 (t545 - t546))).bind fun t547 => (some t547)))) else (some 0)
set_option maxHeartbeats 8000000 in
set_option maxRecDepth 100000 in
theorem spec_l2Overlap.calls (a0_0 : Int) (a0_1 : Int) (a0_2 : Int) (a0_3 : Int) (a1_0 : Int) (a1_1 : Int) (a1_2 : Int) (a1_3 : Int) (r : Int) (w : World) (h : spec_l2Overlap.f a0_0 a0_1 a0_2 a0_3 a1_0 a1_1 a1_2 a1_3 = some r) :
    Calls Try.prog 125 #[.agg #[.int .i64 a0_0, .int .i64 a0_1, .int .i64 a0_2, .int .i64 a0_3], .agg #[.int .i64 a1_0, .int .i64 a1_1, .int .i64 a1_2, .int .i64 a1_3]] w fun e w' => e = .returned (.int .i64 r) ∧ Below w.heap.size w w' := by
  have hu28 := Try.underlying28
  have HB := Aside0.mk (Below.refl w.heap.size w)
  have H : (if a0_0 = a1_0 then ((spec_l1Least.f (wrap64 (a0_1 + a0_2)) (wrap64 (a1_1 + a1_2))).bind fun t545 => ((spec_l1Most.f a0_1 a1_1).bind fun t546 => ((spec_l1Most.f 0 (wrap64 (t545 - t546))).bind fun t547 => (some t547)))) else (some 0)) = some r := h
  clear h
  by_cases c3 : a0_0 = a1_0
  · rw [if_pos c3] at H
    have c3b0 : (a0_0 == a1_0) = true := beq_iff_eq.mpr c3
    have c3b1 : (a0_0 != a1_0) = false := bne_eq_false_iff_eq.mpr c3
    clear c3
    replace H := Option.bind_eq_some_iff.mp H
    obtain ⟨t545, A40, H⟩ := H
    replace H : ((spec_l1Most.f a0_1 a1_1).bind fun t546 => ((spec_l1Most.f 0 (wrap64 (t545 - t546))).bind fun t547 => (some t547))) = some r := H
    have A4 := Aside0.mk A40
    clear A40
    replace H := Option.bind_eq_some_iff.mp H
    obtain ⟨t546, A50, H⟩ := H
    replace H : ((spec_l1Most.f 0 (wrap64 (t545 - t546))).bind fun t547 => (some t547)) = some r := H
    have A5 := Aside0.mk A50
    clear A50
    replace H := Option.bind_eq_some_iff.mp H
    obtain ⟨t547, A60, H⟩ := H
    replace H : (some t547) = some r := H
    have A6 := Aside0.mk A60
    clear A60
    obtain rfl := Option.some.inj H
    go_enter Try.func125, Try.ntmps125
    go_wp2_with (first | ((with_reducible refine gate_dst (N := 2) rfl ?_); refine box_event ?hg (N := 2) ?hd (cs := #[.int .i64 a0_0, .int .i64 a0_1, .int .i64 a0_2, .int .i64 a0_3]) (t := 28) ?hr ?_; (case hd => rfl); (case hg => rfl); (case hr => first | (go_simp; done) | (go_simp; rfl)); intro gb543 hg w7 hbox hb; have n0_ := Aside0.mk (below_step (by repeat (first | (with_reducible first | exact HB.out | apply below_alloc | apply pw_below_drewN | apply below_drew1) | exact HB.out)) hb); have n1_ := Aside0.mk (hbox); have n2_ := Aside0.mk ((by rw [hg]; exact (below_size (by repeat (first | (with_reducible first | exact HB.out | apply below_alloc | apply pw_below_drewN | apply below_drew1) | exact HB.out))) : w.heap.size ≤ gb543)); have n3_ := Aside0.mk ((by rw [hg]; exact (below_size (by repeat (first | (with_reducible first | exact HB.out | apply below_alloc | apply pw_below_drewN | apply below_drew1) | exact HB.out))) : w.heap.size ≤ gb543)); clear HB; have HB := n0_; have BK543 := n1_; have GW543 := n2_; have GE543 := n3_; clear n0_ n1_ n2_ n3_; clear hb hbox hg) | ((with_reducible refine gate_dst (N := 3) rfl ?_); refine box_event ?hg (N := 3) ?hd (cs := #[.int .i64 a1_0, .int .i64 a1_1, .int .i64 a1_2, .int .i64 a1_3]) (t := 28) ?hr ?_; (case hd => rfl); (case hg => rfl); (case hr => first | (go_simp; done) | (go_simp; rfl)); intro gb544 hg w8 hbox hb; have n0_ := Aside0.mk (blk_below (g := gb543) (o := .cells #[.int .i64 a0_0, .int .i64 a0_1, .int .i64 a0_2, .int .i64 a0_3] 28 (0, 0)) (by (with_reducible repeat (first | refine blk_drewN ?_ _ | refine blk_drew ?_ | refine blk_alloc ?_ _)); exact BK543.out) hb); have n1_ := Aside0.mk (below_step (by repeat (first | (with_reducible first | exact HB.out | apply below_alloc | apply pw_below_drewN | apply below_drew1 | refine below_set ?_ GE543.out) | exact HB.out)) hb); have n2_ := Aside0.mk (hbox); have n3_ := Aside0.mk ((by rw [hg]; exact (below_size (by repeat (first | (with_reducible first | exact HB.out | apply below_alloc | apply pw_below_drewN | apply below_drew1 | refine below_set ?_ GE543.out) | exact HB.out))) : w.heap.size ≤ gb544)); have n4_ := Aside0.mk ((by rw [hg]; exact (below_size (by repeat (first | (with_reducible first | exact HB.out | apply below_alloc | apply pw_below_drewN | apply below_drew1 | refine below_set ?_ GE543.out) | exact HB.out))) : w.heap.size ≤ gb544)); have n5_ := Aside0.mk ((by rw [hg]; exact Nat.ne_of_lt (blk_lt (g := gb543) (o := .cells #[.int .i64 a0_0, .int .i64 a0_1, .int .i64 a0_2, .int .i64 a0_3] 28 (0, 0)) (by (with_reducible repeat (first | refine blk_drewN ?_ _ | refine blk_drew ?_ | refine blk_alloc ?_ _)); exact BK543.out)) : gb543 ≠ gb544)); have n6_ := Aside0.mk ((by rw [hg]; exact Nat.ne_of_gt (blk_lt (g := gb543) (o := .cells #[.int .i64 a0_0, .int .i64 a0_1, .int .i64 a0_2, .int .i64 a0_3] 28 (0, 0)) (by (with_reducible repeat (first | refine blk_drewN ?_ _ | refine blk_drew ?_ | refine blk_alloc ?_ _)); exact BK543.out)) : gb544 ≠ gb543)); clear BK543; clear HB; have BK543 := n0_; have HB := n1_; have BK544 := n2_; have GW544 := n3_; have GE544 := n4_; have NB543_544 := n5_; have NB544_543 := n6_; clear n0_ n1_ n2_ n3_ n4_ n5_ n6_; clear hb hbox hg; have hnb9 := NB543_544.out; have hnc9 := NB544_543.out; have hcz10_0 : w8.cell? ⟨gb543, 0, none⟩ = some (.int .i64 a0_0) := (blk_cell BK543.out 0).trans rfl; have hcz10_1 : w8.cell? ⟨gb543, 1, none⟩ = some (.int .i64 a0_1) := (blk_cell BK543.out 1).trans rfl; have hcz10_2 : w8.cell? ⟨gb543, 2, none⟩ = some (.int .i64 a0_2) := (blk_cell BK543.out 2).trans rfl; have hcz10_3 : w8.cell? ⟨gb543, 3, none⟩ = some (.int .i64 a0_3) := (blk_cell BK543.out 3).trans rfl; have hfz10_0 := blk_frozen BK543.out 0; have hfz10_1 := blk_frozen BK543.out 1; have hfz10_2 := blk_frozen BK543.out 2; have hfz10_3 := blk_frozen BK543.out 3; have hcz11_0 : w8.cell? ⟨gb544, 0, none⟩ = some (.int .i64 a1_0) := (blk_cell BK544.out 0).trans rfl; have hcz11_1 : w8.cell? ⟨gb544, 1, none⟩ = some (.int .i64 a1_1) := (blk_cell BK544.out 1).trans rfl; have hcz11_2 : w8.cell? ⟨gb544, 2, none⟩ = some (.int .i64 a1_2) := (blk_cell BK544.out 2).trans rfl; have hcz11_3 : w8.cell? ⟨gb544, 3, none⟩ = some (.int .i64 a1_3) := (blk_cell BK544.out 3).trans rfl; have hfz11_0 := blk_frozen BK544.out 0; have hfz11_1 := blk_frozen BK544.out 1; have hfz11_2 := blk_frozen BK544.out 2; have hfz11_3 := blk_frozen BK544.out 3) | (go_at_call 109; (with_reducible refine (spec_l1Least.calls (wrap64 (a0_1 + a0_2)) (wrap64 (a1_1 + a1_2)) t545 _ A4.out).mono ?_); rintro e w' ⟨rfl, ⟨nd, rfl⟩⟩; (try first | exact ⟨rfl, _, World.drewN_drewN _ _ _⟩ | exact ⟨rfl, _, Eq.trans (World.drewN_drewN _ _ _) (congrArg (World.drewN _) (Nat.add_assoc _ _ _))⟩)) | (go_at_call 99; (with_reducible refine (spec_l1Most.calls a0_1 a1_1 t546 _ A5.out).mono ?_); rintro e w' ⟨rfl, ⟨nd, rfl⟩⟩; (try first | exact ⟨rfl, _, World.drewN_drewN _ _ _⟩ | exact ⟨rfl, _, Eq.trans (World.drewN_drewN _ _ _) (congrArg (World.drewN _) (Nat.add_assoc _ _ _))⟩)) | (go_at_call 99; (with_reducible refine (spec_l1Most.calls 0 (wrap64 (t545 - t546)) t547 _ A6.out).mono ?_); rintro e w' ⟨rfl, ⟨nd, rfl⟩⟩; (try first | exact ⟨rfl, _, World.drewN_drewN _ _ _⟩ | exact ⟨rfl, _, Eq.trans (World.drewN_drewN _ _ _) (congrArg (World.drewN _) (Nat.add_assoc _ _ _))⟩)))
    repeat (go_quiet (first | ((with_reducible refine gate_dst (N := 2) rfl ?_); refine box_event ?hg (N := 2) ?hd (cs := #[.int .i64 a0_0, .int .i64 a0_1, .int .i64 a0_2, .int .i64 a0_3]) (t := 28) ?hr ?_; (case hd => rfl); (case hg => rfl); (case hr => first | (go_simp; done) | (go_simp; rfl)); intro gb543 hg w7 hbox hb; have n0_ := Aside0.mk (below_step (by repeat (first | (with_reducible first | exact HB.out | apply below_alloc | apply pw_below_drewN | apply below_drew1) | exact HB.out)) hb); have n1_ := Aside0.mk (hbox); have n2_ := Aside0.mk ((by rw [hg]; exact (below_size (by repeat (first | (with_reducible first | exact HB.out | apply below_alloc | apply pw_below_drewN | apply below_drew1) | exact HB.out))) : w.heap.size ≤ gb543)); have n3_ := Aside0.mk ((by rw [hg]; exact (below_size (by repeat (first | (with_reducible first | exact HB.out | apply below_alloc | apply pw_below_drewN | apply below_drew1) | exact HB.out))) : w.heap.size ≤ gb543)); clear HB; have HB := n0_; have BK543 := n1_; have GW543 := n2_; have GE543 := n3_; clear n0_ n1_ n2_ n3_; clear hb hbox hg) | ((with_reducible refine gate_dst (N := 3) rfl ?_); refine box_event ?hg (N := 3) ?hd (cs := #[.int .i64 a1_0, .int .i64 a1_1, .int .i64 a1_2, .int .i64 a1_3]) (t := 28) ?hr ?_; (case hd => rfl); (case hg => rfl); (case hr => first | (go_simp; done) | (go_simp; rfl)); intro gb544 hg w8 hbox hb; have n0_ := Aside0.mk (blk_below (g := gb543) (o := .cells #[.int .i64 a0_0, .int .i64 a0_1, .int .i64 a0_2, .int .i64 a0_3] 28 (0, 0)) (by (with_reducible repeat (first | refine blk_drewN ?_ _ | refine blk_drew ?_ | refine blk_alloc ?_ _)); exact BK543.out) hb); have n1_ := Aside0.mk (below_step (by repeat (first | (with_reducible first | exact HB.out | apply below_alloc | apply pw_below_drewN | apply below_drew1 | refine below_set ?_ GE543.out) | exact HB.out)) hb); have n2_ := Aside0.mk (hbox); have n3_ := Aside0.mk ((by rw [hg]; exact (below_size (by repeat (first | (with_reducible first | exact HB.out | apply below_alloc | apply pw_below_drewN | apply below_drew1 | refine below_set ?_ GE543.out) | exact HB.out))) : w.heap.size ≤ gb544)); have n4_ := Aside0.mk ((by rw [hg]; exact (below_size (by repeat (first | (with_reducible first | exact HB.out | apply below_alloc | apply pw_below_drewN | apply below_drew1 | refine below_set ?_ GE543.out) | exact HB.out))) : w.heap.size ≤ gb544)); have n5_ := Aside0.mk ((by rw [hg]; exact Nat.ne_of_lt (blk_lt (g := gb543) (o := .cells #[.int .i64 a0_0, .int .i64 a0_1, .int .i64 a0_2, .int .i64 a0_3] 28 (0, 0)) (by (with_reducible repeat (first | refine blk_drewN ?_ _ | refine blk_drew ?_ | refine blk_alloc ?_ _)); exact BK543.out)) : gb543 ≠ gb544)); have n6_ := Aside0.mk ((by rw [hg]; exact Nat.ne_of_gt (blk_lt (g := gb543) (o := .cells #[.int .i64 a0_0, .int .i64 a0_1, .int .i64 a0_2, .int .i64 a0_3] 28 (0, 0)) (by (with_reducible repeat (first | refine blk_drewN ?_ _ | refine blk_drew ?_ | refine blk_alloc ?_ _)); exact BK543.out)) : gb544 ≠ gb543)); clear BK543; clear HB; have BK543 := n0_; have HB := n1_; have BK544 := n2_; have GW544 := n3_; have GE544 := n4_; have NB543_544 := n5_; have NB544_543 := n6_; clear n0_ n1_ n2_ n3_ n4_ n5_ n6_; clear hb hbox hg; have hnb9 := NB543_544.out; have hnc9 := NB544_543.out; have hcz10_0 : w8.cell? ⟨gb543, 0, none⟩ = some (.int .i64 a0_0) := (blk_cell BK543.out 0).trans rfl; have hcz10_1 : w8.cell? ⟨gb543, 1, none⟩ = some (.int .i64 a0_1) := (blk_cell BK543.out 1).trans rfl; have hcz10_2 : w8.cell? ⟨gb543, 2, none⟩ = some (.int .i64 a0_2) := (blk_cell BK543.out 2).trans rfl; have hcz10_3 : w8.cell? ⟨gb543, 3, none⟩ = some (.int .i64 a0_3) := (blk_cell BK543.out 3).trans rfl; have hfz10_0 := blk_frozen BK543.out 0; have hfz10_1 := blk_frozen BK543.out 1; have hfz10_2 := blk_frozen BK543.out 2; have hfz10_3 := blk_frozen BK543.out 3; have hcz11_0 : w8.cell? ⟨gb544, 0, none⟩ = some (.int .i64 a1_0) := (blk_cell BK544.out 0).trans rfl; have hcz11_1 : w8.cell? ⟨gb544, 1, none⟩ = some (.int .i64 a1_1) := (blk_cell BK544.out 1).trans rfl; have hcz11_2 : w8.cell? ⟨gb544, 2, none⟩ = some (.int .i64 a1_2) := (blk_cell BK544.out 2).trans rfl; have hcz11_3 : w8.cell? ⟨gb544, 3, none⟩ = some (.int .i64 a1_3) := (blk_cell BK544.out 3).trans rfl; have hfz11_0 := blk_frozen BK544.out 0; have hfz11_1 := blk_frozen BK544.out 1; have hfz11_2 := blk_frozen BK544.out 2; have hfz11_3 := blk_frozen BK544.out 3) | (go_at_call 109; (with_reducible refine (spec_l1Least.calls (wrap64 (a0_1 + a0_2)) (wrap64 (a1_1 + a1_2)) t545 _ A4.out).mono ?_); rintro e w' ⟨rfl, ⟨nd, rfl⟩⟩; (try first | exact ⟨rfl, _, World.drewN_drewN _ _ _⟩ | exact ⟨rfl, _, Eq.trans (World.drewN_drewN _ _ _) (congrArg (World.drewN _) (Nat.add_assoc _ _ _))⟩)) | (go_at_call 99; (with_reducible refine (spec_l1Most.calls a0_1 a1_1 t546 _ A5.out).mono ?_); rintro e w' ⟨rfl, ⟨nd, rfl⟩⟩; (try first | exact ⟨rfl, _, World.drewN_drewN _ _ _⟩ | exact ⟨rfl, _, Eq.trans (World.drewN_drewN _ _ _) (congrArg (World.drewN _) (Nat.add_assoc _ _ _))⟩)) | (go_at_call 99; (with_reducible refine (spec_l1Most.calls 0 (wrap64 (t545 - t546)) t547 _ A6.out).mono ?_); rintro e w' ⟨rfl, ⟨nd, rfl⟩⟩; (try first | exact ⟨rfl, _, World.drewN_drewN _ _ _⟩ | exact ⟨rfl, _, Eq.trans (World.drewN_drewN _ _ _) (congrArg (World.drewN _) (Nat.add_assoc _ _ _))⟩))); try go_wp2_with (first | ((with_reducible refine gate_dst (N := 2) rfl ?_); refine box_event ?hg (N := 2) ?hd (cs := #[.int .i64 a0_0, .int .i64 a0_1, .int .i64 a0_2, .int .i64 a0_3]) (t := 28) ?hr ?_; (case hd => rfl); (case hg => rfl); (case hr => first | (go_simp; done) | (go_simp; rfl)); intro gb543 hg w7 hbox hb; have n0_ := Aside0.mk (below_step (by repeat (first | (with_reducible first | exact HB.out | apply below_alloc | apply pw_below_drewN | apply below_drew1) | exact HB.out)) hb); have n1_ := Aside0.mk (hbox); have n2_ := Aside0.mk ((by rw [hg]; exact (below_size (by repeat (first | (with_reducible first | exact HB.out | apply below_alloc | apply pw_below_drewN | apply below_drew1) | exact HB.out))) : w.heap.size ≤ gb543)); have n3_ := Aside0.mk ((by rw [hg]; exact (below_size (by repeat (first | (with_reducible first | exact HB.out | apply below_alloc | apply pw_below_drewN | apply below_drew1) | exact HB.out))) : w.heap.size ≤ gb543)); clear HB; have HB := n0_; have BK543 := n1_; have GW543 := n2_; have GE543 := n3_; clear n0_ n1_ n2_ n3_; clear hb hbox hg) | ((with_reducible refine gate_dst (N := 3) rfl ?_); refine box_event ?hg (N := 3) ?hd (cs := #[.int .i64 a1_0, .int .i64 a1_1, .int .i64 a1_2, .int .i64 a1_3]) (t := 28) ?hr ?_; (case hd => rfl); (case hg => rfl); (case hr => first | (go_simp; done) | (go_simp; rfl)); intro gb544 hg w8 hbox hb; have n0_ := Aside0.mk (blk_below (g := gb543) (o := .cells #[.int .i64 a0_0, .int .i64 a0_1, .int .i64 a0_2, .int .i64 a0_3] 28 (0, 0)) (by (with_reducible repeat (first | refine blk_drewN ?_ _ | refine blk_drew ?_ | refine blk_alloc ?_ _)); exact BK543.out) hb); have n1_ := Aside0.mk (below_step (by repeat (first | (with_reducible first | exact HB.out | apply below_alloc | apply pw_below_drewN | apply below_drew1 | refine below_set ?_ GE543.out) | exact HB.out)) hb); have n2_ := Aside0.mk (hbox); have n3_ := Aside0.mk ((by rw [hg]; exact (below_size (by repeat (first | (with_reducible first | exact HB.out | apply below_alloc | apply pw_below_drewN | apply below_drew1 | refine below_set ?_ GE543.out) | exact HB.out))) : w.heap.size ≤ gb544)); have n4_ := Aside0.mk ((by rw [hg]; exact (below_size (by repeat (first | (with_reducible first | exact HB.out | apply below_alloc | apply pw_below_drewN | apply below_drew1 | refine below_set ?_ GE543.out) | exact HB.out))) : w.heap.size ≤ gb544)); have n5_ := Aside0.mk ((by rw [hg]; exact Nat.ne_of_lt (blk_lt (g := gb543) (o := .cells #[.int .i64 a0_0, .int .i64 a0_1, .int .i64 a0_2, .int .i64 a0_3] 28 (0, 0)) (by (with_reducible repeat (first | refine blk_drewN ?_ _ | refine blk_drew ?_ | refine blk_alloc ?_ _)); exact BK543.out)) : gb543 ≠ gb544)); have n6_ := Aside0.mk ((by rw [hg]; exact Nat.ne_of_gt (blk_lt (g := gb543) (o := .cells #[.int .i64 a0_0, .int .i64 a0_1, .int .i64 a0_2, .int .i64 a0_3] 28 (0, 0)) (by (with_reducible repeat (first | refine blk_drewN ?_ _ | refine blk_drew ?_ | refine blk_alloc ?_ _)); exact BK543.out)) : gb544 ≠ gb543)); clear BK543; clear HB; have BK543 := n0_; have HB := n1_; have BK544 := n2_; have GW544 := n3_; have GE544 := n4_; have NB543_544 := n5_; have NB544_543 := n6_; clear n0_ n1_ n2_ n3_ n4_ n5_ n6_; clear hb hbox hg; have hnb9 := NB543_544.out; have hnc9 := NB544_543.out; have hcz10_0 : w8.cell? ⟨gb543, 0, none⟩ = some (.int .i64 a0_0) := (blk_cell BK543.out 0).trans rfl; have hcz10_1 : w8.cell? ⟨gb543, 1, none⟩ = some (.int .i64 a0_1) := (blk_cell BK543.out 1).trans rfl; have hcz10_2 : w8.cell? ⟨gb543, 2, none⟩ = some (.int .i64 a0_2) := (blk_cell BK543.out 2).trans rfl; have hcz10_3 : w8.cell? ⟨gb543, 3, none⟩ = some (.int .i64 a0_3) := (blk_cell BK543.out 3).trans rfl; have hfz10_0 := blk_frozen BK543.out 0; have hfz10_1 := blk_frozen BK543.out 1; have hfz10_2 := blk_frozen BK543.out 2; have hfz10_3 := blk_frozen BK543.out 3; have hcz11_0 : w8.cell? ⟨gb544, 0, none⟩ = some (.int .i64 a1_0) := (blk_cell BK544.out 0).trans rfl; have hcz11_1 : w8.cell? ⟨gb544, 1, none⟩ = some (.int .i64 a1_1) := (blk_cell BK544.out 1).trans rfl; have hcz11_2 : w8.cell? ⟨gb544, 2, none⟩ = some (.int .i64 a1_2) := (blk_cell BK544.out 2).trans rfl; have hcz11_3 : w8.cell? ⟨gb544, 3, none⟩ = some (.int .i64 a1_3) := (blk_cell BK544.out 3).trans rfl; have hfz11_0 := blk_frozen BK544.out 0; have hfz11_1 := blk_frozen BK544.out 1; have hfz11_2 := blk_frozen BK544.out 2; have hfz11_3 := blk_frozen BK544.out 3) | (go_at_call 109; (with_reducible refine (spec_l1Least.calls (wrap64 (a0_1 + a0_2)) (wrap64 (a1_1 + a1_2)) t545 _ A4.out).mono ?_); rintro e w' ⟨rfl, ⟨nd, rfl⟩⟩; (try first | exact ⟨rfl, _, World.drewN_drewN _ _ _⟩ | exact ⟨rfl, _, Eq.trans (World.drewN_drewN _ _ _) (congrArg (World.drewN _) (Nat.add_assoc _ _ _))⟩)) | (go_at_call 99; (with_reducible refine (spec_l1Most.calls a0_1 a1_1 t546 _ A5.out).mono ?_); rintro e w' ⟨rfl, ⟨nd, rfl⟩⟩; (try first | exact ⟨rfl, _, World.drewN_drewN _ _ _⟩ | exact ⟨rfl, _, Eq.trans (World.drewN_drewN _ _ _) (congrArg (World.drewN _) (Nat.add_assoc _ _ _))⟩)) | (go_at_call 99; (with_reducible refine (spec_l1Most.calls 0 (wrap64 (t545 - t546)) t547 _ A6.out).mono ?_); rintro e w' ⟨rfl, ⟨nd, rfl⟩⟩; (try first | exact ⟨rfl, _, World.drewN_drewN _ _ _⟩ | exact ⟨rfl, _, Eq.trans (World.drewN_drewN _ _ _) (congrArg (World.drewN _) (Nat.add_assoc _ _ _))⟩))))
    go_ret
    exact ⟨by first | rfl | (simp [errW_none, errW_some] <;> rfl) | (simp [*, errW_none, errW_some] <;> rfl), by repeat (first | (with_reducible first | exact HB.out | apply below_alloc | apply pw_below_drewN | apply below_drew1 | refine below_set ?_ GE543.out | refine below_set ?_ GE544.out) | exact HB.out)⟩
  · rw [if_neg c3] at H
    have c3b0 : (a0_0 == a1_0) = false := beq_eq_false_iff_ne.mpr c3
    have c3b1 : (a0_0 != a1_0) = true := bne_iff_ne.mpr c3
    obtain rfl := Option.some.inj H
    go_enter Try.func125, Try.ntmps125
    go_wp2_with (first | ((with_reducible refine gate_dst (N := 2) rfl ?_); refine box_event ?hg (N := 2) ?hd (cs := #[.int .i64 a0_0, .int .i64 a0_1, .int .i64 a0_2, .int .i64 a0_3]) (t := 28) ?hr ?_; (case hd => rfl); (case hg => rfl); (case hr => first | (go_simp; done) | (go_simp; rfl)); intro gb543 hg w12 hbox hb; have n0_ := Aside0.mk (below_step (by repeat (first | (with_reducible first | exact HB.out | apply below_alloc | apply pw_below_drewN | apply below_drew1) | exact HB.out)) hb); have n1_ := Aside0.mk (hbox); have n2_ := Aside0.mk ((by rw [hg]; exact (below_size (by repeat (first | (with_reducible first | exact HB.out | apply below_alloc | apply pw_below_drewN | apply below_drew1) | exact HB.out))) : w.heap.size ≤ gb543)); have n3_ := Aside0.mk ((by rw [hg]; exact (below_size (by repeat (first | (with_reducible first | exact HB.out | apply below_alloc | apply pw_below_drewN | apply below_drew1) | exact HB.out))) : w.heap.size ≤ gb543)); clear HB; have HB := n0_; have BK543 := n1_; have GW543 := n2_; have GE543 := n3_; clear n0_ n1_ n2_ n3_; clear hb hbox hg) | ((with_reducible refine gate_dst (N := 3) rfl ?_); refine box_event ?hg (N := 3) ?hd (cs := #[.int .i64 a1_0, .int .i64 a1_1, .int .i64 a1_2, .int .i64 a1_3]) (t := 28) ?hr ?_; (case hd => rfl); (case hg => rfl); (case hr => first | (go_simp; done) | (go_simp; rfl)); intro gb544 hg w13 hbox hb; have n0_ := Aside0.mk (blk_below (g := gb543) (o := .cells #[.int .i64 a0_0, .int .i64 a0_1, .int .i64 a0_2, .int .i64 a0_3] 28 (0, 0)) (by (with_reducible repeat (first | refine blk_drewN ?_ _ | refine blk_drew ?_ | refine blk_alloc ?_ _)); exact BK543.out) hb); have n1_ := Aside0.mk (below_step (by repeat (first | (with_reducible first | exact HB.out | apply below_alloc | apply pw_below_drewN | apply below_drew1 | refine below_set ?_ GE543.out) | exact HB.out)) hb); have n2_ := Aside0.mk (hbox); have n3_ := Aside0.mk ((by rw [hg]; exact (below_size (by repeat (first | (with_reducible first | exact HB.out | apply below_alloc | apply pw_below_drewN | apply below_drew1 | refine below_set ?_ GE543.out) | exact HB.out))) : w.heap.size ≤ gb544)); have n4_ := Aside0.mk ((by rw [hg]; exact (below_size (by repeat (first | (with_reducible first | exact HB.out | apply below_alloc | apply pw_below_drewN | apply below_drew1 | refine below_set ?_ GE543.out) | exact HB.out))) : w.heap.size ≤ gb544)); have n5_ := Aside0.mk ((by rw [hg]; exact Nat.ne_of_lt (blk_lt (g := gb543) (o := .cells #[.int .i64 a0_0, .int .i64 a0_1, .int .i64 a0_2, .int .i64 a0_3] 28 (0, 0)) (by (with_reducible repeat (first | refine blk_drewN ?_ _ | refine blk_drew ?_ | refine blk_alloc ?_ _)); exact BK543.out)) : gb543 ≠ gb544)); have n6_ := Aside0.mk ((by rw [hg]; exact Nat.ne_of_gt (blk_lt (g := gb543) (o := .cells #[.int .i64 a0_0, .int .i64 a0_1, .int .i64 a0_2, .int .i64 a0_3] 28 (0, 0)) (by (with_reducible repeat (first | refine blk_drewN ?_ _ | refine blk_drew ?_ | refine blk_alloc ?_ _)); exact BK543.out)) : gb544 ≠ gb543)); clear BK543; clear HB; have BK543 := n0_; have HB := n1_; have BK544 := n2_; have GW544 := n3_; have GE544 := n4_; have NB543_544 := n5_; have NB544_543 := n6_; clear n0_ n1_ n2_ n3_ n4_ n5_ n6_; clear hb hbox hg; have hnb14 := NB543_544.out; have hnc14 := NB544_543.out; have hcz15_0 : w13.cell? ⟨gb543, 0, none⟩ = some (.int .i64 a0_0) := (blk_cell BK543.out 0).trans rfl; have hcz15_1 : w13.cell? ⟨gb543, 1, none⟩ = some (.int .i64 a0_1) := (blk_cell BK543.out 1).trans rfl; have hcz15_2 : w13.cell? ⟨gb543, 2, none⟩ = some (.int .i64 a0_2) := (blk_cell BK543.out 2).trans rfl; have hcz15_3 : w13.cell? ⟨gb543, 3, none⟩ = some (.int .i64 a0_3) := (blk_cell BK543.out 3).trans rfl; have hfz15_0 := blk_frozen BK543.out 0; have hfz15_1 := blk_frozen BK543.out 1; have hfz15_2 := blk_frozen BK543.out 2; have hfz15_3 := blk_frozen BK543.out 3; have hcz16_0 : w13.cell? ⟨gb544, 0, none⟩ = some (.int .i64 a1_0) := (blk_cell BK544.out 0).trans rfl; have hcz16_1 : w13.cell? ⟨gb544, 1, none⟩ = some (.int .i64 a1_1) := (blk_cell BK544.out 1).trans rfl; have hcz16_2 : w13.cell? ⟨gb544, 2, none⟩ = some (.int .i64 a1_2) := (blk_cell BK544.out 2).trans rfl; have hcz16_3 : w13.cell? ⟨gb544, 3, none⟩ = some (.int .i64 a1_3) := (blk_cell BK544.out 3).trans rfl; have hfz16_0 := blk_frozen BK544.out 0; have hfz16_1 := blk_frozen BK544.out 1; have hfz16_2 := blk_frozen BK544.out 2; have hfz16_3 := blk_frozen BK544.out 3))
    repeat (go_quiet (first | ((with_reducible refine gate_dst (N := 2) rfl ?_); refine box_event ?hg (N := 2) ?hd (cs := #[.int .i64 a0_0, .int .i64 a0_1, .int .i64 a0_2, .int .i64 a0_3]) (t := 28) ?hr ?_; (case hd => rfl); (case hg => rfl); (case hr => first | (go_simp; done) | (go_simp; rfl)); intro gb543 hg w12 hbox hb; have n0_ := Aside0.mk (below_step (by repeat (first | (with_reducible first | exact HB.out | apply below_alloc | apply pw_below_drewN | apply below_drew1) | exact HB.out)) hb); have n1_ := Aside0.mk (hbox); have n2_ := Aside0.mk ((by rw [hg]; exact (below_size (by repeat (first | (with_reducible first | exact HB.out | apply below_alloc | apply pw_below_drewN | apply below_drew1) | exact HB.out))) : w.heap.size ≤ gb543)); have n3_ := Aside0.mk ((by rw [hg]; exact (below_size (by repeat (first | (with_reducible first | exact HB.out | apply below_alloc | apply pw_below_drewN | apply below_drew1) | exact HB.out))) : w.heap.size ≤ gb543)); clear HB; have HB := n0_; have BK543 := n1_; have GW543 := n2_; have GE543 := n3_; clear n0_ n1_ n2_ n3_; clear hb hbox hg) | ((with_reducible refine gate_dst (N := 3) rfl ?_); refine box_event ?hg (N := 3) ?hd (cs := #[.int .i64 a1_0, .int .i64 a1_1, .int .i64 a1_2, .int .i64 a1_3]) (t := 28) ?hr ?_; (case hd => rfl); (case hg => rfl); (case hr => first | (go_simp; done) | (go_simp; rfl)); intro gb544 hg w13 hbox hb; have n0_ := Aside0.mk (blk_below (g := gb543) (o := .cells #[.int .i64 a0_0, .int .i64 a0_1, .int .i64 a0_2, .int .i64 a0_3] 28 (0, 0)) (by (with_reducible repeat (first | refine blk_drewN ?_ _ | refine blk_drew ?_ | refine blk_alloc ?_ _)); exact BK543.out) hb); have n1_ := Aside0.mk (below_step (by repeat (first | (with_reducible first | exact HB.out | apply below_alloc | apply pw_below_drewN | apply below_drew1 | refine below_set ?_ GE543.out) | exact HB.out)) hb); have n2_ := Aside0.mk (hbox); have n3_ := Aside0.mk ((by rw [hg]; exact (below_size (by repeat (first | (with_reducible first | exact HB.out | apply below_alloc | apply pw_below_drewN | apply below_drew1 | refine below_set ?_ GE543.out) | exact HB.out))) : w.heap.size ≤ gb544)); have n4_ := Aside0.mk ((by rw [hg]; exact (below_size (by repeat (first | (with_reducible first | exact HB.out | apply below_alloc | apply pw_below_drewN | apply below_drew1 | refine below_set ?_ GE543.out) | exact HB.out))) : w.heap.size ≤ gb544)); have n5_ := Aside0.mk ((by rw [hg]; exact Nat.ne_of_lt (blk_lt (g := gb543) (o := .cells #[.int .i64 a0_0, .int .i64 a0_1, .int .i64 a0_2, .int .i64 a0_3] 28 (0, 0)) (by (with_reducible repeat (first | refine blk_drewN ?_ _ | refine blk_drew ?_ | refine blk_alloc ?_ _)); exact BK543.out)) : gb543 ≠ gb544)); have n6_ := Aside0.mk ((by rw [hg]; exact Nat.ne_of_gt (blk_lt (g := gb543) (o := .cells #[.int .i64 a0_0, .int .i64 a0_1, .int .i64 a0_2, .int .i64 a0_3] 28 (0, 0)) (by (with_reducible repeat (first | refine blk_drewN ?_ _ | refine blk_drew ?_ | refine blk_alloc ?_ _)); exact BK543.out)) : gb544 ≠ gb543)); clear BK543; clear HB; have BK543 := n0_; have HB := n1_; have BK544 := n2_; have GW544 := n3_; have GE544 := n4_; have NB543_544 := n5_; have NB544_543 := n6_; clear n0_ n1_ n2_ n3_ n4_ n5_ n6_; clear hb hbox hg; have hnb14 := NB543_544.out; have hnc14 := NB544_543.out; have hcz15_0 : w13.cell? ⟨gb543, 0, none⟩ = some (.int .i64 a0_0) := (blk_cell BK543.out 0).trans rfl; have hcz15_1 : w13.cell? ⟨gb543, 1, none⟩ = some (.int .i64 a0_1) := (blk_cell BK543.out 1).trans rfl; have hcz15_2 : w13.cell? ⟨gb543, 2, none⟩ = some (.int .i64 a0_2) := (blk_cell BK543.out 2).trans rfl; have hcz15_3 : w13.cell? ⟨gb543, 3, none⟩ = some (.int .i64 a0_3) := (blk_cell BK543.out 3).trans rfl; have hfz15_0 := blk_frozen BK543.out 0; have hfz15_1 := blk_frozen BK543.out 1; have hfz15_2 := blk_frozen BK543.out 2; have hfz15_3 := blk_frozen BK543.out 3; have hcz16_0 : w13.cell? ⟨gb544, 0, none⟩ = some (.int .i64 a1_0) := (blk_cell BK544.out 0).trans rfl; have hcz16_1 : w13.cell? ⟨gb544, 1, none⟩ = some (.int .i64 a1_1) := (blk_cell BK544.out 1).trans rfl; have hcz16_2 : w13.cell? ⟨gb544, 2, none⟩ = some (.int .i64 a1_2) := (blk_cell BK544.out 2).trans rfl; have hcz16_3 : w13.cell? ⟨gb544, 3, none⟩ = some (.int .i64 a1_3) := (blk_cell BK544.out 3).trans rfl; have hfz16_0 := blk_frozen BK544.out 0; have hfz16_1 := blk_frozen BK544.out 1; have hfz16_2 := blk_frozen BK544.out 2; have hfz16_3 := blk_frozen BK544.out 3)); try go_wp2_with (first | ((with_reducible refine gate_dst (N := 2) rfl ?_); refine box_event ?hg (N := 2) ?hd (cs := #[.int .i64 a0_0, .int .i64 a0_1, .int .i64 a0_2, .int .i64 a0_3]) (t := 28) ?hr ?_; (case hd => rfl); (case hg => rfl); (case hr => first | (go_simp; done) | (go_simp; rfl)); intro gb543 hg w12 hbox hb; have n0_ := Aside0.mk (below_step (by repeat (first | (with_reducible first | exact HB.out | apply below_alloc | apply pw_below_drewN | apply below_drew1) | exact HB.out)) hb); have n1_ := Aside0.mk (hbox); have n2_ := Aside0.mk ((by rw [hg]; exact (below_size (by repeat (first | (with_reducible first | exact HB.out | apply below_alloc | apply pw_below_drewN | apply below_drew1) | exact HB.out))) : w.heap.size ≤ gb543)); have n3_ := Aside0.mk ((by rw [hg]; exact (below_size (by repeat (first | (with_reducible first | exact HB.out | apply below_alloc | apply pw_below_drewN | apply below_drew1) | exact HB.out))) : w.heap.size ≤ gb543)); clear HB; have HB := n0_; have BK543 := n1_; have GW543 := n2_; have GE543 := n3_; clear n0_ n1_ n2_ n3_; clear hb hbox hg) | ((with_reducible refine gate_dst (N := 3) rfl ?_); refine box_event ?hg (N := 3) ?hd (cs := #[.int .i64 a1_0, .int .i64 a1_1, .int .i64 a1_2, .int .i64 a1_3]) (t := 28) ?hr ?_; (case hd => rfl); (case hg => rfl); (case hr => first | (go_simp; done) | (go_simp; rfl)); intro gb544 hg w13 hbox hb; have n0_ := Aside0.mk (blk_below (g := gb543) (o := .cells #[.int .i64 a0_0, .int .i64 a0_1, .int .i64 a0_2, .int .i64 a0_3] 28 (0, 0)) (by (with_reducible repeat (first | refine blk_drewN ?_ _ | refine blk_drew ?_ | refine blk_alloc ?_ _)); exact BK543.out) hb); have n1_ := Aside0.mk (below_step (by repeat (first | (with_reducible first | exact HB.out | apply below_alloc | apply pw_below_drewN | apply below_drew1 | refine below_set ?_ GE543.out) | exact HB.out)) hb); have n2_ := Aside0.mk (hbox); have n3_ := Aside0.mk ((by rw [hg]; exact (below_size (by repeat (first | (with_reducible first | exact HB.out | apply below_alloc | apply pw_below_drewN | apply below_drew1 | refine below_set ?_ GE543.out) | exact HB.out))) : w.heap.size ≤ gb544)); have n4_ := Aside0.mk ((by rw [hg]; exact (below_size (by repeat (first | (with_reducible first | exact HB.out | apply below_alloc | apply pw_below_drewN | apply below_drew1 | refine below_set ?_ GE543.out) | exact HB.out))) : w.heap.size ≤ gb544)); have n5_ := Aside0.mk ((by rw [hg]; exact Nat.ne_of_lt (blk_lt (g := gb543) (o := .cells #[.int .i64 a0_0, .int .i64 a0_1, .int .i64 a0_2, .int .i64 a0_3] 28 (0, 0)) (by (with_reducible repeat (first | refine blk_drewN ?_ _ | refine blk_drew ?_ | refine blk_alloc ?_ _)); exact BK543.out)) : gb543 ≠ gb544)); have n6_ := Aside0.mk ((by rw [hg]; exact Nat.ne_of_gt (blk_lt (g := gb543) (o := .cells #[.int .i64 a0_0, .int .i64 a0_1, .int .i64 a0_2, .int .i64 a0_3] 28 (0, 0)) (by (with_reducible repeat (first | refine blk_drewN ?_ _ | refine blk_drew ?_ | refine blk_alloc ?_ _)); exact BK543.out)) : gb544 ≠ gb543)); clear BK543; clear HB; have BK543 := n0_; have HB := n1_; have BK544 := n2_; have GW544 := n3_; have GE544 := n4_; have NB543_544 := n5_; have NB544_543 := n6_; clear n0_ n1_ n2_ n3_ n4_ n5_ n6_; clear hb hbox hg; have hnb14 := NB543_544.out; have hnc14 := NB544_543.out; have hcz15_0 : w13.cell? ⟨gb543, 0, none⟩ = some (.int .i64 a0_0) := (blk_cell BK543.out 0).trans rfl; have hcz15_1 : w13.cell? ⟨gb543, 1, none⟩ = some (.int .i64 a0_1) := (blk_cell BK543.out 1).trans rfl; have hcz15_2 : w13.cell? ⟨gb543, 2, none⟩ = some (.int .i64 a0_2) := (blk_cell BK543.out 2).trans rfl; have hcz15_3 : w13.cell? ⟨gb543, 3, none⟩ = some (.int .i64 a0_3) := (blk_cell BK543.out 3).trans rfl; have hfz15_0 := blk_frozen BK543.out 0; have hfz15_1 := blk_frozen BK543.out 1; have hfz15_2 := blk_frozen BK543.out 2; have hfz15_3 := blk_frozen BK543.out 3; have hcz16_0 : w13.cell? ⟨gb544, 0, none⟩ = some (.int .i64 a1_0) := (blk_cell BK544.out 0).trans rfl; have hcz16_1 : w13.cell? ⟨gb544, 1, none⟩ = some (.int .i64 a1_1) := (blk_cell BK544.out 1).trans rfl; have hcz16_2 : w13.cell? ⟨gb544, 2, none⟩ = some (.int .i64 a1_2) := (blk_cell BK544.out 2).trans rfl; have hcz16_3 : w13.cell? ⟨gb544, 3, none⟩ = some (.int .i64 a1_3) := (blk_cell BK544.out 3).trans rfl; have hfz16_0 := blk_frozen BK544.out 0; have hfz16_1 := blk_frozen BK544.out 1; have hfz16_2 := blk_frozen BK544.out 2; have hfz16_3 := blk_frozen BK544.out 3)))
    go_ret
    exact ⟨by first | rfl | (simp [errW_none, errW_some] <;> rfl) | (simp [*, errW_none, errW_some] <;> rfl), by repeat (first | (with_reducible first | exact HB.out | apply below_alloc | apply pw_below_drewN | apply below_drew1 | refine below_set ?_ GE543.out | refine below_set ?_ GE544.out) | exact HB.out)⟩

end Go.Proofs.Ytpbboooeahmgpaa.P


namespace Go.Proofs.Ytpbboooeahmgpaa.P
open Go.RowKit Go.Proofs.YtpbboooeahmgpaaW.PrintWords Go.Proofs.YtpbboooeahmgpaaW.PrintLast Go.Proofs.YtpbboooeahmgpaaW.PrintMore
attribute [local go_sem] max2_int min2_int max_two min_two max_three min_three max_four min_four   -- for this text's walks alone
set_option linter.unusedVariables false
set_option linter.unusedSimpArgs false

/-! ### spec_l10Clash: function 98 -/
def spec_l10Clash.f (a0_0 : Int) (a0_1 : Int) (a0_2 : Int) (a0_3 : Int) (a0_4 : Bool) (a0_5 : Int) (a0_6 : Int) (a1_0 : Int) (a1_1 : Int) (a1_2 : Int) (a1_3 : Int) (a1_4 : Bool) (a1_5 : Int) (a1_6 : Int) : Option (Int) := (spec_l1Most.f a0_5 a1_5).bind fun t550 => (if a0_4 = true then ((spec_l2Overlap.f a0_0 a0_1 a0_2 a0_3 a1_0 a1_1 a1_2 a1_3).bind fun t551 => (if t551 = 0 then (some (-1)) else ((spec_l1Least.f a0_6 a1_6).bind fun t552 => (if t550 ≥ t552 then (some (-1)) else (some t550))))) else (if a1_4 = true then ((spec_l2Overlap.f a0_0 a0_1 a0_2 a0_3 a1_0 a1_1 a1_2 a1_3).bind fun t553 => (if t553 = 0 then (some (-1)) else ((spec_l1Least.f a0_6 a1_6).bind fun t554 => (if t550 ≥ t554 then (some (-1)) else (some t550))))) else (some (-1))))
set_option maxHeartbeats 8000000 in
set_option maxRecDepth 100000 in
theorem spec_l10Clash.calls (a0_0 : Int) (a0_1 : Int) (a0_2 : Int) (a0_3 : Int) (a0_4 : Bool) (a0_5 : Int) (a0_6 : Int) (a1_0 : Int) (a1_1 : Int) (a1_2 : Int) (a1_3 : Int) (a1_4 : Bool) (a1_5 : Int) (a1_6 : Int) (r : Int) (w : World) (h : spec_l10Clash.f a0_0 a0_1 a0_2 a0_3 a0_4 a0_5 a0_6 a1_0 a1_1 a1_2 a1_3 a1_4 a1_5 a1_6 = some r) :
    Calls Try.prog 98 #[.agg #[.int .i64 a0_0, .int .i64 a0_1, .int .i64 a0_2, .int .i64 a0_3, .bool a0_4, .int .i64 a0_5, .int .i64 a0_6], .agg #[.int .i64 a1_0, .int .i64 a1_1, .int .i64 a1_2, .int .i64 a1_3, .bool a1_4, .int .i64 a1_5, .int .i64 a1_6]] w fun e w' => e = .returned (.int .i64 r) ∧ Below w.heap.size w w' := by
  have hu30 := Try.underlying30
  have hu28 := Try.underlying28
  have HB := Aside0.mk (Below.refl w.heap.size w)
  have H : ((spec_l1Most.f a0_5 a1_5).bind fun t550 => (if a0_4 = true then ((spec_l2Overlap.f a0_0 a0_1 a0_2 a0_3 a1_0 a1_1 a1_2 a1_3).bind fun t551 => (if t551 = 0 then (some (-1)) else ((spec_l1Least.f a0_6 a1_6).bind fun t552 => (if t550 ≥ t552 then (some (-1)) else (some t550))))) else (if a1_4 = true then ((spec_l2Overlap.f a0_0 a0_1 a0_2 a0_3 a1_0 a1_1 a1_2 a1_3).bind fun t553 => (if t553 = 0 then (some (-1)) else ((spec_l1Least.f a0_6 a1_6).bind fun t554 => (if t550 ≥ t554 then (some (-1)) else (some t550))))) else (some (-1))))) = some r := h
  clear h
  replace H := Option.bind_eq_some_iff.mp H
  obtain ⟨t550, A30, H⟩ := H
  replace H : (if a0_4 = true then ((spec_l2Overlap.f a0_0 a0_1 a0_2 a0_3 a1_0 a1_1 a1_2 a1_3).bind fun t551 => (if t551 = 0 then (some (-1)) else ((spec_l1Least.f a0_6 a1_6).bind fun t552 => (if t550 ≥ t552 then (some (-1)) else (some t550))))) else (if a1_4 = true then ((spec_l2Overlap.f a0_0 a0_1 a0_2 a0_3 a1_0 a1_1 a1_2 a1_3).bind fun t553 => (if t553 = 0 then (some (-1)) else ((spec_l1Least.f a0_6 a1_6).bind fun t554 => (if t550 ≥ t554 then (some (-1)) else (some t550))))) else (some (-1)))) = some r := H
  have A3 := Aside0.mk A30
  clear A30
  by_cases c4 : a0_4 = true
  · subst c4
    have H1 : ((spec_l2Overlap.f a0_0 a0_1 a0_2 a0_3 a1_0 a1_1 a1_2 a1_3).bind fun t551 => (if t551 = 0 then (some (-1)) else ((spec_l1Least.f a0_6 a1_6).bind fun t552 => (if t550 ≥ t552 then (some (-1)) else (some t550))))) = some r := by rw [if_pos rfl] at H; exact H
    clear H
    have H := H1
    clear H1
    replace H := Option.bind_eq_some_iff.mp H
    obtain ⟨t551, A50, H⟩ := H
    replace H : (if t551 = 0 then (some (-1)) else ((spec_l1Least.f a0_6 a1_6).bind fun t552 => (if t550 ≥ t552 then (some (-1)) else (some t550)))) = some r := H
    have A5 := Aside0.mk A50
    clear A50
    by_cases c6 : t551 = 0
    · rw [if_pos c6] at H
      have c6b0 : (t551 == 0) = true := beq_iff_eq.mpr c6
      have c6b1 : (t551 != 0) = false := bne_eq_false_iff_eq.mpr c6
      clear c6
      obtain rfl := Option.some.inj H
      go_enter Try.func98, Try.ntmps98
      go_wp2_with (first | ((with_reducible refine gate_dst (N := 2) rfl ?_); refine box_event ?hg (N := 2) ?hd (cs := #[.int .i64 a0_0, .int .i64 a0_1, .int .i64 a0_2, .int .i64 a0_3, .bool true, .int .i64 a0_5, .int .i64 a0_6]) (t := 30) ?hr ?_; (case hd => rfl); (case hg => rfl); (case hr => first | (go_simp; done) | (go_simp; rfl)); intro gb548 hg w7 hbox hb; have n0_ := Aside0.mk (below_step (by repeat (first | (with_reducible first | exact HB.out | apply below_alloc | apply pw_below_drewN | apply below_drew1) | exact HB.out)) hb); have n1_ := Aside0.mk (hbox); have n2_ := Aside0.mk ((by rw [hg]; exact (below_size (by repeat (first | (with_reducible first | exact HB.out | apply below_alloc | apply pw_below_drewN | apply below_drew1) | exact HB.out))) : w.heap.size ≤ gb548)); have n3_ := Aside0.mk ((by rw [hg]; exact (below_size (by repeat (first | (with_reducible first | exact HB.out | apply below_alloc | apply pw_below_drewN | apply below_drew1) | exact HB.out))) : w.heap.size ≤ gb548)); clear HB; have HB := n0_; have BK548 := n1_; have GW548 := n2_; have GE548 := n3_; clear n0_ n1_ n2_ n3_; clear hb hbox hg) | ((with_reducible refine gate_dst (N := 3) rfl ?_); refine box_event ?hg (N := 3) ?hd (cs := #[.int .i64 a1_0, .int .i64 a1_1, .int .i64 a1_2, .int .i64 a1_3, .bool a1_4, .int .i64 a1_5, .int .i64 a1_6]) (t := 30) ?hr ?_; (case hd => rfl); (case hg => rfl); (case hr => first | (go_simp; done) | (go_simp; rfl)); intro gb549 hg w8 hbox hb; have n0_ := Aside0.mk (blk_below (g := gb548) (o := .cells #[.int .i64 a0_0, .int .i64 a0_1, .int .i64 a0_2, .int .i64 a0_3, .bool true, .int .i64 a0_5, .int .i64 a0_6] 30 (0, 0)) (by (with_reducible repeat (first | refine blk_drewN ?_ _ | refine blk_drew ?_ | refine blk_alloc ?_ _)); exact BK548.out) hb); have n1_ := Aside0.mk (below_step (by repeat (first | (with_reducible first | exact HB.out | apply below_alloc | apply pw_below_drewN | apply below_drew1 | refine below_set ?_ GE548.out) | exact HB.out)) hb); have n2_ := Aside0.mk (hbox); have n3_ := Aside0.mk ((by rw [hg]; exact (below_size (by repeat (first | (with_reducible first | exact HB.out | apply below_alloc | apply pw_below_drewN | apply below_drew1 | refine below_set ?_ GE548.out) | exact HB.out))) : w.heap.size ≤ gb549)); have n4_ := Aside0.mk ((by rw [hg]; exact (below_size (by repeat (first | (with_reducible first | exact HB.out | apply below_alloc | apply pw_below_drewN | apply below_drew1 | refine below_set ?_ GE548.out) | exact HB.out))) : w.heap.size ≤ gb549)); have n5_ := Aside0.mk ((by rw [hg]; exact Nat.ne_of_lt (blk_lt (g := gb548) (o := .cells #[.int .i64 a0_0, .int .i64 a0_1, .int .i64 a0_2, .int .i64 a0_3, .bool true, .int .i64 a0_5, .int .i64 a0_6] 30 (0, 0)) (by (with_reducible repeat (first | refine blk_drewN ?_ _ | refine blk_drew ?_ | refine blk_alloc ?_ _)); exact BK548.out)) : gb548 ≠ gb549)); have n6_ := Aside0.mk ((by rw [hg]; exact Nat.ne_of_gt (blk_lt (g := gb548) (o := .cells #[.int .i64 a0_0, .int .i64 a0_1, .int .i64 a0_2, .int .i64 a0_3, .bool true, .int .i64 a0_5, .int .i64 a0_6] 30 (0, 0)) (by (with_reducible repeat (first | refine blk_drewN ?_ _ | refine blk_drew ?_ | refine blk_alloc ?_ _)); exact BK548.out)) : gb549 ≠ gb548)); clear BK548; clear HB; have BK548 := n0_; have HB := n1_; have BK549 := n2_; have GW549 := n3_; have GE549 := n4_; have NB548_549 := n5_; have NB549_548 := n6_; clear n0_ n1_ n2_ n3_ n4_ n5_ n6_; clear hb hbox hg; have hnb9 := NB548_549.out; have hnc9 := NB549_548.out; have hcz10_0 : w8.cell? ⟨gb548, 0, none⟩ = some (.int .i64 a0_0) := (blk_cell BK548.out 0).trans rfl; have hcz10_1 : w8.cell? ⟨gb548, 1, none⟩ = some (.int .i64 a0_1) := (blk_cell BK548.out 1).trans rfl; have hcz10_2 : w8.cell? ⟨gb548, 2, none⟩ = some (.int .i64 a0_2) := (blk_cell BK548.out 2).trans rfl; have hcz10_3 : w8.cell? ⟨gb548, 3, none⟩ = some (.int .i64 a0_3) := (blk_cell BK548.out 3).trans rfl; have hcz10_4 : w8.cell? ⟨gb548, 4, none⟩ = some (.bool true) := (blk_cell BK548.out 4).trans rfl; have hcz10_5 : w8.cell? ⟨gb548, 5, none⟩ = some (.int .i64 a0_5) := (blk_cell BK548.out 5).trans rfl; have hcz10_6 : w8.cell? ⟨gb548, 6, none⟩ = some (.int .i64 a0_6) := (blk_cell BK548.out 6).trans rfl; have hfz10_0 := blk_frozen BK548.out 0; have hfz10_1 := blk_frozen BK548.out 1; have hfz10_2 := blk_frozen BK548.out 2; have hfz10_3 := blk_frozen BK548.out 3; have hfz10_4 := blk_frozen BK548.out 4; have hfz10_5 := blk_frozen BK548.out 5; have hfz10_6 := blk_frozen BK548.out 6; have hcz11_0 : w8.cell? ⟨gb549, 0, none⟩ = some (.int .i64 a1_0) := (blk_cell BK549.out 0).trans rfl; have hcz11_1 : w8.cell? ⟨gb549, 1, none⟩ = some (.int .i64 a1_1) := (blk_cell BK549.out 1).trans rfl; have hcz11_2 : w8.cell? ⟨gb549, 2, none⟩ = some (.int .i64 a1_2) := (blk_cell BK549.out 2).trans rfl; have hcz11_3 : w8.cell? ⟨gb549, 3, none⟩ = some (.int .i64 a1_3) := (blk_cell BK549.out 3).trans rfl; have hcz11_4 : w8.cell? ⟨gb549, 4, none⟩ = some (.bool a1_4) := (blk_cell BK549.out 4).trans rfl; have hcz11_5 : w8.cell? ⟨gb549, 5, none⟩ = some (.int .i64 a1_5) := (blk_cell BK549.out 5).trans rfl; have hcz11_6 : w8.cell? ⟨gb549, 6, none⟩ = some (.int .i64 a1_6) := (blk_cell BK549.out 6).trans rfl; have hfz11_0 := blk_frozen BK549.out 0; have hfz11_1 := blk_frozen BK549.out 1; have hfz11_2 := blk_frozen BK549.out 2; have hfz11_3 := blk_frozen BK549.out 3; have hfz11_4 := blk_frozen BK549.out 4; have hfz11_5 := blk_frozen BK549.out 5; have hfz11_6 := blk_frozen BK549.out 6) | ((with_reducible refine gate_callee (f := 99) rfl ?_); refine goesL_ (some 10) rfl rfl Try.func99 (by kernel_rfl) rfl #[.int .i64 a0_5, .int .i64 a1_5] rfl (by (try simp only [List.map_toArray, List.map_cons, List.map_nil]); first | done | rfl | (simp only [List.length_drop, List.length_take]; rfl)) ?_; (with_reducible refine (spec_l1Most.calls a0_5 a1_5 t550 _ A3.out).mono ?_); rintro e w' ⟨rfl, ⟨nd, rfl⟩⟩; refine ⟨_, rfl, ?_⟩) | (go_at_call 125; (with_reducible refine (spec_l2Overlap.calls a0_0 a0_1 a0_2 a0_3 a1_0 a1_1 a1_2 a1_3 t551 _ A5.out).mono ?_); rintro e w12 ⟨rfl, hb⟩; have n0_ := Aside0.mk (blk_below (g := gb548) (o := .cells #[.int .i64 a0_0, .int .i64 a0_1, .int .i64 a0_2, .int .i64 a0_3, .bool true, .int .i64 a0_5, .int .i64 a0_6] 30 (0, 0)) (by (with_reducible repeat (first | refine blk_drewN ?_ _ | refine blk_drew ?_ | refine blk_alloc ?_ _)); exact BK548.out) hb); have n1_ := Aside0.mk (blk_below (g := gb549) (o := .cells #[.int .i64 a1_0, .int .i64 a1_1, .int .i64 a1_2, .int .i64 a1_3, .bool a1_4, .int .i64 a1_5, .int .i64 a1_6] 30 (0, 0)) (by (with_reducible repeat (first | refine blk_drewN ?_ _ | refine blk_drew ?_ | refine blk_alloc ?_ _)); exact BK549.out) hb); have n2_ := Aside0.mk (below_step (by repeat (first | (with_reducible first | exact HB.out | apply below_alloc | apply pw_below_drewN | apply below_drew1 | refine below_set ?_ GE548.out | refine below_set ?_ GE549.out) | exact HB.out)) hb); clear BK548; clear BK549; clear HB; have BK548 := n0_; have BK549 := n1_; have HB := n2_; clear n0_ n1_ n2_; (try clear hb); (try clear hb2); (try clear hk); (try clear hi)))
      go_ret
      exact ⟨by first | rfl | (simp [errW_none, errW_some] <;> rfl) | (simp [*, errW_none, errW_some] <;> rfl), by repeat (first | (with_reducible first | exact HB.out | apply below_alloc | apply pw_below_drewN | apply below_drew1 | refine below_set ?_ GE548.out | refine below_set ?_ GE549.out) | exact HB.out)⟩
    · rw [if_neg c6] at H
      have c6b0 : (t551 == 0) = false := beq_eq_false_iff_ne.mpr c6
      have c6b1 : (t551 != 0) = true := bne_iff_ne.mpr c6
      replace H := Option.bind_eq_some_iff.mp H
      obtain ⟨t552, A130, H⟩ := H
      replace H : (if t550 ≥ t552 then (some (-1)) else (some t550)) = some r := H
      have A13 := Aside0.mk A130
      clear A130
      by_cases c14 : t550 ≥ t552
      · rw [if_pos c14] at H
        have c14b0 : decide (t552 ≤ t550) = true := decide_eq_true c14
        clear c14
        obtain rfl := Option.some.inj H
        go_enter Try.func98, Try.ntmps98
        go_wp2_with (first | ((with_reducible refine gate_dst (N := 2) rfl ?_); refine box_event ?hg (N := 2) ?hd (cs := #[.int .i64 a0_0, .int .i64 a0_1, .int .i64 a0_2, .int .i64 a0_3, .bool true, .int .i64 a0_5, .int .i64 a0_6]) (t := 30) ?hr ?_; (case hd => rfl); (case hg => rfl); (case hr => first | (go_simp; done) | (go_simp; rfl)); intro gb548 hg w15 hbox hb; have n0_ := Aside0.mk (below_step (by repeat (first | (with_reducible first | exact HB.out | apply below_alloc | apply pw_below_drewN | apply below_drew1) | exact HB.out)) hb); have n1_ := Aside0.mk (hbox); have n2_ := Aside0.mk ((by rw [hg]; exact (below_size (by repeat (first | (with_reducible first | exact HB.out | apply below_alloc | apply pw_below_drewN | apply below_drew1) | exact HB.out))) : w.heap.size ≤ gb548)); have n3_ := Aside0.mk ((by rw [hg]; exact (below_size (by repeat (first | (with_reducible first | exact HB.out | apply below_alloc | apply pw_below_drewN | apply below_drew1) | exact HB.out))) : w.heap.size ≤ gb548)); clear HB; have HB := n0_; have BK548 := n1_; have GW548 := n2_; have GE548 := n3_; clear n0_ n1_ n2_ n3_; clear hb hbox hg) | ((with_reducible refine gate_dst (N := 3) rfl ?_); refine box_event ?hg (N := 3) ?hd (cs := #[.int .i64 a1_0, .int .i64 a1_1, .int .i64 a1_2, .int .i64 a1_3, .bool a1_4, .int .i64 a1_5, .int .i64 a1_6]) (t := 30) ?hr ?_; (case hd => rfl); (case hg => rfl); (case hr => first | (go_simp; done) | (go_simp; rfl)); intro gb549 hg w16 hbox hb; have n0_ := Aside0.mk (blk_below (g := gb548) (o := .cells #[.int .i64 a0_0, .int .i64 a0_1, .int .i64 a0_2, .int .i64 a0_3, .bool true, .int .i64 a0_5, .int .i64 a0_6] 30 (0, 0)) (by (with_reducible repeat (first | refine blk_drewN ?_ _ | refine blk_drew ?_ | refine blk_alloc ?_ _)); exact BK548.out) hb); have n1_ := Aside0.mk (below_step (by repeat (first | (with_reducible first | exact HB.out | apply below_alloc | apply pw_below_drewN | apply below_drew1 | refine below_set ?_ GE548.out) | exact HB.out)) hb); have n2_ := Aside0.mk (hbox); have n3_ := Aside0.mk ((by rw [hg]; exact (below_size (by repeat (first | (with_reducible first | exact HB.out | apply below_alloc | apply pw_below_drewN | apply below_drew1 | refine below_set ?_ GE548.out) | exact HB.out))) : w.heap.size ≤ gb549)); have n4_ := Aside0.mk ((by rw [hg]; exact (below_size (by repeat (first | (with_reducible first | exact HB.out | apply below_alloc | apply pw_below_drewN | apply below_drew1 | refine below_set ?_ GE548.out) | exact HB.out))) : w.heap.size ≤ gb549)); have n5_ := Aside0.mk ((by rw [hg]; exact Nat.ne_of_lt (blk_lt (g := gb548) (o := .cells #[.int .i64 a0_0, .int .i64 a0_1, .int .i64 a0_2, .int .i64 a0_3, .bool true, .int .i64 a0_5, .int .i64 a0_6] 30 (0, 0)) (by (with_reducible repeat (first | refine blk_drewN ?_ _ | refine blk_drew ?_ | refine blk_alloc ?_ _)); exact BK548.out)) : gb548 ≠ gb549)); have n6_ := Aside0.mk ((by rw [hg]; exact Nat.ne_of_gt (blk_lt (g := gb548) (o := .cells #[.int .i64 a0_0, .int .i64 a0_1, .int .i64 a0_2, .int .i64 a0_3, .bool true, .int .i64 a0_5, .int .i64 a0_6] 30 (0, 0)) (by (with_reducible repeat (first | refine blk_drewN ?_ _ | refine blk_drew ?_ | refine blk_alloc ?_ _)); exact BK548.out)) : gb549 ≠ gb548)); clear BK548; clear HB; have BK548 := n0_; have HB := n1_; have BK549 := n2_; have GW549 := n3_; have GE549 := n4_; have NB548_549 := n5_; have NB549_548 := n6_; clear n0_ n1_ n2_ n3_ n4_ n5_ n6_; clear hb hbox hg; have hnb17 := NB548_549.out; have hnc17 := NB549_548.out; have hcz18_0 : w16.cell? ⟨gb548, 0, none⟩ = some (.int .i64 a0_0) := (blk_cell BK548.out 0).trans rfl; have hcz18_1 : w16.cell? ⟨gb548, 1, none⟩ = some (.int .i64 a0_1) := (blk_cell BK548.out 1).trans rfl; have hcz18_2 : w16.cell? ⟨gb548, 2, none⟩ = some (.int .i64 a0_2) := (blk_cell BK548.out 2).trans rfl; have hcz18_3 : w16.cell? ⟨gb548, 3, none⟩ = some (.int .i64 a0_3) := (blk_cell BK548.out 3).trans rfl; have hcz18_4 : w16.cell? ⟨gb548, 4, none⟩ = some (.bool true) := (blk_cell BK548.out 4).trans rfl; have hcz18_5 : w16.cell? ⟨gb548, 5, none⟩ = some (.int .i64 a0_5) := (blk_cell BK548.out 5).trans rfl; have hcz18_6 : w16.cell? ⟨gb548, 6, none⟩ = some (.int .i64 a0_6) := (blk_cell BK548.out 6).trans rfl; have hfz18_0 := blk_frozen BK548.out 0; have hfz18_1 := blk_frozen BK548.out 1; have hfz18_2 := blk_frozen BK548.out 2; have hfz18_3 := blk_frozen BK548.out 3; have hfz18_4 := blk_frozen BK548.out 4; have hfz18_5 := blk_frozen BK548.out 5; have hfz18_6 := blk_frozen BK548.out 6; have hcz19_0 : w16.cell? ⟨gb549, 0, none⟩ = some (.int .i64 a1_0) := (blk_cell BK549.out 0).trans rfl; have hcz19_1 : w16.cell? ⟨gb549, 1, none⟩ = some (.int .i64 a1_1) := (blk_cell BK549.out 1).trans rfl; have hcz19_2 : w16.cell? ⟨gb549, 2, none⟩ = some (.int .i64 a1_2) := (blk_cell BK549.out 2).trans rfl; have hcz19_3 : w16.cell? ⟨gb549, 3, none⟩ = some (.int .i64 a1_3) := (blk_cell BK549.out 3).trans rfl; have hcz19_4 : w16.cell? ⟨gb549, 4, none⟩ = some (.bool a1_4) := (blk_cell BK549.out 4).trans rfl; have hcz19_5 : w16.cell? ⟨gb549, 5, none⟩ = some (.int .i64 a1_5) := (blk_cell BK549.out 5).trans rfl; have hcz19_6 : w16.cell? ⟨gb549, 6, none⟩ = some (.int .i64 a1_6) := (blk_cell BK549.out 6).trans rfl; have hfz19_0 := blk_frozen BK549.out 0; have hfz19_1 := blk_frozen BK549.out 1; have hfz19_2 := blk_frozen BK549.out 2; have hfz19_3 := blk_frozen BK549.out 3; have hfz19_4 := blk_frozen BK549.out 4; have hfz19_5 := blk_frozen BK549.out 5; have hfz19_6 := blk_frozen BK549.out 6) | ((with_reducible refine gate_callee (f := 99) rfl ?_); refine goesL_ (some 10) rfl rfl Try.func99 (by kernel_rfl) rfl #[.int .i64 a0_5, .int .i64 a1_5] rfl (by (try simp only [List.map_toArray, List.map_cons, List.map_nil]); first | done | rfl | (simp only [List.length_drop, List.length_take]; rfl)) ?_; (with_reducible refine (spec_l1Most.calls a0_5 a1_5 t550 _ A3.out).mono ?_); rintro e w' ⟨rfl, ⟨nd, rfl⟩⟩; refine ⟨_, rfl, ?_⟩) | (go_at_call 125; (with_reducible refine (spec_l2Overlap.calls a0_0 a0_1 a0_2 a0_3 a1_0 a1_1 a1_2 a1_3 t551 _ A5.out).mono ?_); rintro e w20 ⟨rfl, hb⟩; have n0_ := Aside0.mk (blk_below (g := gb548) (o := .cells #[.int .i64 a0_0, .int .i64 a0_1, .int .i64 a0_2, .int .i64 a0_3, .bool true, .int .i64 a0_5, .int .i64 a0_6] 30 (0, 0)) (by (with_reducible repeat (first | refine blk_drewN ?_ _ | refine blk_drew ?_ | refine blk_alloc ?_ _)); exact BK548.out) hb); have n1_ := Aside0.mk (blk_below (g := gb549) (o := .cells #[.int .i64 a1_0, .int .i64 a1_1, .int .i64 a1_2, .int .i64 a1_3, .bool a1_4, .int .i64 a1_5, .int .i64 a1_6] 30 (0, 0)) (by (with_reducible repeat (first | refine blk_drewN ?_ _ | refine blk_drew ?_ | refine blk_alloc ?_ _)); exact BK549.out) hb); have n2_ := Aside0.mk (below_step (by repeat (first | (with_reducible first | exact HB.out | apply below_alloc | apply pw_below_drewN | apply below_drew1 | refine below_set ?_ GE548.out | refine below_set ?_ GE549.out) | exact HB.out)) hb); clear BK548; clear BK549; clear HB; have BK548 := n0_; have BK549 := n1_; have HB := n2_; clear n0_ n1_ n2_; (try clear hb); (try clear hb2); (try clear hk); (try clear hi); have hcz21_0 : w20.cell? ⟨gb548, 0, none⟩ = some (.int .i64 a0_0) := (blk_cell BK548.out 0).trans rfl; have hcz21_1 : w20.cell? ⟨gb548, 1, none⟩ = some (.int .i64 a0_1) := (blk_cell BK548.out 1).trans rfl; have hcz21_2 : w20.cell? ⟨gb548, 2, none⟩ = some (.int .i64 a0_2) := (blk_cell BK548.out 2).trans rfl; have hcz21_3 : w20.cell? ⟨gb548, 3, none⟩ = some (.int .i64 a0_3) := (blk_cell BK548.out 3).trans rfl; have hcz21_4 : w20.cell? ⟨gb548, 4, none⟩ = some (.bool true) := (blk_cell BK548.out 4).trans rfl; have hcz21_5 : w20.cell? ⟨gb548, 5, none⟩ = some (.int .i64 a0_5) := (blk_cell BK548.out 5).trans rfl; have hcz21_6 : w20.cell? ⟨gb548, 6, none⟩ = some (.int .i64 a0_6) := (blk_cell BK548.out 6).trans rfl; have hfz21_0 := blk_frozen BK548.out 0; have hfz21_1 := blk_frozen BK548.out 1; have hfz21_2 := blk_frozen BK548.out 2; have hfz21_3 := blk_frozen BK548.out 3; have hfz21_4 := blk_frozen BK548.out 4; have hfz21_5 := blk_frozen BK548.out 5; have hfz21_6 := blk_frozen BK548.out 6; have hcz22_0 : w20.cell? ⟨gb549, 0, none⟩ = some (.int .i64 a1_0) := (blk_cell BK549.out 0).trans rfl; have hcz22_1 : w20.cell? ⟨gb549, 1, none⟩ = some (.int .i64 a1_1) := (blk_cell BK549.out 1).trans rfl; have hcz22_2 : w20.cell? ⟨gb549, 2, none⟩ = some (.int .i64 a1_2) := (blk_cell BK549.out 2).trans rfl; have hcz22_3 : w20.cell? ⟨gb549, 3, none⟩ = some (.int .i64 a1_3) := (blk_cell BK549.out 3).trans rfl; have hcz22_4 : w20.cell? ⟨gb549, 4, none⟩ = some (.bool a1_4) := (blk_cell BK549.out 4).trans rfl; have hcz22_5 : w20.cell? ⟨gb549, 5, none⟩ = some (.int .i64 a1_5) := (blk_cell BK549.out 5).trans rfl; have hcz22_6 : w20.cell? ⟨gb549, 6, none⟩ = some (.int .i64 a1_6) := (blk_cell BK549.out 6).trans rfl; have hfz22_0 := blk_frozen BK549.out 0; have hfz22_1 := blk_frozen BK549.out 1; have hfz22_2 := blk_frozen BK549.out 2; have hfz22_3 := blk_frozen BK549.out 3; have hfz22_4 := blk_frozen BK549.out 4; have hfz22_5 := blk_frozen BK549.out 5; have hfz22_6 := blk_frozen BK549.out 6) | (go_at_call 109; (with_reducible refine (spec_l1Least.calls a0_6 a1_6 t552 _ A13.out).mono ?_); rintro e w' ⟨rfl, ⟨nd, rfl⟩⟩))
        go_ret
        exact ⟨by first | rfl | (simp [errW_none, errW_some] <;> rfl) | (simp [*, errW_none, errW_some] <;> rfl), by repeat (first | (with_reducible first | exact HB.out | apply below_alloc | apply pw_below_drewN | apply below_drew1 | refine below_set ?_ GE548.out | refine below_set ?_ GE549.out) | exact HB.out)⟩
      · rw [if_neg c14] at H
        have c14b0 : decide (t552 ≤ t550) = false := decide_eq_false c14
        clear c14
        obtain rfl := Option.some.inj H
        go_enter Try.func98, Try.ntmps98
        go_wp2_with (first | ((with_reducible refine gate_dst (N := 2) rfl ?_); refine box_event ?hg (N := 2) ?hd (cs := #[.int .i64 a0_0, .int .i64 a0_1, .int .i64 a0_2, .int .i64 a0_3, .bool true, .int .i64 a0_5, .int .i64 a0_6]) (t := 30) ?hr ?_; (case hd => rfl); (case hg => rfl); (case hr => first | (go_simp; done) | (go_simp; rfl)); intro gb548 hg w23 hbox hb; have n0_ := Aside0.mk (below_step (by repeat (first | (with_reducible first | exact HB.out | apply below_alloc | apply pw_below_drewN | apply below_drew1) | exact HB.out)) hb); have n1_ := Aside0.mk (hbox); have n2_ := Aside0.mk ((by rw [hg]; exact (below_size (by repeat (first | (with_reducible first | exact HB.out | apply below_alloc | apply pw_below_drewN | apply below_drew1) | exact HB.out))) : w.heap.size ≤ gb548)); have n3_ := Aside0.mk ((by rw [hg]; exact (below_size (by repeat (first | (with_reducible first | exact HB.out | apply below_alloc | apply pw_below_drewN | apply below_drew1) | exact HB.out))) : w.heap.size ≤ gb548)); clear HB; have HB := n0_; have BK548 := n1_; have GW548 := n2_; have GE548 := n3_; clear n0_ n1_ n2_ n3_; clear hb hbox hg) | ((with_reducible refine gate_dst (N := 3) rfl ?_); refine box_event ?hg (N := 3) ?hd (cs := #[.int .i64 a1_0, .int .i64 a1_1, .int .i64 a1_2, .int .i64 a1_3, .bool a1_4, .int .i64 a1_5, .int .i64 a1_6]) (t := 30) ?hr ?_; (case hd => rfl); (case hg => rfl); (case hr => first | (go_simp; done) | (go_simp; rfl)); intro gb549 hg w24 hbox hb; have n0_ := Aside0.mk (blk_below (g := gb548) (o := .cells #[.int .i64 a0_0, .int .i64 a0_1, .int .i64 a0_2, .int .i64 a0_3, .bool true, .int .i64 a0_5, .int .i64 a0_6] 30 (0, 0)) (by (with_reducible repeat (first | refine blk_drewN ?_ _ | refine blk_drew ?_ | refine blk_alloc ?_ _)); exact BK548.out) hb); have n1_ := Aside0.mk (below_step (by repeat (first | (with_reducible first | exact HB.out | apply below_alloc | apply pw_below_drewN | apply below_drew1 | refine below_set ?_ GE548.out) | exact HB.out)) hb); have n2_ := Aside0.mk (hbox); have n3_ := Aside0.mk ((by rw [hg]; exact (below_size (by repeat (first | (with_reducible first | exact HB.out | apply below_alloc | apply pw_below_drewN | apply below_drew1 | refine below_set ?_ GE548.out) | exact HB.out))) : w.heap.size ≤ gb549)); have n4_ := Aside0.mk ((by rw [hg]; exact (below_size (by repeat (first | (with_reducible first | exact HB.out | apply below_alloc | apply pw_below_drewN | apply below_drew1 | refine below_set ?_ GE548.out) | exact HB.out))) : w.heap.size ≤ gb549)); have n5_ := Aside0.mk ((by rw [hg]; exact Nat.ne_of_lt (blk_lt (g := gb548) (o := .cells #[.int .i64 a0_0, .int .i64 a0_1, .int .i64 a0_2, .int .i64 a0_3, .bool true, .int .i64 a0_5, .int .i64 a0_6] 30 (0, 0)) (by (with_reducible repeat (first | refine blk_drewN ?_ _ | refine blk_drew ?_ | refine blk_alloc ?_ _)); exact BK548.out)) : gb548 ≠ gb549)); have n6_ := Aside0.mk ((by rw [hg]; exact Nat.ne_of_gt (blk_lt (g := gb548) (o := .cells #[.int .i64 a0_0, .int .i64 a0_1, .int .i64 a0_2, .int .i64 a0_3, .bool true, .int .i64 a0_5, .int .i64 a0_6] 30 (0, 0)) (by (with_reducible repeat (first | refine blk_drewN ?_ _ | refine blk_drew ?_ | refine blk_alloc ?_ _)); exact BK548.out)) : gb549 ≠ gb548)); clear BK548; clear HB; have BK548 := n0_; have HB := n1_; have BK549 := n2_; have GW549 := n3_; have GE549 := n4_; have NB548_549 := n5_; have NB549_548 := n6_; clear n0_ n1_ n2_ n3_ n4_ n5_ n6_; clear hb hbox hg; have hnb25 := NB548_549.out; have hnc25 := NB549_548.out; have hcz26_0 : w24.cell? ⟨gb548, 0, none⟩ = some (.int .i64 a0_0) := (blk_cell BK548.out 0).trans rfl; have hcz26_1 : w24.cell? ⟨gb548, 1, none⟩ = some (.int .i64 a0_1) := (blk_cell BK548.out 1).trans rfl; have hcz26_2 : w24.cell? ⟨gb548, 2, none⟩ = some (.int .i64 a0_2) := (blk_cell BK548.out 2).trans rfl; have hcz26_3 : w24.cell? ⟨gb548, 3, none⟩ = some (.int .i64 a0_3) := (blk_cell BK548.out 3).trans rfl; have hcz26_4 : w24.cell? ⟨gb548, 4, none⟩ = some (.bool true) := (blk_cell BK548.out 4).trans rfl; have hcz26_5 : w24.cell? ⟨gb548, 5, none⟩ = some (.int .i64 a0_5) := (blk_cell BK548.out 5).trans rfl; have hcz26_6 : w24.cell? ⟨gb548, 6, none⟩ = some (.int .i64 a0_6) := (blk_cell BK548.out 6).trans rfl; have hfz26_0 := blk_frozen BK548.out 0; have hfz26_1 := blk_frozen BK548.out 1; have hfz26_2 := blk_frozen BK548.out 2; have hfz26_3 := blk_frozen BK548.out 3; have hfz26_4 := blk_frozen BK548.out 4; have hfz26_5 := blk_frozen BK548.out 5; have hfz26_6 := blk_frozen BK548.out 6; have hcz27_0 : w24.cell? ⟨gb549, 0, none⟩ = some (.int .i64 a1_0) := (blk_cell BK549.out 0).trans rfl; have hcz27_1 : w24.cell? ⟨gb549, 1, none⟩ = some (.int .i64 a1_1) := (blk_cell BK549.out 1).trans rfl; have hcz27_2 : w24.cell? ⟨gb549, 2, none⟩ = some (.int .i64 a1_2) := (blk_cell BK549.out 2).trans rfl; have hcz27_3 : w24.cell? ⟨gb549, 3, none⟩ = some (.int .i64 a1_3) := (blk_cell BK549.out 3).trans rfl; have hcz27_4 : w24.cell? ⟨gb549, 4, none⟩ = some (.bool a1_4) := (blk_cell BK549.out 4).trans rfl; have hcz27_5 : w24.cell? ⟨gb549, 5, none⟩ = some (.int .i64 a1_5) := (blk_cell BK549.out 5).trans rfl; have hcz27_6 : w24.cell? ⟨gb549, 6, none⟩ = some (.int .i64 a1_6) := (blk_cell BK549.out 6).trans rfl; have hfz27_0 := blk_frozen BK549.out 0; have hfz27_1 := blk_frozen BK549.out 1; have hfz27_2 := blk_frozen BK549.out 2; have hfz27_3 := blk_frozen BK549.out 3; have hfz27_4 := blk_frozen BK549.out 4; have hfz27_5 := blk_frozen BK549.out 5; have hfz27_6 := blk_frozen BK549.out 6) | ((with_reducible refine gate_callee (f := 99) rfl ?_); refine goesL_ (some 10) rfl rfl Try.func99 (by kernel_rfl) rfl #[.int .i64 a0_5, .int .i64 a1_5] rfl (by (try simp only [List.map_toArray, List.map_cons, List.map_nil]); first | done | rfl | (simp only [List.length_drop, List.length_take]; rfl)) ?_; (with_reducible refine (spec_l1Most.calls a0_5 a1_5 t550 _ A3.out).mono ?_); rintro e w' ⟨rfl, ⟨nd, rfl⟩⟩; refine ⟨_, rfl, ?_⟩) | (go_at_call 125; (with_reducible refine (spec_l2Overlap.calls a0_0 a0_1 a0_2 a0_3 a1_0 a1_1 a1_2 a1_3 t551 _ A5.out).mono ?_); rintro e w28 ⟨rfl, hb⟩; have n0_ := Aside0.mk (blk_below (g := gb548) (o := .cells #[.int .i64 a0_0, .int .i64 a0_1, .int .i64 a0_2, .int .i64 a0_3, .bool true, .int .i64 a0_5, .int .i64 a0_6] 30 (0, 0)) (by (with_reducible repeat (first | refine blk_drewN ?_ _ | refine blk_drew ?_ | refine blk_alloc ?_ _)); exact BK548.out) hb); have n1_ := Aside0.mk (blk_below (g := gb549) (o := .cells #[.int .i64 a1_0, .int .i64 a1_1, .int .i64 a1_2, .int .i64 a1_3, .bool a1_4, .int .i64 a1_5, .int .i64 a1_6] 30 (0, 0)) (by (with_reducible repeat (first | refine blk_drewN ?_ _ | refine blk_drew ?_ | refine blk_alloc ?_ _)); exact BK549.out) hb); have n2_ := Aside0.mk (below_step (by repeat (first | (with_reducible first | exact HB.out | apply below_alloc | apply pw_below_drewN | apply below_drew1 | refine below_set ?_ GE548.out | refine below_set ?_ GE549.out) | exact HB.out)) hb); clear BK548; clear BK549; clear HB; have BK548 := n0_; have BK549 := n1_; have HB := n2_; clear n0_ n1_ n2_; (try clear hb); (try clear hb2); (try clear hk); (try clear hi); have hcz29_0 : w28.cell? ⟨gb548, 0, none⟩ = some (.int .i64 a0_0) := (blk_cell BK548.out 0).trans rfl; have hcz29_1 : w28.cell? ⟨gb548, 1, none⟩ = some (.int .i64 a0_1) := (blk_cell BK548.out 1).trans rfl; have hcz29_2 : w28.cell? ⟨gb548, 2, none⟩ = some (.int .i64 a0_2) := (blk_cell BK548.out 2).trans rfl; have hcz29_3 : w28.cell? ⟨gb548, 3, none⟩ = some (.int .i64 a0_3) := (blk_cell BK548.out 3).trans rfl; have hcz29_4 : w28.cell? ⟨gb548, 4, none⟩ = some (.bool true) := (blk_cell BK548.out 4).trans rfl; have hcz29_5 : w28.cell? ⟨gb548, 5, none⟩ = some (.int .i64 a0_5) := (blk_cell BK548.out 5).trans rfl; have hcz29_6 : w28.cell? ⟨gb548, 6, none⟩ = some (.int .i64 a0_6) := (blk_cell BK548.out 6).trans rfl; have hfz29_0 := blk_frozen BK548.out 0; have hfz29_1 := blk_frozen BK548.out 1; have hfz29_2 := blk_frozen BK548.out 2; have hfz29_3 := blk_frozen BK548.out 3; have hfz29_4 := blk_frozen BK548.out 4; have hfz29_5 := blk_frozen BK548.out 5; have hfz29_6 := blk_frozen BK548.out 6; have hcz30_0 : w28.cell? ⟨gb549, 0, none⟩ = some (.int .i64 a1_0) := (blk_cell BK549.out 0).trans rfl; have hcz30_1 : w28.cell? ⟨gb549, 1, none⟩ = some (.int .i64 a1_1) := (blk_cell BK549.out 1).trans rfl; have hcz30_2 : w28.cell? ⟨gb549, 2, none⟩ = some (.int .i64 a1_2) := (blk_cell BK549.out 2).trans rfl; have hcz30_3 : w28.cell? ⟨gb549, 3, none⟩ = some (.int .i64 a1_3) := (blk_cell BK549.out 3).trans rfl; have hcz30_4 : w28.cell? ⟨gb549, 4, none⟩ = some (.bool a1_4) := (blk_cell BK549.out 4).trans rfl; have hcz30_5 : w28.cell? ⟨gb549, 5, none⟩ = some (.int .i64 a1_5) := (blk_cell BK549.out 5).trans rfl; have hcz30_6 : w28.cell? ⟨gb549, 6, none⟩ = some (.int .i64 a1_6) := (blk_cell BK549.out 6).trans rfl; have hfz30_0 := blk_frozen BK549.out 0; have hfz30_1 := blk_frozen BK549.out 1; have hfz30_2 := blk_frozen BK549.out 2; have hfz30_3 := blk_frozen BK549.out 3; have hfz30_4 := blk_frozen BK549.out 4; have hfz30_5 := blk_frozen BK549.out 5; have hfz30_6 := blk_frozen BK549.out 6) | (go_at_call 109; (with_reducible refine (spec_l1Least.calls a0_6 a1_6 t552 _ A13.out).mono ?_); rintro e w' ⟨rfl, ⟨nd, rfl⟩⟩))
        go_ret
        exact ⟨by first | rfl | (simp [errW_none, errW_some] <;> rfl) | (simp [*, errW_none, errW_some] <;> rfl), by repeat (first | (with_reducible first | exact HB.out | apply below_alloc | apply pw_below_drewN | apply below_drew1 | refine below_set ?_ GE548.out | refine below_set ?_ GE549.out) | exact HB.out)⟩
  · replace c4 := Bool.eq_false_iff.mpr c4
    subst c4
    have H1 : (if a1_4 = true then ((spec_l2Overlap.f a0_0 a0_1 a0_2 a0_3 a1_0 a1_1 a1_2 a1_3).bind fun t553 => (if t553 = 0 then (some (-1)) else ((spec_l1Least.f a0_6 a1_6).bind fun t554 => (if t550 ≥ t554 then (some (-1)) else (some t550))))) else (some (-1))) = some r := by rw [if_neg (show ¬ (false = true) by decide)] at H; exact H
    clear H
    have H := H1
    clear H1
    by_cases c31 : a1_4 = true
    · subst c31
      have H1 : ((spec_l2Overlap.f a0_0 a0_1 a0_2 a0_3 a1_0 a1_1 a1_2 a1_3).bind fun t553 => (if t553 = 0 then (some (-1)) else ((spec_l1Least.f a0_6 a1_6).bind fun t554 => (if t550 ≥ t554 then (some (-1)) else (some t550))))) = some r := by rw [if_pos rfl] at H; exact H
      clear H
      have H := H1
      clear H1
      replace H := Option.bind_eq_some_iff.mp H
      obtain ⟨t553, A320, H⟩ := H
      replace H : (if t553 = 0 then (some (-1)) else ((spec_l1Least.f a0_6 a1_6).bind fun t554 => (if t550 ≥ t554 then (some (-1)) else (some t550)))) = some r := H
      have A32 := Aside0.mk A320
      clear A320
      by_cases c33 : t553 = 0
      · rw [if_pos c33] at H
        have c33b0 : (t553 == 0) = true := beq_iff_eq.mpr c33
        have c33b1 : (t553 != 0) = false := bne_eq_false_iff_eq.mpr c33
        clear c33
        obtain rfl := Option.some.inj H
        go_enter Try.func98, Try.ntmps98
        go_wp2_with (first | ((with_reducible refine gate_dst (N := 2) rfl ?_); refine box_event ?hg (N := 2) ?hd (cs := #[.int .i64 a0_0, .int .i64 a0_1, .int .i64 a0_2, .int .i64 a0_3, .bool false, .int .i64 a0_5, .int .i64 a0_6]) (t := 30) ?hr ?_; (case hd => rfl); (case hg => rfl); (case hr => first | (go_simp; done) | (go_simp; rfl)); intro gb548 hg w34 hbox hb; have n0_ := Aside0.mk (below_step (by repeat (first | (with_reducible first | exact HB.out | apply below_alloc | apply pw_below_drewN | apply below_drew1) | exact HB.out)) hb); have n1_ := Aside0.mk (hbox); have n2_ := Aside0.mk ((by rw [hg]; exact (below_size (by repeat (first | (with_reducible first | exact HB.out | apply below_alloc | apply pw_below_drewN | apply below_drew1) | exact HB.out))) : w.heap.size ≤ gb548)); have n3_ := Aside0.mk ((by rw [hg]; exact (below_size (by repeat (first | (with_reducible first | exact HB.out | apply below_alloc | apply pw_below_drewN | apply below_drew1) | exact HB.out))) : w.heap.size ≤ gb548)); clear HB; have HB := n0_; have BK548 := n1_; have GW548 := n2_; have GE548 := n3_; clear n0_ n1_ n2_ n3_; clear hb hbox hg) | ((with_reducible refine gate_dst (N := 3) rfl ?_); refine box_event ?hg (N := 3) ?hd (cs := #[.int .i64 a1_0, .int .i64 a1_1, .int .i64 a1_2, .int .i64 a1_3, .bool true, .int .i64 a1_5, .int .i64 a1_6]) (t := 30) ?hr ?_; (case hd => rfl); (case hg => rfl); (case hr => first | (go_simp; done) | (go_simp; rfl)); intro gb549 hg w35 hbox hb; have n0_ := Aside0.mk (blk_below (g := gb548) (o := .cells #[.int .i64 a0_0, .int .i64 a0_1, .int .i64 a0_2, .int .i64 a0_3, .bool false, .int .i64 a0_5, .int .i64 a0_6] 30 (0, 0)) (by (with_reducible repeat (first | refine blk_drewN ?_ _ | refine blk_drew ?_ | refine blk_alloc ?_ _)); exact BK548.out) hb); have n1_ := Aside0.mk (below_step (by repeat (first | (with_reducible first | exact HB.out | apply below_alloc | apply pw_below_drewN | apply below_drew1 | refine below_set ?_ GE548.out) | exact HB.out)) hb); have n2_ := Aside0.mk (hbox); have n3_ := Aside0.mk ((by rw [hg]; exact (below_size (by repeat (first | (with_reducible first | exact HB.out | apply below_alloc | apply pw_below_drewN | apply below_drew1 | refine below_set ?_ GE548.out) | exact HB.out))) : w.heap.size ≤ gb549)); have n4_ := Aside0.mk ((by rw [hg]; exact (below_size (by repeat (first | (with_reducible first | exact HB.out | apply below_alloc | apply pw_below_drewN | apply below_drew1 | refine below_set ?_ GE548.out) | exact HB.out))) : w.heap.size ≤ gb549)); have n5_ := Aside0.mk ((by rw [hg]; exact Nat.ne_of_lt (blk_lt (g := gb548) (o := .cells #[.int .i64 a0_0, .int .i64 a0_1, .int .i64 a0_2, .int .i64 a0_3, .bool false, .int .i64 a0_5, .int .i64 a0_6] 30 (0, 0)) (by (with_reducible repeat (first | refine blk_drewN ?_ _ | refine blk_drew ?_ | refine blk_alloc ?_ _)); exact BK548.out)) : gb548 ≠ gb549)); have n6_ := Aside0.mk ((by rw [hg]; exact Nat.ne_of_gt (blk_lt (g := gb548) (o := .cells #[.int .i64 a0_0, .int .i64 a0_1, .int .i64 a0_2, .int .i64 a0_3, .bool false, .int .i64 a0_5, .int .i64 a0_6] 30 (0, 0)) (by (with_reducible repeat (first | refine blk_drewN ?_ _ | refine blk_drew ?_ | refine blk_alloc ?_ _)); exact BK548.out)) : gb549 ≠ gb548)); clear BK548; clear HB; have BK548 := n0_; have HB := n1_; have BK549 := n2_; have GW549 := n3_; have GE549 := n4_; have NB548_549 := n5_; have NB549_548 := n6_; clear n0_ n1_ n2_ n3_ n4_ n5_ n6_; clear hb hbox hg; have hnb36 := NB548_549.out; have hnc36 := NB549_548.out; have hcz37_0 : w35.cell? ⟨gb548, 0, none⟩ = some (.int .i64 a0_0) := (blk_cell BK548.out 0).trans rfl; have hcz37_1 : w35.cell? ⟨gb548, 1, none⟩ = some (.int .i64 a0_1) := (blk_cell BK548.out 1).trans rfl; have hcz37_2 : w35.cell? ⟨gb548, 2, none⟩ = some (.int .i64 a0_2) := (blk_cell BK548.out 2).trans rfl; have hcz37_3 : w35.cell? ⟨gb548, 3, none⟩ = some (.int .i64 a0_3) := (blk_cell BK548.out 3).trans rfl; have hcz37_4 : w35.cell? ⟨gb548, 4, none⟩ = some (.bool false) := (blk_cell BK548.out 4).trans rfl; have hcz37_5 : w35.cell? ⟨gb548, 5, none⟩ = some (.int .i64 a0_5) := (blk_cell BK548.out 5).trans rfl; have hcz37_6 : w35.cell? ⟨gb548, 6, none⟩ = some (.int .i64 a0_6) := (blk_cell BK548.out 6).trans rfl; have hfz37_0 := blk_frozen BK548.out 0; have hfz37_1 := blk_frozen BK548.out 1; have hfz37_2 := blk_frozen BK548.out 2; have hfz37_3 := blk_frozen BK548.out 3; have hfz37_4 := blk_frozen BK548.out 4; have hfz37_5 := blk_frozen BK548.out 5; have hfz37_6 := blk_frozen BK548.out 6; have hcz38_0 : w35.cell? ⟨gb549, 0, none⟩ = some (.int .i64 a1_0) := (blk_cell BK549.out 0).trans rfl; have hcz38_1 : w35.cell? ⟨gb549, 1, none⟩ = some (.int .i64 a1_1) := (blk_cell BK549.out 1).trans rfl; have hcz38_2 : w35.cell? ⟨gb549, 2, none⟩ = some (.int .i64 a1_2) := (blk_cell BK549.out 2).trans rfl; have hcz38_3 : w35.cell? ⟨gb549, 3, none⟩ = some (.int .i64 a1_3) := (blk_cell BK549.out 3).trans rfl; have hcz38_4 : w35.cell? ⟨gb549, 4, none⟩ = some (.bool true) := (blk_cell BK549.out 4).trans rfl; have hcz38_5 : w35.cell? ⟨gb549, 5, none⟩ = some (.int .i64 a1_5) := (blk_cell BK549.out 5).trans rfl; have hcz38_6 : w35.cell? ⟨gb549, 6, none⟩ = some (.int .i64 a1_6) := (blk_cell BK549.out 6).trans rfl; have hfz38_0 := blk_frozen BK549.out 0; have hfz38_1 := blk_frozen BK549.out 1; have hfz38_2 := blk_frozen BK549.out 2; have hfz38_3 := blk_frozen BK549.out 3; have hfz38_4 := blk_frozen BK549.out 4; have hfz38_5 := blk_frozen BK549.out 5; have hfz38_6 := blk_frozen BK549.out 6) | ((with_reducible refine gate_callee (f := 99) rfl ?_); refine goesL_ (some 10) rfl rfl Try.func99 (by kernel_rfl) rfl #[.int .i64 a0_5, .int .i64 a1_5] rfl (by (try simp only [List.map_toArray, List.map_cons, List.map_nil]); first | done | rfl | (simp only [List.length_drop, List.length_take]; rfl)) ?_; (with_reducible refine (spec_l1Most.calls a0_5 a1_5 t550 _ A3.out).mono ?_); rintro e w' ⟨rfl, ⟨nd, rfl⟩⟩; refine ⟨_, rfl, ?_⟩) | (go_at_call 125; (with_reducible refine (spec_l2Overlap.calls a0_0 a0_1 a0_2 a0_3 a1_0 a1_1 a1_2 a1_3 t553 _ A32.out).mono ?_); rintro e w39 ⟨rfl, hb⟩; have n0_ := Aside0.mk (blk_below (g := gb548) (o := .cells #[.int .i64 a0_0, .int .i64 a0_1, .int .i64 a0_2, .int .i64 a0_3, .bool false, .int .i64 a0_5, .int .i64 a0_6] 30 (0, 0)) (by (with_reducible repeat (first | refine blk_drewN ?_ _ | refine blk_drew ?_ | refine blk_alloc ?_ _)); exact BK548.out) hb); have n1_ := Aside0.mk (blk_below (g := gb549) (o := .cells #[.int .i64 a1_0, .int .i64 a1_1, .int .i64 a1_2, .int .i64 a1_3, .bool true, .int .i64 a1_5, .int .i64 a1_6] 30 (0, 0)) (by (with_reducible repeat (first | refine blk_drewN ?_ _ | refine blk_drew ?_ | refine blk_alloc ?_ _)); exact BK549.out) hb); have n2_ := Aside0.mk (below_step (by repeat (first | (with_reducible first | exact HB.out | apply below_alloc | apply pw_below_drewN | apply below_drew1 | refine below_set ?_ GE548.out | refine below_set ?_ GE549.out) | exact HB.out)) hb); clear BK548; clear BK549; clear HB; have BK548 := n0_; have BK549 := n1_; have HB := n2_; clear n0_ n1_ n2_; (try clear hb); (try clear hb2); (try clear hk); (try clear hi)))
        go_ret
        exact ⟨by first | rfl | (simp [errW_none, errW_some] <;> rfl) | (simp [*, errW_none, errW_some] <;> rfl), by repeat (first | (with_reducible first | exact HB.out | apply below_alloc | apply pw_below_drewN | apply below_drew1 | refine below_set ?_ GE548.out | refine below_set ?_ GE549.out) | exact HB.out)⟩
      · rw [if_neg c33] at H
        have c33b0 : (t553 == 0) = false := beq_eq_false_iff_ne.mpr c33
        have c33b1 : (t553 != 0) = true := bne_iff_ne.mpr c33
        replace H := Option.bind_eq_some_iff.mp H
        obtain ⟨t554, A400, H⟩ := H
        replace H : (if t550 ≥ t554 then (some (-1)) else (some t550)) = some r := H
        have A40 := Aside0.mk A400
        clear A400
        by_cases c41 : t550 ≥ t554
        · rw [if_pos c41] at H
          have c41b0 : decide (t554 ≤ t550) = true := decide_eq_true c41
          clear c41
          obtain rfl := Option.some.inj H
          go_enter Try.func98, Try.ntmps98
          go_wp2_with (first | ((with_reducible refine gate_dst (N := 2) rfl ?_); refine box_event ?hg (N := 2) ?hd (cs := #[.int .i64 a0_0, .int .i64 a0_1, .int .i64 a0_2, .int .i64 a0_3, .bool false, .int .i64 a0_5, .int .i64 a0_6]) (t := 30) ?hr ?_; (case hd => rfl); (case hg => rfl); (case hr => first | (go_simp; done) | (go_simp; rfl)); intro gb548 hg w42 hbox hb; have n0_ := Aside0.mk (below_step (by repeat (first | (with_reducible first | exact HB.out | apply below_alloc | apply pw_below_drewN | apply below_drew1) | exact HB.out)) hb); have n1_ := Aside0.mk (hbox); have n2_ := Aside0.mk ((by rw [hg]; exact (below_size (by repeat (first | (with_reducible first | exact HB.out | apply below_alloc | apply pw_below_drewN | apply below_drew1) | exact HB.out))) : w.heap.size ≤ gb548)); have n3_ := Aside0.mk ((by rw [hg]; exact (below_size (by repeat (first | (with_reducible first | exact HB.out | apply below_alloc | apply pw_below_drewN | apply below_drew1) | exact HB.out))) : w.heap.size ≤ gb548)); clear HB; have HB := n0_; have BK548 := n1_; have GW548 := n2_; have GE548 := n3_; clear n0_ n1_ n2_ n3_; clear hb hbox hg) | ((with_reducible refine gate_dst (N := 3) rfl ?_); refine box_event ?hg (N := 3) ?hd (cs := #[.int .i64 a1_0, .int .i64 a1_1, .int .i64 a1_2, .int .i64 a1_3, .bool true, .int .i64 a1_5, .int .i64 a1_6]) (t := 30) ?hr ?_; (case hd => rfl); (case hg => rfl); (case hr => first | (go_simp; done) | (go_simp; rfl)); intro gb549 hg w43 hbox hb; have n0_ := Aside0.mk (blk_below (g := gb548) (o := .cells #[.int .i64 a0_0, .int .i64 a0_1, .int .i64 a0_2, .int .i64 a0_3, .bool false, .int .i64 a0_5, .int .i64 a0_6] 30 (0, 0)) (by (with_reducible repeat (first | refine blk_drewN ?_ _ | refine blk_drew ?_ | refine blk_alloc ?_ _)); exact BK548.out) hb); have n1_ := Aside0.mk (below_step (by repeat (first | (with_reducible first | exact HB.out | apply below_alloc | apply pw_below_drewN | apply below_drew1 | refine below_set ?_ GE548.out) | exact HB.out)) hb); have n2_ := Aside0.mk (hbox); have n3_ := Aside0.mk ((by rw [hg]; exact (below_size (by repeat (first | (with_reducible first | exact HB.out | apply below_alloc | apply pw_below_drewN | apply below_drew1 | refine below_set ?_ GE548.out) | exact HB.out))) : w.heap.size ≤ gb549)); have n4_ := Aside0.mk ((by rw [hg]; exact (below_size (by repeat (first | (with_reducible first | exact HB.out | apply below_alloc | apply pw_below_drewN | apply below_drew1 | refine below_set ?_ GE548.out) | exact HB.out))) : w.heap.size ≤ gb549)); have n5_ := Aside0.mk ((by rw [hg]; exact Nat.ne_of_lt (blk_lt (g := gb548) (o := .cells #[.int .i64 a0_0, .int .i64 a0_1, .int .i64 a0_2, .int .i64 a0_3, .bool false, .int .i64 a0_5, .int .i64 a0_6] 30 (0, 0)) (by (with_reducible repeat (first | refine blk_drewN ?_ _ | refine blk_drew ?_ | refine blk_alloc ?_ _)); exact BK548.out)) : gb548 ≠ gb549)); have n6_ := Aside0.mk ((by rw [hg]; exact Nat.ne_of_gt (blk_lt (g := gb548) (o := .cells #[.int .i64 a0_0, .int .i64 a0_1, .int .i64 a0_2, .int .i64 a0_3, .bool false, .int .i64 a0_5, .int .i64 a0_6] 30 (0, 0)) (by (with_reducible repeat (first | refine blk_drewN ?_ _ | refine blk_drew ?_ | refine blk_alloc ?_ _)); exact BK548.out)) : gb549 ≠ gb548)); clear BK548; clear HB; have BK548 := n0_; have HB := n1_; have BK549 := n2_; have GW549 := n3_; have GE549 := n4_; have NB548_549 := n5_; have NB549_548 := n6_; clear n0_ n1_ n2_ n3_ n4_ n5_ n6_; clear hb hbox hg; have hnb44 := NB548_549.out; have hnc44 := NB549_548.out; have hcz45_0 : w43.cell? ⟨gb548, 0, none⟩ = some (.int .i64 a0_0) := (blk_cell BK548.out 0).trans rfl; have hcz45_1 : w43.cell? ⟨gb548, 1, none⟩ = some (.int .i64 a0_1) := (blk_cell BK548.out 1).trans rfl; have hcz45_2 : w43.cell? ⟨gb548, 2, none⟩ = some (.int .i64 a0_2) := (blk_cell BK548.out 2).trans rfl; have hcz45_3 : w43.cell? ⟨gb548, 3, none⟩ = some (.int .i64 a0_3) := (blk_cell BK548.out 3).trans rfl; have hcz45_4 : w43.cell? ⟨gb548, 4, none⟩ = some (.bool false) := (blk_cell BK548.out 4).trans rfl; have hcz45_5 : w43.cell? ⟨gb548, 5, none⟩ = some (.int .i64 a0_5) := (blk_cell BK548.out 5).trans rfl; have hcz45_6 : w43.cell? ⟨gb548, 6, none⟩ = some (.int .i64 a0_6) := (blk_cell BK548.out 6).trans rfl; have hfz45_0 := blk_frozen BK548.out 0; have hfz45_1 := blk_frozen BK548.out 1; have hfz45_2 := blk_frozen BK548.out 2; have hfz45_3 := blk_frozen BK548.out 3; have hfz45_4 := blk_frozen BK548.out 4; have hfz45_5 := blk_frozen BK548.out 5; have hfz45_6 := blk_frozen BK548.out 6; have hcz46_0 : w43.cell? ⟨gb549, 0, none⟩ = some (.int .i64 a1_0) := (blk_cell BK549.out 0).trans rfl; have hcz46_1 : w43.cell? ⟨gb549, 1, none⟩ = some (.int .i64 a1_1) := (blk_cell BK549.out 1).trans rfl; have hcz46_2 : w43.cell? ⟨gb549, 2, none⟩ = some (.int .i64 a1_2) := (blk_cell BK549.out 2).trans rfl; have hcz46_3 : w43.cell? ⟨gb549, 3, none⟩ = some (.int .i64 a1_3) := (blk_cell BK549.out 3).trans rfl; have hcz46_4 : w43.cell? ⟨gb549, 4, none⟩ = some (.bool true) := (blk_cell BK549.out 4).trans rfl; have hcz46_5 : w43.cell? ⟨gb549, 5, none⟩ = some (.int .i64 a1_5) := (blk_cell BK549.out 5).trans rfl; have hcz46_6 : w43.cell? ⟨gb549, 6, none⟩ = some (.int .i64 a1_6) := (blk_cell BK549.out 6).trans rfl; have hfz46_0 := blk_frozen BK549.out 0; have hfz46_1 := blk_frozen BK549.out 1; have hfz46_2 := blk_frozen BK549.out 2; have hfz46_3 := blk_frozen BK549.out 3; have hfz46_4 := blk_frozen BK549.out 4; have hfz46_5 := blk_frozen BK549.out 5; have hfz46_6 := blk_frozen BK549.out 6) | ((with_reducible refine gate_callee (f := 99) rfl ?_); refine goesL_ (some 10) rfl rfl Try.func99 (by kernel_rfl) rfl #[.int .i64 a0_5, .int .i64 a1_5] rfl (by (try simp only [List.map_toArray, List.map_cons, List.map_nil]); first | done | rfl | (simp only [List.length_drop, List.length_take]; rfl)) ?_; (with_reducible refine (spec_l1Most.calls a0_5 a1_5 t550 _ A3.out).mono ?_); rintro e w' ⟨rfl, ⟨nd, rfl⟩⟩; refine ⟨_, rfl, ?_⟩) | (go_at_call 125; (with_reducible refine (spec_l2Overlap.calls a0_0 a0_1 a0_2 a0_3 a1_0 a1_1 a1_2 a1_3 t553 _ A32.out).mono ?_); rintro e w47 ⟨rfl, hb⟩; have n0_ := Aside0.mk (blk_below (g := gb548) (o := .cells #[.int .i64 a0_0, .int .i64 a0_1, .int .i64 a0_2, .int .i64 a0_3, .bool false, .int .i64 a0_5, .int .i64 a0_6] 30 (0, 0)) (by (with_reducible repeat (first | refine blk_drewN ?_ _ | refine blk_drew ?_ | refine blk_alloc ?_ _)); exact BK548.out) hb); have n1_ := Aside0.mk (blk_below (g := gb549) (o := .cells #[.int .i64 a1_0, .int .i64 a1_1, .int .i64 a1_2, .int .i64 a1_3, .bool true, .int .i64 a1_5, .int .i64 a1_6] 30 (0, 0)) (by (with_reducible repeat (first | refine blk_drewN ?_ _ | refine blk_drew ?_ | refine blk_alloc ?_ _)); exact BK549.out) hb); have n2_ := Aside0.mk (below_step (by repeat (first | (with_reducible first | exact HB.out | apply below_alloc | apply pw_below_drewN | apply below_drew1 | refine below_set ?_ GE548.out | refine below_set ?_ GE549.out) | exact HB.out)) hb); clear BK548; clear BK549; clear HB; have BK548 := n0_; have BK549 := n1_; have HB := n2_; clear n0_ n1_ n2_; (try clear hb); (try clear hb2); (try clear hk); (try clear hi); have hcz48_0 : w47.cell? ⟨gb548, 0, none⟩ = some (.int .i64 a0_0) := (blk_cell BK548.out 0).trans rfl; have hcz48_1 : w47.cell? ⟨gb548, 1, none⟩ = some (.int .i64 a0_1) := (blk_cell BK548.out 1).trans rfl; have hcz48_2 : w47.cell? ⟨gb548, 2, none⟩ = some (.int .i64 a0_2) := (blk_cell BK548.out 2).trans rfl; have hcz48_3 : w47.cell? ⟨gb548, 3, none⟩ = some (.int .i64 a0_3) := (blk_cell BK548.out 3).trans rfl; have hcz48_4 : w47.cell? ⟨gb548, 4, none⟩ = some (.bool false) := (blk_cell BK548.out 4).trans rfl; have hcz48_5 : w47.cell? ⟨gb548, 5, none⟩ = some (.int .i64 a0_5) := (blk_cell BK548.out 5).trans rfl; have hcz48_6 : w47.cell? ⟨gb548, 6, none⟩ = some (.int .i64 a0_6) := (blk_cell BK548.out 6).trans rfl; have hfz48_0 := blk_frozen BK548.out 0; have hfz48_1 := blk_frozen BK548.out 1; have hfz48_2 := blk_frozen BK548.out 2; have hfz48_3 := blk_frozen BK548.out 3; have hfz48_4 := blk_frozen BK548.out 4; have hfz48_5 := blk_frozen BK548.out 5; have hfz48_6 := blk_frozen BK548.out 6; have hcz49_0 : w47.cell? ⟨gb549, 0, none⟩ = some (.int .i64 a1_0) := (blk_cell BK549.out 0).trans rfl; have hcz49_1 : w47.cell? ⟨gb549, 1, none⟩ = some (.int .i64 a1_1) := (blk_cell BK549.out 1).trans rfl; have hcz49_2 : w47.cell? ⟨gb549, 2, none⟩ = some (.int .i64 a1_2) := (blk_cell BK549.out 2).trans rfl; have hcz49_3 : w47.cell? ⟨gb549, 3, none⟩ = some (.int .i64 a1_3) := (blk_cell BK549.out 3).trans rfl; have hcz49_4 : w47.cell? ⟨gb549, 4, none⟩ = some (.bool true) := (blk_cell BK549.out 4).trans rfl; have hcz49_5 : w47.cell? ⟨gb549, 5, none⟩ = some (.int .i64 a1_5) := (blk_cell BK549.out 5).trans rfl; have hcz49_6 : w47.cell? ⟨gb549, 6, none⟩ = some (.int .i64 a1_6) := (blk_cell BK549.out 6).trans rfl; have hfz49_0 := blk_frozen BK549.out 0; have hfz49_1 := blk_frozen BK549.out 1; have hfz49_2 := blk_frozen BK549.out 2; have hfz49_3 := blk_frozen BK549.out 3; have hfz49_4 := blk_frozen BK549.out 4; have hfz49_5 := blk_frozen BK549.out 5; have hfz49_6 := blk_frozen BK549.out 6) | (go_at_call 109; (with_reducible refine (spec_l1Least.calls a0_6 a1_6 t554 _ A40.out).mono ?_); rintro e w' ⟨rfl, ⟨nd, rfl⟩⟩))
          go_ret
          exact ⟨by first | rfl | (simp [errW_none, errW_some] <;> rfl) | (simp [*, errW_none, errW_some] <;> rfl), by repeat (first | (with_reducible first | exact HB.out | apply below_alloc | apply pw_below_drewN | apply below_drew1 | refine below_set ?_ GE548.out | refine below_set ?_ GE549.out) | exact HB.out)⟩
        · rw [if_neg c41] at H
          have c41b0 : decide (t554 ≤ t550) = false := decide_eq_false c41
          clear c41
          obtain rfl := Option.some.inj H
          go_enter Try.func98, Try.ntmps98
          go_wp2_with (first | ((with_reducible refine gate_dst (N := 2) rfl ?_); refine box_event ?hg (N := 2) ?hd (cs := #[.int .i64 a0_0, .int .i64 a0_1, .int .i64 a0_2, .int .i64 a0_3, .bool false, .int .i64 a0_5, .int .i64 a0_6]) (t := 30) ?hr ?_; (case hd => rfl); (case hg => rfl); (case hr => first | (go_simp; done) | (go_simp; rfl)); intro gb548 hg w50 hbox hb; have n0_ := Aside0.mk (below_step (by repeat (first | (with_reducible first | exact HB.out | apply below_alloc | apply pw_below_drewN | apply below_drew1) | exact HB.out)) hb); have n1_ := Aside0.mk (hbox); have n2_ := Aside0.mk ((by rw [hg]; exact (below_size (by repeat (first | (with_reducible first | exact HB.out | apply below_alloc | apply pw_below_drewN | apply below_drew1) | exact HB.out))) : w.heap.size ≤ gb548)); have n3_ := Aside0.mk ((by rw [hg]; exact (below_size (by repeat (first | (with_reducible first | exact HB.out | apply below_alloc | apply pw_below_drewN | apply below_drew1) | exact HB.out))) : w.heap.size ≤ gb548)); clear HB; have HB := n0_; have BK548 := n1_; have GW548 := n2_; have GE548 := n3_; clear n0_ n1_ n2_ n3_; clear hb hbox hg) | ((with_reducible refine gate_dst (N := 3) rfl ?_); refine box_event ?hg (N := 3) ?hd (cs := #[.int .i64 a1_0, .int .i64 a1_1, .int .i64 a1_2, .int .i64 a1_3, .bool true, .int .i64 a1_5, .int .i64 a1_6]) (t := 30) ?hr ?_; (case hd => rfl); (case hg => rfl); (case hr => first | (go_simp; done) | (go_simp; rfl)); intro gb549 hg w51 hbox hb; have n0_ := Aside0.mk (blk_below (g := gb548) (o := .cells #[.int .i64 a0_0, .int .i64 a0_1, .int .i64 a0_2, .int .i64 a0_3, .bool false, .int .i64 a0_5, .int .i64 a0_6] 30 (0, 0)) (by (with_reducible repeat (first | refine blk_drewN ?_ _ | refine blk_drew ?_ | refine blk_alloc ?_ _)); exact BK548.out) hb); have n1_ := Aside0.mk (below_step (by repeat (first | (with_reducible first | exact HB.out | apply below_alloc | apply pw_below_drewN | apply below_drew1 | refine below_set ?_ GE548.out) | exact HB.out)) hb); have n2_ := Aside0.mk (hbox); have n3_ := Aside0.mk ((by rw [hg]; exact (below_size (by repeat (first | (with_reducible first | exact HB.out | apply below_alloc | apply pw_below_drewN | apply below_drew1 | refine below_set ?_ GE548.out) | exact HB.out))) : w.heap.size ≤ gb549)); have n4_ := Aside0.mk ((by rw [hg]; exact (below_size (by repeat (first | (with_reducible first | exact HB.out | apply below_alloc | apply pw_below_drewN | apply below_drew1 | refine below_set ?_ GE548.out) | exact HB.out))) : w.heap.size ≤ gb549)); have n5_ := Aside0.mk ((by rw [hg]; exact Nat.ne_of_lt (blk_lt (g := gb548) (o := .cells #[.int .i64 a0_0, .int .i64 a0_1, .int .i64 a0_2, .int .i64 a0_3, .bool false, .int .i64 a0_5, .int .i64 a0_6] 30 (0, 0)) (by (with_reducible repeat (first | refine blk_drewN ?_ _ | refine blk_drew ?_ | refine blk_alloc ?_ _)); exact BK548.out)) : gb548 ≠ gb549)); have n6_ := Aside0.mk ((by rw [hg]; exact Nat.ne_of_gt (blk_lt (g := gb548) (o := .cells #[.int .i64 a0_0, .int .i64 a0_1, .int .i64 a0_2, .int .i64 a0_3, .bool false, .int .i64 a0_5, .int .i64 a0_6] 30 (0, 0)) (by (with_reducible repeat (first | refine blk_drewN ?_ _ | refine blk_drew ?_ | refine blk_alloc ?_ _)); exact BK548.out)) : gb549 ≠ gb548)); clear BK548; clear HB; have BK548 := n0_; have HB := n1_; have BK549 := n2_; have GW549 := n3_; have GE549 := n4_; have NB548_549 := n5_; have NB549_548 := n6_; clear n0_ n1_ n2_ n3_ n4_ n5_ n6_; clear hb hbox hg; have hnb52 := NB548_549.out; have hnc52 := NB549_548.out; have hcz53_0 : w51.cell? ⟨gb548, 0, none⟩ = some (.int .i64 a0_0) := (blk_cell BK548.out 0).trans rfl; have hcz53_1 : w51.cell? ⟨gb548, 1, none⟩ = some (.int .i64 a0_1) := (blk_cell BK548.out 1).trans rfl; have hcz53_2 : w51.cell? ⟨gb548, 2, none⟩ = some (.int .i64 a0_2) := (blk_cell BK548.out 2).trans rfl; have hcz53_3 : w51.cell? ⟨gb548, 3, none⟩ = some (.int .i64 a0_3) := (blk_cell BK548.out 3).trans rfl; have hcz53_4 : w51.cell? ⟨gb548, 4, none⟩ = some (.bool false) := (blk_cell BK548.out 4).trans rfl; have hcz53_5 : w51.cell? ⟨gb548, 5, none⟩ = some (.int .i64 a0_5) := (blk_cell BK548.out 5).trans rfl; have hcz53_6 : w51.cell? ⟨gb548, 6, none⟩ = some (.int .i64 a0_6) := (blk_cell BK548.out 6).trans rfl; have hfz53_0 := blk_frozen BK548.out 0; have hfz53_1 := blk_frozen BK548.out 1; have hfz53_2 := blk_frozen BK548.out 2; have hfz53_3 := blk_frozen BK548.out 3; have hfz53_4 := blk_frozen BK548.out 4; have hfz53_5 := blk_frozen BK548.out 5; have hfz53_6 := blk_frozen BK548.out 6; have hcz54_0 : w51.cell? ⟨gb549, 0, none⟩ = some (.int .i64 a1_0) := (blk_cell BK549.out 0).trans rfl; have hcz54_1 : w51.cell? ⟨gb549, 1, none⟩ = some (.int .i64 a1_1) := (blk_cell BK549.out 1).trans rfl; have hcz54_2 : w51.cell? ⟨gb549, 2, none⟩ = some (.int .i64 a1_2) := (blk_cell BK549.out 2).trans rfl; have hcz54_3 : w51.cell? ⟨gb549, 3, none⟩ = some (.int .i64 a1_3) := (blk_cell BK549.out 3).trans rfl; have hcz54_4 : w51.cell? ⟨gb549, 4, none⟩ = some (.bool true) := (blk_cell BK549.out 4).trans rfl; have hcz54_5 : w51.cell? ⟨gb549, 5, none⟩ = some (.int .i64 a1_5) := (blk_cell BK549.out 5).trans rfl; have hcz54_6 : w51.cell? ⟨gb549, 6, none⟩ = some (.int .i64 a1_6) := (blk_cell BK549.out 6).trans rfl; have hfz54_0 := blk_frozen BK549.out 0; have hfz54_1 := blk_frozen BK549.out 1; have hfz54_2 := blk_frozen BK549.out 2; have hfz54_3 := blk_frozen BK549.out 3; have hfz54_4 := blk_frozen BK549.out 4; have hfz54_5 := blk_frozen BK549.out 5; have hfz54_6 := blk_frozen BK549.out 6) | ((with_reducible refine gate_callee (f := 99) rfl ?_); refine goesL_ (some 10) rfl rfl Try.func99 (by kernel_rfl) rfl #[.int .i64 a0_5, .int .i64 a1_5] rfl (by (try simp only [List.map_toArray, List.map_cons, List.map_nil]); first | done | rfl | (simp only [List.length_drop, List.length_take]; rfl)) ?_; (with_reducible refine (spec_l1Most.calls a0_5 a1_5 t550 _ A3.out).mono ?_); rintro e w' ⟨rfl, ⟨nd, rfl⟩⟩; refine ⟨_, rfl, ?_⟩) | (go_at_call 125; (with_reducible refine (spec_l2Overlap.calls a0_0 a0_1 a0_2 a0_3 a1_0 a1_1 a1_2 a1_3 t553 _ A32.out).mono ?_); rintro e w55 ⟨rfl, hb⟩; have n0_ := Aside0.mk (blk_below (g := gb548) (o := .cells #[.int .i64 a0_0, .int .i64 a0_1, .int .i64 a0_2, .int .i64 a0_3, .bool false, .int .i64 a0_5, .int .i64 a0_6] 30 (0, 0)) (by (with_reducible repeat (first | refine blk_drewN ?_ _ | refine blk_drew ?_ | refine blk_alloc ?_ _)); exact BK548.out) hb); have n1_ := Aside0.mk (blk_below (g := gb549) (o := .cells #[.int .i64 a1_0, .int .i64 a1_1, .int .i64 a1_2, .int .i64 a1_3, .bool true, .int .i64 a1_5, .int .i64 a1_6] 30 (0, 0)) (by (with_reducible repeat (first | refine blk_drewN ?_ _ | refine blk_drew ?_ | refine blk_alloc ?_ _)); exact BK549.out) hb); have n2_ := Aside0.mk (below_step (by repeat (first | (with_reducible first | exact HB.out | apply below_alloc | apply pw_below_drewN | apply below_drew1 | refine below_set ?_ GE548.out | refine below_set ?_ GE549.out) | exact HB.out)) hb); clear BK548; clear BK549; clear HB; have BK548 := n0_; have BK549 := n1_; have HB := n2_; clear n0_ n1_ n2_; (try clear hb); (try clear hb2); (try clear hk); (try clear hi); have hcz56_0 : w55.cell? ⟨gb548, 0, none⟩ = some (.int .i64 a0_0) := (blk_cell BK548.out 0).trans rfl; have hcz56_1 : w55.cell? ⟨gb548, 1, none⟩ = some (.int .i64 a0_1) := (blk_cell BK548.out 1).trans rfl; have hcz56_2 : w55.cell? ⟨gb548, 2, none⟩ = some (.int .i64 a0_2) := (blk_cell BK548.out 2).trans rfl; have hcz56_3 : w55.cell? ⟨gb548, 3, none⟩ = some (.int .i64 a0_3) := (blk_cell BK548.out 3).trans rfl; have hcz56_4 : w55.cell? ⟨gb548, 4, none⟩ = some (.bool false) := (blk_cell BK548.out 4).trans rfl; have hcz56_5 : w55.cell? ⟨gb548, 5, none⟩ = some (.int .i64 a0_5) := (blk_cell BK548.out 5).trans rfl; have hcz56_6 : w55.cell? ⟨gb548, 6, none⟩ = some (.int .i64 a0_6) := (blk_cell BK548.out 6).trans rfl; have hfz56_0 := blk_frozen BK548.out 0; have hfz56_1 := blk_frozen BK548.out 1; have hfz56_2 := blk_frozen BK548.out 2; have hfz56_3 := blk_frozen BK548.out 3; have hfz56_4 := blk_frozen BK548.out 4; have hfz56_5 := blk_frozen BK548.out 5; have hfz56_6 := blk_frozen BK548.out 6; have hcz57_0 : w55.cell? ⟨gb549, 0, none⟩ = some (.int .i64 a1_0) := (blk_cell BK549.out 0).trans rfl; have hcz57_1 : w55.cell? ⟨gb549, 1, none⟩ = some (.int .i64 a1_1) := (blk_cell BK549.out 1).trans rfl; have hcz57_2 : w55.cell? ⟨gb549, 2, none⟩ = some (.int .i64 a1_2) := (blk_cell BK549.out 2).trans rfl; have hcz57_3 : w55.cell? ⟨gb549, 3, none⟩ = some (.int .i64 a1_3) := (blk_cell BK549.out 3).trans rfl; have hcz57_4 : w55.cell? ⟨gb549, 4, none⟩ = some (.bool true) := (blk_cell BK549.out 4).trans rfl; have hcz57_5 : w55.cell? ⟨gb549, 5, none⟩ = some (.int .i64 a1_5) := (blk_cell BK549.out 5).trans rfl; have hcz57_6 : w55.cell? ⟨gb549, 6, none⟩ = some (.int .i64 a1_6) := (blk_cell BK549.out 6).trans rfl; have hfz57_0 := blk_frozen BK549.out 0; have hfz57_1 := blk_frozen BK549.out 1; have hfz57_2 := blk_frozen BK549.out 2; have hfz57_3 := blk_frozen BK549.out 3; have hfz57_4 := blk_frozen BK549.out 4; have hfz57_5 := blk_frozen BK549.out 5; have hfz57_6 := blk_frozen BK549.out 6) | (go_at_call 109; (with_reducible refine (spec_l1Least.calls a0_6 a1_6 t554 _ A40.out).mono ?_); rintro e w' ⟨rfl, ⟨nd, rfl⟩⟩))
          go_ret
          exact ⟨by first | rfl | (simp [errW_none, errW_some] <;> rfl) | (simp [*, errW_none, errW_some] <;> rfl), by repeat (first | (with_reducible first | exact HB.out | apply below_alloc | apply pw_below_drewN | apply below_drew1 | refine below_set ?_ GE548.out | refine below_set ?_ GE549.out) | exact HB.out)⟩
    · replace c31 := Bool.eq_false_iff.mpr c31
      subst c31
      have H1 : (some (-1)) = some r := by rw [if_neg (show ¬ (false = true) by decide)] at H; exact H
      clear H
      have H := H1
      clear H1
      obtain rfl := Option.some.inj H
      go_enter Try.func98, Try.ntmps98
      go_wp2_with (first | ((with_reducible refine gate_dst (N := 2) rfl ?_); refine box_event ?hg (N := 2) ?hd (cs := #[.int .i64 a0_0, .int .i64 a0_1, .int .i64 a0_2, .int .i64 a0_3, .bool false, .int .i64 a0_5, .int .i64 a0_6]) (t := 30) ?hr ?_; (case hd => rfl); (case hg => rfl); (case hr => first | (go_simp; done) | (go_simp; rfl)); intro gb548 hg w58 hbox hb; have n0_ := Aside0.mk (below_step (by repeat (first | (with_reducible first | exact HB.out | apply below_alloc | apply pw_below_drewN | apply below_drew1) | exact HB.out)) hb); have n1_ := Aside0.mk (hbox); have n2_ := Aside0.mk ((by rw [hg]; exact (below_size (by repeat (first | (with_reducible first | exact HB.out | apply below_alloc | apply pw_below_drewN | apply below_drew1) | exact HB.out))) : w.heap.size ≤ gb548)); have n3_ := Aside0.mk ((by rw [hg]; exact (below_size (by repeat (first | (with_reducible first | exact HB.out | apply below_alloc | apply pw_below_drewN | apply below_drew1) | exact HB.out))) : w.heap.size ≤ gb548)); clear HB; have HB := n0_; have BK548 := n1_; have GW548 := n2_; have GE548 := n3_; clear n0_ n1_ n2_ n3_; clear hb hbox hg) | ((with_reducible refine gate_dst (N := 3) rfl ?_); refine box_event ?hg (N := 3) ?hd (cs := #[.int .i64 a1_0, .int .i64 a1_1, .int .i64 a1_2, .int .i64 a1_3, .bool false, .int .i64 a1_5, .int .i64 a1_6]) (t := 30) ?hr ?_; (case hd => rfl); (case hg => rfl); (case hr => first | (go_simp; done) | (go_simp; rfl)); intro gb549 hg w59 hbox hb; have n0_ := Aside0.mk (blk_below (g := gb548) (o := .cells #[.int .i64 a0_0, .int .i64 a0_1, .int .i64 a0_2, .int .i64 a0_3, .bool false, .int .i64 a0_5, .int .i64 a0_6] 30 (0, 0)) (by (with_reducible repeat (first | refine blk_drewN ?_ _ | refine blk_drew ?_ | refine blk_alloc ?_ _)); exact BK548.out) hb); have n1_ := Aside0.mk (below_step (by repeat (first | (with_reducible first | exact HB.out | apply below_alloc | apply pw_below_drewN | apply below_drew1 | refine below_set ?_ GE548.out) | exact HB.out)) hb); have n2_ := Aside0.mk (hbox); have n3_ := Aside0.mk ((by rw [hg]; exact (below_size (by repeat (first | (with_reducible first | exact HB.out | apply below_alloc | apply pw_below_drewN | apply below_drew1 | refine below_set ?_ GE548.out) | exact HB.out))) : w.heap.size ≤ gb549)); have n4_ := Aside0.mk ((by rw [hg]; exact (below_size (by repeat (first | (with_reducible first | exact HB.out | apply below_alloc | apply pw_below_drewN | apply below_drew1 | refine below_set ?_ GE548.out) | exact HB.out))) : w.heap.size ≤ gb549)); have n5_ := Aside0.mk ((by rw [hg]; exact Nat.ne_of_lt (blk_lt (g := gb548) (o := .cells #[.int .i64 a0_0, .int .i64 a0_1, .int .i64 a0_2, .int .i64 a0_3, .bool false, .int .i64 a0_5, .int .i64 a0_6] 30 (0, 0)) (by (with_reducible repeat (first | refine blk_drewN ?_ _ | refine blk_drew ?_ | refine blk_alloc ?_ _)); exact BK548.out)) : gb548 ≠ gb549)); have n6_ := Aside0.mk ((by rw [hg]; exact Nat.ne_of_gt (blk_lt (g := gb548) (o := .cells #[.int .i64 a0_0, .int .i64 a0_1, .int .i64 a0_2, .int .i64 a0_3, .bool false, .int .i64 a0_5, .int .i64 a0_6] 30 (0, 0)) (by (with_reducible repeat (first | refine blk_drewN ?_ _ | refine blk_drew ?_ | refine blk_alloc ?_ _)); exact BK548.out)) : gb549 ≠ gb548)); clear BK548; clear HB; have BK548 := n0_; have HB := n1_; have BK549 := n2_; have GW549 := n3_; have GE549 := n4_; have NB548_549 := n5_; have NB549_548 := n6_; clear n0_ n1_ n2_ n3_ n4_ n5_ n6_; clear hb hbox hg; have hnb60 := NB548_549.out; have hnc60 := NB549_548.out; have hcz61_0 : w59.cell? ⟨gb548, 0, none⟩ = some (.int .i64 a0_0) := (blk_cell BK548.out 0).trans rfl; have hcz61_1 : w59.cell? ⟨gb548, 1, none⟩ = some (.int .i64 a0_1) := (blk_cell BK548.out 1).trans rfl; have hcz61_2 : w59.cell? ⟨gb548, 2, none⟩ = some (.int .i64 a0_2) := (blk_cell BK548.out 2).trans rfl; have hcz61_3 : w59.cell? ⟨gb548, 3, none⟩ = some (.int .i64 a0_3) := (blk_cell BK548.out 3).trans rfl; have hcz61_4 : w59.cell? ⟨gb548, 4, none⟩ = some (.bool false) := (blk_cell BK548.out 4).trans rfl; have hcz61_5 : w59.cell? ⟨gb548, 5, none⟩ = some (.int .i64 a0_5) := (blk_cell BK548.out 5).trans rfl; have hcz61_6 : w59.cell? ⟨gb548, 6, none⟩ = some (.int .i64 a0_6) := (blk_cell BK548.out 6).trans rfl; have hfz61_0 := blk_frozen BK548.out 0; have hfz61_1 := blk_frozen BK548.out 1; have hfz61_2 := blk_frozen BK548.out 2; have hfz61_3 := blk_frozen BK548.out 3; have hfz61_4 := blk_frozen BK548.out 4; have hfz61_5 := blk_frozen BK548.out 5; have hfz61_6 := blk_frozen BK548.out 6; have hcz62_0 : w59.cell? ⟨gb549, 0, none⟩ = some (.int .i64 a1_0) := (blk_cell BK549.out 0).trans rfl; have hcz62_1 : w59.cell? ⟨gb549, 1, none⟩ = some (.int .i64 a1_1) := (blk_cell BK549.out 1).trans rfl; have hcz62_2 : w59.cell? ⟨gb549, 2, none⟩ = some (.int .i64 a1_2) := (blk_cell BK549.out 2).trans rfl; have hcz62_3 : w59.cell? ⟨gb549, 3, none⟩ = some (.int .i64 a1_3) := (blk_cell BK549.out 3).trans rfl; have hcz62_4 : w59.cell? ⟨gb549, 4, none⟩ = some (.bool false) := (blk_cell BK549.out 4).trans rfl; have hcz62_5 : w59.cell? ⟨gb549, 5, none⟩ = some (.int .i64 a1_5) := (blk_cell BK549.out 5).trans rfl; have hcz62_6 : w59.cell? ⟨gb549, 6, none⟩ = some (.int .i64 a1_6) := (blk_cell BK549.out 6).trans rfl; have hfz62_0 := blk_frozen BK549.out 0; have hfz62_1 := blk_frozen BK549.out 1; have hfz62_2 := blk_frozen BK549.out 2; have hfz62_3 := blk_frozen BK549.out 3; have hfz62_4 := blk_frozen BK549.out 4; have hfz62_5 := blk_frozen BK549.out 5; have hfz62_6 := blk_frozen BK549.out 6) | ((with_reducible refine gate_callee (f := 99) rfl ?_); refine goesL_ (some 10) rfl rfl Try.func99 (by kernel_rfl) rfl #[.int .i64 a0_5, .int .i64 a1_5] rfl (by (try simp only [List.map_toArray, List.map_cons, List.map_nil]); first | done | rfl | (simp only [List.length_drop, List.length_take]; rfl)) ?_; (with_reducible refine (spec_l1Most.calls a0_5 a1_5 t550 _ A3.out).mono ?_); rintro e w' ⟨rfl, ⟨nd, rfl⟩⟩; refine ⟨_, rfl, ?_⟩))
      go_ret
      exact ⟨by first | rfl | (simp [errW_none, errW_some] <;> rfl) | (simp [*, errW_none, errW_some] <;> rfl), by repeat (first | (with_reducible first | exact HB.out | apply below_alloc | apply pw_below_drewN | apply below_drew1 | refine below_set ?_ GE548.out | refine below_set ?_ GE549.out) | exact HB.out)⟩

end Go.Proofs.Ytpbboooeahmgpaa.P


namespace Go.Proofs.Ytpbboooeahmgpaa.P
open Go.RowKit Go.Proofs.YtpbboooeahmgpaaW.PrintWords Go.Proofs.YtpbboooeahmgpaaW.PrintLast Go.Proofs.YtpbboooeahmgpaaW.PrintMore
attribute [local go_sem] max2_int min2_int max_two min_two max_three min_three max_four min_four   -- for this text's walks alone
set_option linter.unusedVariables false
set_option linter.unusedSimpArgs false

/-! ### spec_l10Pairs: function 96 -/
mutual
def spec_l10Pairs.l0 : Nat → List (SimplLoan) → List (SA2int) → Int → Option ((List (SA2int)))
  | 0, _, _, _ => none
  | k + 1, x0, x3, x4 => if x4 < (x0.length : Int) then (spec_l10Pairs.l1 k x0 x3 x4 (wrap64 (x4 + 1))) else (some x3)
def spec_l10Pairs.l1 : Nat → List (SimplLoan) → List (SA2int) → Int → Int → Option ((List (SA2int)))
  | 0, _, _, _, _ => none
  | k + 1, x0, x3, x4, x5 => if x5 < (x0.length : Int) then (if 0 ≤ x4 then (if x4 < (x0.length : Int) then (if 0 ≤ x5 then ((spec_l10Clash.f ((rd_TimplLoan x0 x4).f0.f0) ((rd_TimplLoan x0 x4).f0.f1) ((rd_TimplLoan x0 x4).f0.f2) ((rd_TimplLoan x0 x4).f0.f3) ((rd_TimplLoan x0 x4).f1) ((rd_TimplLoan x0 x4).f2) ((rd_TimplLoan x0 x4).f3) ((rd_TimplLoan x0 x5).f0.f0) ((rd_TimplLoan x0 x5).f0.f1) ((rd_TimplLoan x0 x5).f0.f2) ((rd_TimplLoan x0 x5).f0.f3) ((rd_TimplLoan x0 x5).f1) ((rd_TimplLoan x0 x5).f2) ((rd_TimplLoan x0 x5).f3)).bind fun t768 => (if t768 ≥ 0 then (if x3.length < 8796093022208 then (spec_l10Pairs.l1 k x0 (x3 ++ [(⟨x4, x5⟩ : SA2int)]) x4 (wrap64 (x5 + 1))) else (none)) else (spec_l10Pairs.l1 k x0 x3 x4 (wrap64 (x5 + 1))))) else (none)) else (none)) else (none)) else (spec_l10Pairs.l0 k x0 x3 (wrap64 (x4 + 1)))
end
def spec_l10Pairs.f (k : Nat) (l0 : List (SimplLoan)) : Option ((List (SA2int))) := spec_l10Pairs.l0 k l0 (([] : List (SA2int))) 0
def spec_l10Pairs.T8 : Bool × List (List Nat × List Nat) := (true, [([], []), ([], []), ([0, 1], [0, 1]), ([2], [2]), ([], []), ([], []), ([4, 5], [4, 5]), ([6], [6]), ([3, 7], [3, 7]), ([8], [8])])
def spec_l10Pairs.B8 : List Nat := [0, 0, 3, 7, 0, 0, 48, 112, 255, 511]
theorem spec_l10Pairs.tab8 : rtab .any (opsOf Try.f96 8) = spec_l10Pairs.T8 := by kernel_rfl
theorem spec_l10Pairs.bits8 : waitsOk spec_l10Pairs.T8.2 spec_l10Pairs.B8 = true := by kernel_rfl
set_option maxHeartbeats 8000000 in
set_option maxRecDepth 100000 in
theorem spec_l10Pairs.calls (k : Nat) (A0 : Option Addr) (c0 : Nat) (l0 : List (SimplLoan)) (r : List (SA2int)) (w : World) (hr0 : Kd.C kimplLoan w A0 l0.length l0) (hc0 : l0.length ≤ c0) (h : spec_l10Pairs.f k l0 = some r) :
    Calls Try.prog 96 #[.slice A0 l0.length c0] w fun e w' => ∃ v0_ : Value, e = .returned (v0_) ∧ Kd.R kA2int 75 w' w.heap.size (fun _ => True) v0_ r ∧ Below w.heap.size w w' := by
  have hu30 := Try.underlying30
  have hu75 := Try.underlying75
  have HR0 := Aside0.mk hr0
  have HC0 := Aside0.mk hc0
  clear hr0 hc0
  have HB := Aside0.mk (Below.refl w.heap.size w)
  have H : (spec_l10Pairs.l0 k l0 (([] : List (SA2int))) 0) = some r := h
  clear h
  obtain ⟨y763, hy763⟩ : ∃ y_ : List (SA2int), y_ = (([] : List (SA2int))) := ⟨_, rfl⟩
  replace H : (spec_l10Pairs.l0 k l0 y763 0) = some r := by first | (rw [hy763]; with_reducible exact H) | (have H2_ := (Option.bind_some _ _).symm.trans H; rw [hy763]; with_reducible exact H2_) | (have H2_ := (Option.bind_some _ _).symm.trans H; with_reducible exact H2_) | with_reducible exact H | (rw [hy763]; exact H) | exact H
  have Ny763 := Aside0.mk hy763
  clear hy763
  have H' := Aside0.mk H
  clear H
  go_enter Try.func96, Try.ntmps96
  go_wp2_with (first | ((with_reducible refine gate_dst (N := 6) rfl ?_); refine Kd.R_lit kA2int _ 75 ?hg (N := 6) ?hd (xs := ([] : List (SA2int))) (inner := []) (ok := fun _ => True) (okp := fun _ => True) ?hr ?hp (fun _ hk => hk) trivial (Below.refl _ _) (Nat.le_refl _) (by simp) ?_; (case hd => rfl); (case hg => rfl); (case hr => first | (go_simp; done) | (go_simp; rfl)); (case hp => exact (Reps.none _ _)); intro v764 w2 ho3 hb hg_ hnew_; clear hg_ hnew_; (first | rw [← Ny763.out] at ho3 | (simp only [Int.reduceToNat] at ho3; rw [← Ny763.out] at ho3)); have n0_ := Aside0.mk (Kd.R_lower ho3 (below_size (by repeat (first | (with_reducible first | exact HB.out | apply below_alloc | apply pw_below_drewN | apply below_drew1) | exact HB.out)))); have n1_ := Aside0.mk (below_step (by repeat (first | (with_reducible first | exact HB.out | apply below_alloc | apply pw_below_drewN | apply below_drew1) | exact HB.out)) hb); clear HB; have HO765 := n0_; have HB := n1_; clear n0_ n1_; clear hb ho3))
  go_loopg [3, 4] k (fun kq v3 v4 w' => ∃ (x3_1 : List (SA2int)) (x4_1 : Int), v4 = .int .i64 x4_1 ∧ Aside0 (spec_l10Pairs.l0 kq l0 x3_1 x4_1 = some r) ∧ Aside0 (kq ≤ k) ∧ Aside0 (Kd.R kA2int 75 w' w.heap.size (fun _ => True) v3 x3_1) ∧ Aside0 (Below w.heap.size w w'))
  case atStart => exact ⟨(y763), (0), (by first | rfl | (simp; done) | (simp [*]; done)), H', ⟨Nat.le_refl _⟩, ⟨by (with_reducible repeat (first | apply Kd.R_alloc | apply Kd.R_drewN | apply Kd.R_drew)); exact HO765.out⟩, ⟨by repeat (first | (with_reducible first | exact HB.out | apply below_alloc | apply pw_below_drewN | apply below_drew1) | exact HB.out)⟩⟩
  case round =>
    clear H'
    try clear p2
    obtain ⟨x3_1, x4_1, rfl, HA, HK1, HO_3, HB⟩ := hrel
    cases gk with
    | zero => exact absurd HA.out (by simp [spec_l10Pairs.l0])
    | succ k1 =>
      have H := HA.out
      clear HA
      simp only [spec_l10Pairs.l0] at H
      by_cases c4 : x4_1 < (l0.length : Int)
      · rw [if_pos c4] at H
        have c4b0 : decide (x4_1 < (l0.length : Int)) = true := decide_eq_true c4
        clear c4
        have H' := Aside0.mk H
        clear H
        go_wp2
        go_loopg [3, 5] k1 (fun kq v3 v5 w' => ∃ (x3_2 : List (SA2int)) (x5_2 : Int), v5 = .int .i64 x5_2 ∧ Aside0 (spec_l10Pairs.l1 kq l0 x3_2 x4_1 x5_2 = some r) ∧ Aside0 (kq ≤ k1) ∧ Aside0 (Kd.R kA2int 75 w' w.heap.size (fun _ => True) v3 x3_2) ∧ Aside0 (Below w.heap.size w w'))
        case atStart => exact ⟨(x3_1), (wrap64 (x4_1 + 1)), (by first | rfl | (simp; done) | (simp [*]; done)), H', ⟨Nat.le_refl _⟩, ⟨by (with_reducible repeat (first | apply Kd.R_alloc | apply Kd.R_drewN | apply Kd.R_drew)); exact HO_3.out⟩, ⟨by repeat (first | (with_reducible first | exact HB.out | apply below_alloc | apply pw_below_drewN | apply below_drew1) | exact HB.out)⟩⟩
        case round =>
          clear H'
          try clear p2
          try clear c4
          try clear c4b0
          try clear p2
          obtain ⟨x3_2, x5_2, rfl, HA, HK2, HO_3, HB⟩ := hrel
          cases gk with
          | zero => exact absurd HA.out (by simp [spec_l10Pairs.l1])
          | succ k2 =>
            have H := HA.out
            clear HA
            simp only [spec_l10Pairs.l1] at H
            by_cases c5 : x5_2 < (l0.length : Int)
            · rw [if_pos c5] at H
              have c5b0 : decide (x5_2 < (l0.length : Int)) = true := decide_eq_true c5
              clear c5
              by_cases c6 : 0 ≤ x4_1
              · rw [if_pos c6] at H
                have c6b0 : decide (0 ≤ x4_1) = true := decide_eq_true c6
                clear c6
                by_cases c7 : x4_1 < (l0.length : Int)
                · rw [if_pos c7] at H
                  have c7b0 : decide (x4_1 < (l0.length : Int)) = true := decide_eq_true c7
                  clear c7
                  by_cases c8 : 0 ≤ x5_2
                  · rw [if_pos c8] at H
                    have c8b0 : decide (0 ≤ x5_2) = true := decide_eq_true c8
                    clear c8
                    replace H := Option.bind_eq_some_iff.mp H
                    obtain ⟨t768, A90, H⟩ := H
                    replace H : (if t768 ≥ 0 then (if x3_2.length < 8796093022208 then (spec_l10Pairs.l1 k2 l0 (x3_2 ++ [(⟨x4_1, x5_2⟩ : SA2int)]) x4_1 (wrap64 (x5_2 + 1))) else (none)) else (spec_l10Pairs.l1 k2 l0 x3_2 x4_1 (wrap64 (x5_2 + 1)))) = some r := H
                    have A9 := Aside0.mk A90
                    clear A90
                    by_cases c10 : t768 ≥ 0
                    · rw [if_pos c10] at H
                      have c10b0 : decide (0 ≤ t768) = true := decide_eq_true c10
                      clear c10
                      by_cases c11 : x3_2.length < 8796093022208
                      · rw [if_pos c11] at H
                        have LMc11 := Aside0.mk c11
                        clear c11
                        obtain ⟨y769, hy769⟩ : ∃ y_ : List (SA2int), y_ = (x3_2 ++ [(⟨x4_1, x5_2⟩ : SA2int)]) := ⟨_, rfl⟩
                        replace H : (spec_l10Pairs.l1 k2 l0 y769 x4_1 (wrap64 (x5_2 + 1))) = some r := by first | (rw [hy769]; with_reducible exact H) | (have H2_ := (Option.bind_some _ _).symm.trans H; rw [hy769]; with_reducible exact H2_) | (have H2_ := (Option.bind_some _ _).symm.trans H; with_reducible exact H2_) | with_reducible exact H | (rw [hy769]; exact H) | exact H
                        have Ny769 := Aside0.mk hy769
                        clear hy769
                        have H' := Aside0.mk H
                        clear H
                        try go_wp2
                        have n0_ := Aside0.mk (Kd.R_drew HO_3.out)
                        have n1_ := Aside0.mk (below_drew1 HB.out)
                        clear HO_3
                        clear HB
                        have HO_3 := n0_
                        have HB := n1_
                        clear n0_ n1_
                        have p766 : 0 ≤ (x4_1 : Int) := of_decide_eq_true (by first | (with_reducible assumption) | assumption)
                        have q766 : x4_1 < (l0.length : Int) := of_decide_eq_true (by first | (with_reducible assumption) | assumption)
                        obtain ⟨ad766, e766, hx766_0, hx766_1, hx766_2, hx766_3, hx766_4, hx766_5, hx766_6⟩ := at_TimplLoan HR0.out x4_1 p766 q766
                        have hw766_6 := hx766_6
                        have hw766_5 := hx766_5
                        have hw766_4 := hx766_4
                        have hw766_3 := hx766_3
                        have hw766_2 := hx766_2
                        have hw766_1 := hx766_1
                        have hw766_0 := hx766_0
                        cases e766
                        replace hx766_0 := (HB.out.cell (World.block_lt_of_cell? w _ hx766_0)).trans hx766_0
                        replace hx766_1 := (HB.out.cell (World.block_lt_of_cell? w _ hx766_1)).trans hx766_1
                        replace hx766_2 := (HB.out.cell (World.block_lt_of_cell? w _ hx766_2)).trans hx766_2
                        replace hx766_3 := (HB.out.cell (World.block_lt_of_cell? w _ hx766_3)).trans hx766_3
                        replace hx766_4 := (HB.out.cell (World.block_lt_of_cell? w _ hx766_4)).trans hx766_4
                        replace hx766_5 := (HB.out.cell (World.block_lt_of_cell? w _ hx766_5)).trans hx766_5
                        replace hx766_6 := (HB.out.cell (World.block_lt_of_cell? w _ hx766_6)).trans hx766_6
                        replace p766 := eq_true p766
                        replace q766 := eq_true q766
                        have p767 : 0 ≤ (x5_2 : Int) := of_decide_eq_true (by first | (with_reducible assumption) | assumption)
                        have q767 : x5_2 < (l0.length : Int) := of_decide_eq_true (by first | (with_reducible assumption) | assumption)
                        obtain ⟨ad767, e767, hx767_0, hx767_1, hx767_2, hx767_3, hx767_4, hx767_5, hx767_6⟩ := at_TimplLoan HR0.out x5_2 p767 q767
                        have hw767_6 := hx767_6
                        have hw767_5 := hx767_5
                        have hw767_4 := hx767_4
                        have hw767_3 := hx767_3
                        have hw767_2 := hx767_2
                        have hw767_1 := hx767_1
                        have hw767_0 := hx767_0
                        obtain rfl : ad766 = ad767 := (by injection e767)
                        replace hx767_0 := (HB.out.cell (World.block_lt_of_cell? w _ hx767_0)).trans hx767_0
                        replace hx767_1 := (HB.out.cell (World.block_lt_of_cell? w _ hx767_1)).trans hx767_1
                        replace hx767_2 := (HB.out.cell (World.block_lt_of_cell? w _ hx767_2)).trans hx767_2
                        replace hx767_3 := (HB.out.cell (World.block_lt_of_cell? w _ hx767_3)).trans hx767_3
                        replace hx767_4 := (HB.out.cell (World.block_lt_of_cell? w _ hx767_4)).trans hx767_4
                        replace hx767_5 := (HB.out.cell (World.block_lt_of_cell? w _ hx767_5)).trans hx767_5
                        replace hx767_6 := (HB.out.cell (World.block_lt_of_cell? w _ hx767_6)).trans hx767_6
                        replace p767 := eq_true p767
                        replace q767 := eq_true q767
                        refine start_ (n := 10) (S := fun w' => w'.cell? (ad766.add ((x4_1).toNat * 7)) = some (.int .i64 ((rd_TimplLoan l0 x4_1).f0.f0)) ∧ w'.cell? ⟨(ad766.add ((x4_1).toNat * 7)).block, (ad766.add ((x4_1).toNat * 7)).off + 1, none⟩ = some (.int .i64 ((rd_TimplLoan l0 x4_1).f0.f1)) ∧ w'.cell? ⟨(ad766.add ((x4_1).toNat * 7)).block, (ad766.add ((x4_1).toNat * 7)).off + 2, none⟩ = some (.int .i64 ((rd_TimplLoan l0 x4_1).f0.f2)) ∧ w'.cell? ⟨(ad766.add ((x4_1).toNat * 7)).block, (ad766.add ((x4_1).toNat * 7)).off + 3, none⟩ = some (.int .i64 ((rd_TimplLoan l0 x4_1).f0.f3)) ∧ w'.cell? ⟨(ad766.add ((x4_1).toNat * 7)).block, (ad766.add ((x4_1).toNat * 7)).off + 4, none⟩ = some (.bool ((rd_TimplLoan l0 x4_1).f1)) ∧ w'.cell? ⟨(ad766.add ((x4_1).toNat * 7)).block, (ad766.add ((x4_1).toNat * 7)).off + 5, none⟩ = some (.int .i64 ((rd_TimplLoan l0 x4_1).f2)) ∧ w'.cell? ⟨(ad766.add ((x4_1).toNat * 7)).block, (ad766.add ((x4_1).toNat * 7)).off + 6, none⟩ = some (.int .i64 ((rd_TimplLoan l0 x4_1).f3)) ∧ w'.cell? (ad766.add ((x5_2).toNat * 7)) = some (.int .i64 ((rd_TimplLoan l0 x5_2).f0.f0)) ∧ w'.cell? ⟨(ad766.add ((x5_2).toNat * 7)).block, (ad766.add ((x5_2).toNat * 7)).off + 1, none⟩ = some (.int .i64 ((rd_TimplLoan l0 x5_2).f0.f1)) ∧ w'.cell? ⟨(ad766.add ((x5_2).toNat * 7)).block, (ad766.add ((x5_2).toNat * 7)).off + 2, none⟩ = some (.int .i64 ((rd_TimplLoan l0 x5_2).f0.f2)) ∧ w'.cell? ⟨(ad766.add ((x5_2).toNat * 7)).block, (ad766.add ((x5_2).toNat * 7)).off + 3, none⟩ = some (.int .i64 ((rd_TimplLoan l0 x5_2).f0.f3)) ∧ w'.cell? ⟨(ad766.add ((x5_2).toNat * 7)).block, (ad766.add ((x5_2).toNat * 7)).off + 4, none⟩ = some (.bool ((rd_TimplLoan l0 x5_2).f1)) ∧ w'.cell? ⟨(ad766.add ((x5_2).toNat * 7)).block, (ad766.add ((x5_2).toNat * 7)).off + 5, none⟩ = some (.int .i64 ((rd_TimplLoan l0 x5_2).f2)) ∧ w'.cell? ⟨(ad766.add ((x5_2).toNat * 7)).block, (ad766.add ((x5_2).toNat * 7)).off + 6, none⟩ = some (.int .i64 ((rd_TimplLoan l0 x5_2).f3))) (ds := []) #[false, false, false, false, false, false, false, false, false, false] (by kernel_rfl) rfl rfl ⟨(by have h_ := ((HB.out.cell (World.block_lt_of_cell? w _ hw766_0)).trans hw766_0); first | exact h_ | (simp only [*] at h_; exact h_) | simpa [*] using h_), (by have h_ := ((HB.out.cell (World.block_lt_of_cell? w _ hw766_1)).trans hw766_1); first | exact h_ | (simp only [*] at h_; exact h_) | simpa [*] using h_), (by have h_ := ((HB.out.cell (World.block_lt_of_cell? w _ hw766_2)).trans hw766_2); first | exact h_ | (simp only [*] at h_; exact h_) | simpa [*] using h_), (by have h_ := ((HB.out.cell (World.block_lt_of_cell? w _ hw766_3)).trans hw766_3); first | exact h_ | (simp only [*] at h_; exact h_) | simpa [*] using h_), (by have h_ := ((HB.out.cell (World.block_lt_of_cell? w _ hw766_4)).trans hw766_4); first | exact h_ | (simp only [*] at h_; exact h_) | simpa [*] using h_), (by have h_ := ((HB.out.cell (World.block_lt_of_cell? w _ hw766_5)).trans hw766_5); first | exact h_ | (simp only [*] at h_; exact h_) | simpa [*] using h_), (by have h_ := ((HB.out.cell (World.block_lt_of_cell? w _ hw766_6)).trans hw766_6); first | exact h_ | (simp only [*] at h_; exact h_) | simpa [*] using h_), (by have h_ := ((HB.out.cell (World.block_lt_of_cell? w _ hw767_0)).trans hw767_0); first | exact h_ | (simp only [*] at h_; exact h_) | simpa [*] using h_), (by have h_ := ((HB.out.cell (World.block_lt_of_cell? w _ hw767_1)).trans hw767_1); first | exact h_ | (simp only [*] at h_; exact h_) | simpa [*] using h_), (by have h_ := ((HB.out.cell (World.block_lt_of_cell? w _ hw767_2)).trans hw767_2); first | exact h_ | (simp only [*] at h_; exact h_) | simpa [*] using h_), (by have h_ := ((HB.out.cell (World.block_lt_of_cell? w _ hw767_3)).trans hw767_3); first | exact h_ | (simp only [*] at h_; exact h_) | simpa [*] using h_), (by have h_ := ((HB.out.cell (World.block_lt_of_cell? w _ hw767_4)).trans hw767_4); first | exact h_ | (simp only [*] at h_; exact h_) | simpa [*] using h_), (by have h_ := ((HB.out.cell (World.block_lt_of_cell? w _ hw767_5)).trans hw767_5); first | exact h_ | (simp only [*] at h_; exact h_) | simpa [*] using h_), (by have h_ := ((HB.out.cell (World.block_lt_of_cell? w _ hw767_6)).trans hw767_6); first | exact h_ | (simp only [*] at h_; exact h_) | simpa [*] using h_)⟩ (fun hHeld => ?_); refine with_tabW spec_l10Pairs.tab8 spec_l10Pairs.bits8 (fun HT_ HW_ => ?_)
                        generalize wr.drew = w12 at HO_3 HB hx766_0 hx766_1 hx766_2 hx766_3 hx766_4 hx766_5 hx766_6 hx767_0 hx767_1 hx767_2 hx767_3 hx767_4 hx767_5 hx767_6 hHeld ⊢
                        refine pure_ (i := 0) (N := some 21) (v := ?_) (a' := ?_) #[true, false, false, false, false, false, false, false, false, false] rfl rfl (any_of HT_.out (by kernel_rfl)) (fun _ _ _ h => h) (Or.inl ⟨by rfl, ?_⟩) ?_ ?_
                        rotate_left
                        · intro w'
                          go_simp
                          with_reducible rfl
                        rotate_left
                        · simp only [Act.put, List.setIfInBounds_toArray, List.set_cons_zero, List.set_cons_succ, i64_w, i32_w]
                          rfl
                        refine pure_ (i := 1) (N := some 22) (v := ?_) (a' := ?_) #[true, true, false, false, false, false, false, false, false, false] rfl rfl (any_of HT_.out (by kernel_rfl)) (fun _ _ _ h => h) (Or.inl ⟨by rfl, ?_⟩) ?_ ?_
                        rotate_left
                        · intro w'
                          go_simp
                          with_reducible rfl
                        rotate_left
                        · simp only [Act.put, List.setIfInBounds_toArray, List.set_cons_zero, List.set_cons_succ, i64_w, i32_w]
                          rfl
                        refine pure_ (i := 2) (N := some 23) (v := ?_) (a' := ?_) #[true, true, true, false, false, false, false, false, false, false] rfl rfl (any_of HT_.out (by kernel_rfl)) (fun _ _ _ h => h) (Or.inl ⟨by rfl, ?_⟩) ?_ ?_
                        rotate_left
                        · intro w'
                          go_simp
                          with_reducible rfl
                        rotate_left
                        · simp only [Act.put, List.setIfInBounds_toArray, List.set_cons_zero, List.set_cons_succ, i64_w, i32_w]
                          rfl
                        refine pure_ (i := 4) (N := some 25) (v := ?_) (a' := ?_) #[true, true, true, false, true, false, false, false, false, false] rfl rfl (any_of HT_.out (by kernel_rfl)) (fun _ _ _ h => h) (Or.inl ⟨by rfl, ?_⟩) ?_ ?_
                        rotate_left
                        · intro w'
                          go_simp
                          with_reducible rfl
                        rotate_left
                        · simp only [Act.put, List.setIfInBounds_toArray, List.set_cons_zero, List.set_cons_succ, i64_w, i32_w]
                          rfl
                        refine pure_ (i := 5) (N := some 26) (v := ?_) (a' := ?_) #[true, true, true, false, true, true, false, false, false, false] rfl rfl (any_of HT_.out (by kernel_rfl)) (fun _ _ _ h => h) (Or.inl ⟨by rfl, ?_⟩) ?_ ?_
                        rotate_left
                        · intro w'
                          go_simp
                          with_reducible rfl
                        rotate_left
                        · simp only [Act.put, List.setIfInBounds_toArray, List.set_cons_zero, List.set_cons_succ, i64_w, i32_w]
                          rfl
                        refine pure_ (i := 6) (N := some 27) (v := ?_) (a' := ?_) #[true, true, true, false, true, true, true, false, false, false] rfl rfl (any_of HT_.out (by kernel_rfl)) (fun _ _ _ h => h) (Or.inl ⟨by rfl, ?_⟩) ?_ ?_
                        rotate_left
                        · intro w'
                          go_simp
                          with_reducible rfl
                        rotate_left
                        · simp only [Act.put, List.setIfInBounds_toArray, List.set_cons_zero, List.set_cons_succ, i64_w, i32_w]
                          rfl
                        refine take_ (i := 3) (N := some 24) (v := ?_) (a' := ?_) #[true, true, true, true, true, true, true, false, false, false] rfl rfl (take_ofW HT_.out HW_.out (by kernel_rfl)) (fun _ _ _ h => h) (Or.inl ⟨by rfl, ?_⟩) hHeld ?_ ?_
                        rotate_left
                        · rintro w' ⟨s0, s1, s2, s3, s4, s5, s6, s7, s8, s9, s10, s11, s12, s13⟩
                          go_simp
                          with_reducible rfl
                        rotate_left
                        · simp only [Act.put, List.setIfInBounds_toArray, List.set_cons_zero, List.set_cons_succ, i64_w, i32_w]
                          rfl
                        refine take_ (i := 7) (N := some 28) (v := ?_) (a' := ?_) #[true, true, true, true, true, true, true, true, false, false] rfl rfl (take_ofW HT_.out HW_.out (by kernel_rfl)) (fun _ _ _ h => h) (Or.inl ⟨by rfl, ?_⟩) hHeld ?_ ?_
                        rotate_left
                        · rintro w' ⟨s0, s1, s2, s3, s4, s5, s6, s7, s8, s9, s10, s11, s12, s13⟩
                          go_simp
                          with_reducible rfl
                        rotate_left
                        · simp only [Act.put, List.setIfInBounds_toArray, List.set_cons_zero, List.set_cons_succ, i64_w, i32_w]
                          rfl
                        refine one_ (i := 8) (N := some 29) #[true, true, true, true, true, true, true, true, true, false] rfl rfl (one_of HT_.out (by kernel_rfl)) (by decide) (fun K hK => ?_)
                        refine goes_ Try.func98 (by kernel_rfl) rfl #[.agg #[.int .i64 ((rd_TimplLoan l0 x4_1).f0.f0), .int .i64 ((rd_TimplLoan l0 x4_1).f0.f1), .int .i64 ((rd_TimplLoan l0 x4_1).f0.f2), .int .i64 ((rd_TimplLoan l0 x4_1).f0.f3), .bool ((rd_TimplLoan l0 x4_1).f1), .int .i64 ((rd_TimplLoan l0 x4_1).f2), .int .i64 ((rd_TimplLoan l0 x4_1).f3)], .agg #[.int .i64 ((rd_TimplLoan l0 x5_2).f0.f0), .int .i64 ((rd_TimplLoan l0 x5_2).f0.f1), .int .i64 ((rd_TimplLoan l0 x5_2).f0.f2), .int .i64 ((rd_TimplLoan l0 x5_2).f0.f3), .bool ((rd_TimplLoan l0 x5_2).f1), .int .i64 ((rd_TimplLoan l0 x5_2).f2), .int .i64 ((rd_TimplLoan l0 x5_2).f3)]] (by rfl) rfl rfl (by (try simp only [List.map_toArray, List.map_cons, List.map_nil]); first | done | rfl | (simp only [List.length_drop, List.length_take]; rfl)) ?_
                        with_reducible refine (spec_l10Clash.calls ((rd_TimplLoan l0 x4_1).f0.f0) ((rd_TimplLoan l0 x4_1).f0.f1) ((rd_TimplLoan l0 x4_1).f0.f2) ((rd_TimplLoan l0 x4_1).f0.f3) ((rd_TimplLoan l0 x4_1).f1) ((rd_TimplLoan l0 x4_1).f2) ((rd_TimplLoan l0 x4_1).f3) ((rd_TimplLoan l0 x5_2).f0.f0) ((rd_TimplLoan l0 x5_2).f0.f1) ((rd_TimplLoan l0 x5_2).f0.f2) ((rd_TimplLoan l0 x5_2).f0.f3) ((rd_TimplLoan l0 x5_2).f1) ((rd_TimplLoan l0 x5_2).f2) ((rd_TimplLoan l0 x5_2).f3) t768 _ A9.out).mono ?_
                        rintro e w13 ⟨rfl, hb⟩
                        refine ⟨_, rfl, ?_⟩
                        have n0_ := Aside0.mk (Kd.R_below (by (with_reducible repeat (first | apply Kd.R_alloc | apply Kd.R_drewN | apply Kd.R_drew)); exact HO_3.out) hb)
                        have n1_ := Aside0.mk (below_step (by repeat (first | (with_reducible first | exact HB.out | apply below_alloc | apply pw_below_drewN | apply below_drew1) | exact HB.out)) hb)
                        clear HO_3
                        clear HB
                        have HO_3 := n0_
                        have HB := n1_
                        clear n0_ n1_
                        (try clear hb)
                        (try clear hb2)
                        (try clear hk)
                        (try clear hi)
                        refine hK.out _ _ ⟨(by have h_ := ((HB.out.cell (World.block_lt_of_cell? w _ hw766_0)).trans hw766_0); first | exact h_ | (simp only [*] at h_; exact h_) | simpa [*] using h_), (by have h_ := ((HB.out.cell (World.block_lt_of_cell? w _ hw766_1)).trans hw766_1); first | exact h_ | (simp only [*] at h_; exact h_) | simpa [*] using h_), (by have h_ := ((HB.out.cell (World.block_lt_of_cell? w _ hw766_2)).trans hw766_2); first | exact h_ | (simp only [*] at h_; exact h_) | simpa [*] using h_), (by have h_ := ((HB.out.cell (World.block_lt_of_cell? w _ hw766_3)).trans hw766_3); first | exact h_ | (simp only [*] at h_; exact h_) | simpa [*] using h_), (by have h_ := ((HB.out.cell (World.block_lt_of_cell? w _ hw766_4)).trans hw766_4); first | exact h_ | (simp only [*] at h_; exact h_) | simpa [*] using h_), (by have h_ := ((HB.out.cell (World.block_lt_of_cell? w _ hw766_5)).trans hw766_5); first | exact h_ | (simp only [*] at h_; exact h_) | simpa [*] using h_), (by have h_ := ((HB.out.cell (World.block_lt_of_cell? w _ hw766_6)).trans hw766_6); first | exact h_ | (simp only [*] at h_; exact h_) | simpa [*] using h_), (by have h_ := ((HB.out.cell (World.block_lt_of_cell? w _ hw767_0)).trans hw767_0); first | exact h_ | (simp only [*] at h_; exact h_) | simpa [*] using h_), (by have h_ := ((HB.out.cell (World.block_lt_of_cell? w _ hw767_1)).trans hw767_1); first | exact h_ | (simp only [*] at h_; exact h_) | simpa [*] using h_), (by have h_ := ((HB.out.cell (World.block_lt_of_cell? w _ hw767_2)).trans hw767_2); first | exact h_ | (simp only [*] at h_; exact h_) | simpa [*] using h_), (by have h_ := ((HB.out.cell (World.block_lt_of_cell? w _ hw767_3)).trans hw767_3); first | exact h_ | (simp only [*] at h_; exact h_) | simpa [*] using h_), (by have h_ := ((HB.out.cell (World.block_lt_of_cell? w _ hw767_4)).trans hw767_4); first | exact h_ | (simp only [*] at h_; exact h_) | simpa [*] using h_), (by have h_ := ((HB.out.cell (World.block_lt_of_cell? w _ hw767_5)).trans hw767_5); first | exact h_ | (simp only [*] at h_; exact h_) | simpa [*] using h_), (by have h_ := ((HB.out.cell (World.block_lt_of_cell? w _ hw767_6)).trans hw767_6); first | exact h_ | (simp only [*] at h_; exact h_) | simpa [*] using h_)⟩ (fun hHeld => ?_)
                        clear hK K
                        refine norm_ (a' := ?_) ?_ ?_
                        rotate_left
                        · show Act.put _ (some 29) _ = _
                          simp only [Act.put, List.setIfInBounds_toArray, List.set_cons_zero, List.set_cons_succ, i64_w, i32_w]
                          rfl
                        refine pure_ (i := 9) (N := some 30) (v := ?_) (a' := ?_) #[true, true, true, true, true, true, true, true, true, true] rfl rfl (any_of HT_.out (by kernel_rfl)) (fun _ _ _ h => h) (Or.inl ⟨by rfl, ?_⟩) ?_ ?_
                        rotate_left
                        · intro w'
                          go_simp
                          with_reducible rfl
                        rotate_left
                        · simp only [Act.put, List.setIfInBounds_toArray, List.set_cons_zero, List.set_cons_succ, i64_w, i32_w]
                          rfl
                        refine done_ (done_of HT_.out (by kernel_rfl)) ?_
                        try go_wp2_with (first | ((with_reducible refine gate_builtin (b := .append) (xs := #[.tmp 31, .tmp 35]) rfl ?_); at_builtin; refine Kd.R_append kA2int (w0 := w) w.heap.size rfl (.tmp 31) (.tmp 35) 40 75 (.agg #[(.int .i64 0), (.int .i64 0)]) 16 rfl Try.underlying40 info75 rfl (by decide) (by omega) u3 x3_2 (⟨x4_1, x5_2⟩ : SA2int) [.int .i64 x4_1, .int .i64 x5_2] (fun _ => True) (fun _ => False) rfl rfl ?aP (fun _ hk => hk.elim) ?aF ?aO ?aB ?aS ?aL ?_; (case aP => exact kA2int_mkM _ _ _ (⟨x4_1, x5_2⟩ : SA2int)); (case aB => exact (by repeat (first | (with_reducible first | exact HB.out | apply below_alloc | apply pw_below_drewN | apply below_drew1) | exact HB.out))); (case aF => exact (fun _ _ => trivial)); (case aO => exact (by (with_reducible repeat (first | apply Kd.R_alloc | apply Kd.R_drewN | apply Kd.R_drew)); exact HO_3.out)); (case aS => exact (below_size (by repeat (first | (with_reducible first | exact HB.out | apply below_alloc | apply pw_below_drewN | apply below_drew1) | exact HB.out)))); (case aL => have := LMc11.out; omega); intro v770 w14 ho hb hg hat; rw [← Ny769.out] at ho; have n0_ := Aside0.mk (hb); have n1_ := Aside0.mk (ho); clear HB; clear HO_3; have HB := n0_; have HO771 := n1_; clear n0_ n1_; clear ho hb hg hat))
                        go_roundg k2
                        case measure => have := HK1.out; have := HK2.out; omega
                        case rel => exact ⟨(y769), (wrap64 (x5_2 + 1)), (by first | rfl | (simp; done) | (simp [*]; done)), H', ⟨by have := HK1.out; have := HK2.out; omega⟩, ⟨by (with_reducible repeat (first | apply Kd.R_alloc | apply Kd.R_drewN | apply Kd.R_drew)); exact HO771.out⟩, ⟨by repeat (first | (with_reducible first | exact HB.out | apply below_alloc | apply pw_below_drewN | apply below_drew1) | exact HB.out)⟩⟩
                      · rw [if_neg c11] at H
                        exact absurd H (by simp)
                    · rw [if_neg c10] at H
                      have c10b0 : decide (0 ≤ t768) = false := decide_eq_false c10
                      clear c10
                      have H' := Aside0.mk H
                      clear H
                      try go_wp2
                      have n0_ := Aside0.mk (Kd.R_drew HO_3.out)
                      have n1_ := Aside0.mk (below_drew1 HB.out)
                      clear HO_3
                      clear HB
                      have HO_3 := n0_
                      have HB := n1_
                      clear n0_ n1_
                      have p766 : 0 ≤ (x4_1 : Int) := of_decide_eq_true (by first | (with_reducible assumption) | assumption)
                      have q766 : x4_1 < (l0.length : Int) := of_decide_eq_true (by first | (with_reducible assumption) | assumption)
                      obtain ⟨ad766, e766, hx766_0, hx766_1, hx766_2, hx766_3, hx766_4, hx766_5, hx766_6⟩ := at_TimplLoan HR0.out x4_1 p766 q766
                      have hw766_6 := hx766_6
                      have hw766_5 := hx766_5
                      have hw766_4 := hx766_4
                      have hw766_3 := hx766_3
                      have hw766_2 := hx766_2
                      have hw766_1 := hx766_1
                      have hw766_0 := hx766_0
                      cases e766
                      replace hx766_0 := (HB.out.cell (World.block_lt_of_cell? w _ hx766_0)).trans hx766_0
                      replace hx766_1 := (HB.out.cell (World.block_lt_of_cell? w _ hx766_1)).trans hx766_1
                      replace hx766_2 := (HB.out.cell (World.block_lt_of_cell? w _ hx766_2)).trans hx766_2
                      replace hx766_3 := (HB.out.cell (World.block_lt_of_cell? w _ hx766_3)).trans hx766_3
                      replace hx766_4 := (HB.out.cell (World.block_lt_of_cell? w _ hx766_4)).trans hx766_4
                      replace hx766_5 := (HB.out.cell (World.block_lt_of_cell? w _ hx766_5)).trans hx766_5
                      replace hx766_6 := (HB.out.cell (World.block_lt_of_cell? w _ hx766_6)).trans hx766_6
                      replace p766 := eq_true p766
                      replace q766 := eq_true q766
                      have p767 : 0 ≤ (x5_2 : Int) := of_decide_eq_true (by first | (with_reducible assumption) | assumption)
                      have q767 : x5_2 < (l0.length : Int) := of_decide_eq_true (by first | (with_reducible assumption) | assumption)
                      obtain ⟨ad767, e767, hx767_0, hx767_1, hx767_2, hx767_3, hx767_4, hx767_5, hx767_6⟩ := at_TimplLoan HR0.out x5_2 p767 q767
                      have hw767_6 := hx767_6
                      have hw767_5 := hx767_5
                      have hw767_4 := hx767_4
                      have hw767_3 := hx767_3
                      have hw767_2 := hx767_2
                      have hw767_1 := hx767_1
                      have hw767_0 := hx767_0
                      obtain rfl : ad766 = ad767 := (by injection e767)
                      replace hx767_0 := (HB.out.cell (World.block_lt_of_cell? w _ hx767_0)).trans hx767_0
                      replace hx767_1 := (HB.out.cell (World.block_lt_of_cell? w _ hx767_1)).trans hx767_1
                      replace hx767_2 := (HB.out.cell (World.block_lt_of_cell? w _ hx767_2)).trans hx767_2
                      replace hx767_3 := (HB.out.cell (World.block_lt_of_cell? w _ hx767_3)).trans hx767_3
                      replace hx767_4 := (HB.out.cell (World.block_lt_of_cell? w _ hx767_4)).trans hx767_4
                      replace hx767_5 := (HB.out.cell (World.block_lt_of_cell? w _ hx767_5)).trans hx767_5
                      replace hx767_6 := (HB.out.cell (World.block_lt_of_cell? w _ hx767_6)).trans hx767_6
                      replace p767 := eq_true p767
                      replace q767 := eq_true q767
                      refine start_ (n := 10) (S := fun w' => w'.cell? (ad766.add ((x4_1).toNat * 7)) = some (.int .i64 ((rd_TimplLoan l0 x4_1).f0.f0)) ∧ w'.cell? ⟨(ad766.add ((x4_1).toNat * 7)).block, (ad766.add ((x4_1).toNat * 7)).off + 1, none⟩ = some (.int .i64 ((rd_TimplLoan l0 x4_1).f0.f1)) ∧ w'.cell? ⟨(ad766.add ((x4_1).toNat * 7)).block, (ad766.add ((x4_1).toNat * 7)).off + 2, none⟩ = some (.int .i64 ((rd_TimplLoan l0 x4_1).f0.f2)) ∧ w'.cell? ⟨(ad766.add ((x4_1).toNat * 7)).block, (ad766.add ((x4_1).toNat * 7)).off + 3, none⟩ = some (.int .i64 ((rd_TimplLoan l0 x4_1).f0.f3)) ∧ w'.cell? ⟨(ad766.add ((x4_1).toNat * 7)).block, (ad766.add ((x4_1).toNat * 7)).off + 4, none⟩ = some (.bool ((rd_TimplLoan l0 x4_1).f1)) ∧ w'.cell? ⟨(ad766.add ((x4_1).toNat * 7)).block, (ad766.add ((x4_1).toNat * 7)).off + 5, none⟩ = some (.int .i64 ((rd_TimplLoan l0 x4_1).f2)) ∧ w'.cell? ⟨(ad766.add ((x4_1).toNat * 7)).block, (ad766.add ((x4_1).toNat * 7)).off + 6, none⟩ = some (.int .i64 ((rd_TimplLoan l0 x4_1).f3)) ∧ w'.cell? (ad766.add ((x5_2).toNat * 7)) = some (.int .i64 ((rd_TimplLoan l0 x5_2).f0.f0)) ∧ w'.cell? ⟨(ad766.add ((x5_2).toNat * 7)).block, (ad766.add ((x5_2).toNat * 7)).off + 1, none⟩ = some (.int .i64 ((rd_TimplLoan l0 x5_2).f0.f1)) ∧ w'.cell? ⟨(ad766.add ((x5_2).toNat * 7)).block, (ad766.add ((x5_2).toNat * 7)).off + 2, none⟩ = some (.int .i64 ((rd_TimplLoan l0 x5_2).f0.f2)) ∧ w'.cell? ⟨(ad766.add ((x5_2).toNat * 7)).block, (ad766.add ((x5_2).toNat * 7)).off + 3, none⟩ = some (.int .i64 ((rd_TimplLoan l0 x5_2).f0.f3)) ∧ w'.cell? ⟨(ad766.add ((x5_2).toNat * 7)).block, (ad766.add ((x5_2).toNat * 7)).off + 4, none⟩ = some (.bool ((rd_TimplLoan l0 x5_2).f1)) ∧ w'.cell? ⟨(ad766.add ((x5_2).toNat * 7)).block, (ad766.add ((x5_2).toNat * 7)).off + 5, none⟩ = some (.int .i64 ((rd_TimplLoan l0 x5_2).f2)) ∧ w'.cell? ⟨(ad766.add ((x5_2).toNat * 7)).block, (ad766.add ((x5_2).toNat * 7)).off + 6, none⟩ = some (.int .i64 ((rd_TimplLoan l0 x5_2).f3))) (ds := []) #[false, false, false, false, false, false, false, false, false, false] (by kernel_rfl) rfl rfl ⟨(by have h_ := ((HB.out.cell (World.block_lt_of_cell? w _ hw766_0)).trans hw766_0); first | exact h_ | (simp only [*] at h_; exact h_) | simpa [*] using h_), (by have h_ := ((HB.out.cell (World.block_lt_of_cell? w _ hw766_1)).trans hw766_1); first | exact h_ | (simp only [*] at h_; exact h_) | simpa [*] using h_), (by have h_ := ((HB.out.cell (World.block_lt_of_cell? w _ hw766_2)).trans hw766_2); first | exact h_ | (simp only [*] at h_; exact h_) | simpa [*] using h_), (by have h_ := ((HB.out.cell (World.block_lt_of_cell? w _ hw766_3)).trans hw766_3); first | exact h_ | (simp only [*] at h_; exact h_) | simpa [*] using h_), (by have h_ := ((HB.out.cell (World.block_lt_of_cell? w _ hw766_4)).trans hw766_4); first | exact h_ | (simp only [*] at h_; exact h_) | simpa [*] using h_), (by have h_ := ((HB.out.cell (World.block_lt_of_cell? w _ hw766_5)).trans hw766_5); first | exact h_ | (simp only [*] at h_; exact h_) | simpa [*] using h_), (by have h_ := ((HB.out.cell (World.block_lt_of_cell? w _ hw766_6)).trans hw766_6); first | exact h_ | (simp only [*] at h_; exact h_) | simpa [*] using h_), (by have h_ := ((HB.out.cell (World.block_lt_of_cell? w _ hw767_0)).trans hw767_0); first | exact h_ | (simp only [*] at h_; exact h_) | simpa [*] using h_), (by have h_ := ((HB.out.cell (World.block_lt_of_cell? w _ hw767_1)).trans hw767_1); first | exact h_ | (simp only [*] at h_; exact h_) | simpa [*] using h_), (by have h_ := ((HB.out.cell (World.block_lt_of_cell? w _ hw767_2)).trans hw767_2); first | exact h_ | (simp only [*] at h_; exact h_) | simpa [*] using h_), (by have h_ := ((HB.out.cell (World.block_lt_of_cell? w _ hw767_3)).trans hw767_3); first | exact h_ | (simp only [*] at h_; exact h_) | simpa [*] using h_), (by have h_ := ((HB.out.cell (World.block_lt_of_cell? w _ hw767_4)).trans hw767_4); first | exact h_ | (simp only [*] at h_; exact h_) | simpa [*] using h_), (by have h_ := ((HB.out.cell (World.block_lt_of_cell? w _ hw767_5)).trans hw767_5); first | exact h_ | (simp only [*] at h_; exact h_) | simpa [*] using h_), (by have h_ := ((HB.out.cell (World.block_lt_of_cell? w _ hw767_6)).trans hw767_6); first | exact h_ | (simp only [*] at h_; exact h_) | simpa [*] using h_)⟩ (fun hHeld => ?_); refine with_tabW spec_l10Pairs.tab8 spec_l10Pairs.bits8 (fun HT_ HW_ => ?_)
                      generalize wr.drew = w15 at HO_3 HB hx766_0 hx766_1 hx766_2 hx766_3 hx766_4 hx766_5 hx766_6 hx767_0 hx767_1 hx767_2 hx767_3 hx767_4 hx767_5 hx767_6 hHeld ⊢
                      refine pure_ (i := 0) (N := some 21) (v := ?_) (a' := ?_) #[true, false, false, false, false, false, false, false, false, false] rfl rfl (any_of HT_.out (by kernel_rfl)) (fun _ _ _ h => h) (Or.inl ⟨by rfl, ?_⟩) ?_ ?_
                      rotate_left
                      · intro w'
                        go_simp
                        with_reducible rfl
                      rotate_left
                      · simp only [Act.put, List.setIfInBounds_toArray, List.set_cons_zero, List.set_cons_succ, i64_w, i32_w]
                        rfl
                      refine pure_ (i := 1) (N := some 22) (v := ?_) (a' := ?_) #[true, true, false, false, false, false, false, false, false, false] rfl rfl (any_of HT_.out (by kernel_rfl)) (fun _ _ _ h => h) (Or.inl ⟨by rfl, ?_⟩) ?_ ?_
                      rotate_left
                      · intro w'
                        go_simp
                        with_reducible rfl
                      rotate_left
                      · simp only [Act.put, List.setIfInBounds_toArray, List.set_cons_zero, List.set_cons_succ, i64_w, i32_w]
                        rfl
                      refine pure_ (i := 2) (N := some 23) (v := ?_) (a' := ?_) #[true, true, true, false, false, false, false, false, false, false] rfl rfl (any_of HT_.out (by kernel_rfl)) (fun _ _ _ h => h) (Or.inl ⟨by rfl, ?_⟩) ?_ ?_
                      rotate_left
                      · intro w'
                        go_simp
                        with_reducible rfl
                      rotate_left
                      · simp only [Act.put, List.setIfInBounds_toArray, List.set_cons_zero, List.set_cons_succ, i64_w, i32_w]
                        rfl
                      refine pure_ (i := 4) (N := some 25) (v := ?_) (a' := ?_) #[true, true, true, false, true, false, false, false, false, false] rfl rfl (any_of HT_.out (by kernel_rfl)) (fun _ _ _ h => h) (Or.inl ⟨by rfl, ?_⟩) ?_ ?_
                      rotate_left
                      · intro w'
                        go_simp
                        with_reducible rfl
                      rotate_left
                      · simp only [Act.put, List.setIfInBounds_toArray, List.set_cons_zero, List.set_cons_succ, i64_w, i32_w]
                        rfl
                      refine pure_ (i := 5) (N := some 26) (v := ?_) (a' := ?_) #[true, true, true, false, true, true, false, false, false, false] rfl rfl (any_of HT_.out (by kernel_rfl)) (fun _ _ _ h => h) (Or.inl ⟨by rfl, ?_⟩) ?_ ?_
                      rotate_left
                      · intro w'
                        go_simp
                        with_reducible rfl
                      rotate_left
                      · simp only [Act.put, List.setIfInBounds_toArray, List.set_cons_zero, List.set_cons_succ, i64_w, i32_w]
                        rfl
                      refine pure_ (i := 6) (N := some 27) (v := ?_) (a' := ?_) #[true, true, true, false, true, true, true, false, false, false] rfl rfl (any_of HT_.out (by kernel_rfl)) (fun _ _ _ h => h) (Or.inl ⟨by rfl, ?_⟩) ?_ ?_
                      rotate_left
                      · intro w'
                        go_simp
                        with_reducible rfl
                      rotate_left
                      · simp only [Act.put, List.setIfInBounds_toArray, List.set_cons_zero, List.set_cons_succ, i64_w, i32_w]
                        rfl
                      refine take_ (i := 3) (N := some 24) (v := ?_) (a' := ?_) #[true, true, true, true, true, true, true, false, false, false] rfl rfl (take_ofW HT_.out HW_.out (by kernel_rfl)) (fun _ _ _ h => h) (Or.inl ⟨by rfl, ?_⟩) hHeld ?_ ?_
                      rotate_left
                      · rintro w' ⟨s0, s1, s2, s3, s4, s5, s6, s7, s8, s9, s10, s11, s12, s13⟩
                        go_simp
                        with_reducible rfl
                      rotate_left
                      · simp only [Act.put, List.setIfInBounds_toArray, List.set_cons_zero, List.set_cons_succ, i64_w, i32_w]
                        rfl
                      refine take_ (i := 7) (N := some 28) (v := ?_) (a' := ?_) #[true, true, true, true, true, true, true, true, false, false] rfl rfl (take_ofW HT_.out HW_.out (by kernel_rfl)) (fun _ _ _ h => h) (Or.inl ⟨by rfl, ?_⟩) hHeld ?_ ?_
                      rotate_left
                      · rintro w' ⟨s0, s1, s2, s3, s4, s5, s6, s7, s8, s9, s10, s11, s12, s13⟩
                        go_simp
                        with_reducible rfl
                      rotate_left
                      · simp only [Act.put, List.setIfInBounds_toArray, List.set_cons_zero, List.set_cons_succ, i64_w, i32_w]
                        rfl
                      refine one_ (i := 8) (N := some 29) #[true, true, true, true, true, true, true, true, true, false] rfl rfl (one_of HT_.out (by kernel_rfl)) (by decide) (fun K hK => ?_)
                      refine goes_ Try.func98 (by kernel_rfl) rfl #[.agg #[.int .i64 ((rd_TimplLoan l0 x4_1).f0.f0), .int .i64 ((rd_TimplLoan l0 x4_1).f0.f1), .int .i64 ((rd_TimplLoan l0 x4_1).f0.f2), .int .i64 ((rd_TimplLoan l0 x4_1).f0.f3), .bool ((rd_TimplLoan l0 x4_1).f1), .int .i64 ((rd_TimplLoan l0 x4_1).f2), .int .i64 ((rd_TimplLoan l0 x4_1).f3)], .agg #[.int .i64 ((rd_TimplLoan l0 x5_2).f0.f0), .int .i64 ((rd_TimplLoan l0 x5_2).f0.f1), .int .i64 ((rd_TimplLoan l0 x5_2).f0.f2), .int .i64 ((rd_TimplLoan l0 x5_2).f0.f3), .bool ((rd_TimplLoan l0 x5_2).f1), .int .i64 ((rd_TimplLoan l0 x5_2).f2), .int .i64 ((rd_TimplLoan l0 x5_2).f3)]] (by rfl) rfl rfl (by (try simp only [List.map_toArray, List.map_cons, List.map_nil]); first | done | rfl | (simp only [List.length_drop, List.length_take]; rfl)) ?_
                      with_reducible refine (spec_l10Clash.calls ((rd_TimplLoan l0 x4_1).f0.f0) ((rd_TimplLoan l0 x4_1).f0.f1) ((rd_TimplLoan l0 x4_1).f0.f2) ((rd_TimplLoan l0 x4_1).f0.f3) ((rd_TimplLoan l0 x4_1).f1) ((rd_TimplLoan l0 x4_1).f2) ((rd_TimplLoan l0 x4_1).f3) ((rd_TimplLoan l0 x5_2).f0.f0) ((rd_TimplLoan l0 x5_2).f0.f1) ((rd_TimplLoan l0 x5_2).f0.f2) ((rd_TimplLoan l0 x5_2).f0.f3) ((rd_TimplLoan l0 x5_2).f1) ((rd_TimplLoan l0 x5_2).f2) ((rd_TimplLoan l0 x5_2).f3) t768 _ A9.out).mono ?_
                      rintro e w16 ⟨rfl, hb⟩
                      refine ⟨_, rfl, ?_⟩
                      have n0_ := Aside0.mk (Kd.R_below (by (with_reducible repeat (first | apply Kd.R_alloc | apply Kd.R_drewN | apply Kd.R_drew)); exact HO_3.out) hb)
                      have n1_ := Aside0.mk (below_step (by repeat (first | (with_reducible first | exact HB.out | apply below_alloc | apply pw_below_drewN | apply below_drew1) | exact HB.out)) hb)
                      clear HO_3
                      clear HB
                      have HO_3 := n0_
                      have HB := n1_
                      clear n0_ n1_
                      (try clear hb)
                      (try clear hb2)
                      (try clear hk)
                      (try clear hi)
                      refine hK.out _ _ ⟨(by have h_ := ((HB.out.cell (World.block_lt_of_cell? w _ hw766_0)).trans hw766_0); first | exact h_ | (simp only [*] at h_; exact h_) | simpa [*] using h_), (by have h_ := ((HB.out.cell (World.block_lt_of_cell? w _ hw766_1)).trans hw766_1); first | exact h_ | (simp only [*] at h_; exact h_) | simpa [*] using h_), (by have h_ := ((HB.out.cell (World.block_lt_of_cell? w _ hw766_2)).trans hw766_2); first | exact h_ | (simp only [*] at h_; exact h_) | simpa [*] using h_), (by have h_ := ((HB.out.cell (World.block_lt_of_cell? w _ hw766_3)).trans hw766_3); first | exact h_ | (simp only [*] at h_; exact h_) | simpa [*] using h_), (by have h_ := ((HB.out.cell (World.block_lt_of_cell? w _ hw766_4)).trans hw766_4); first | exact h_ | (simp only [*] at h_; exact h_) | simpa [*] using h_), (by have h_ := ((HB.out.cell (World.block_lt_of_cell? w _ hw766_5)).trans hw766_5); first | exact h_ | (simp only [*] at h_; exact h_) | simpa [*] using h_), (by have h_ := ((HB.out.cell (World.block_lt_of_cell? w _ hw766_6)).trans hw766_6); first | exact h_ | (simp only [*] at h_; exact h_) | simpa [*] using h_), (by have h_ := ((HB.out.cell (World.block_lt_of_cell? w _ hw767_0)).trans hw767_0); first | exact h_ | (simp only [*] at h_; exact h_) | simpa [*] using h_), (by have h_ := ((HB.out.cell (World.block_lt_of_cell? w _ hw767_1)).trans hw767_1); first | exact h_ | (simp only [*] at h_; exact h_) | simpa [*] using h_), (by have h_ := ((HB.out.cell (World.block_lt_of_cell? w _ hw767_2)).trans hw767_2); first | exact h_ | (simp only [*] at h_; exact h_) | simpa [*] using h_), (by have h_ := ((HB.out.cell (World.block_lt_of_cell? w _ hw767_3)).trans hw767_3); first | exact h_ | (simp only [*] at h_; exact h_) | simpa [*] using h_), (by have h_ := ((HB.out.cell (World.block_lt_of_cell? w _ hw767_4)).trans hw767_4); first | exact h_ | (simp only [*] at h_; exact h_) | simpa [*] using h_), (by have h_ := ((HB.out.cell (World.block_lt_of_cell? w _ hw767_5)).trans hw767_5); first | exact h_ | (simp only [*] at h_; exact h_) | simpa [*] using h_), (by have h_ := ((HB.out.cell (World.block_lt_of_cell? w _ hw767_6)).trans hw767_6); first | exact h_ | (simp only [*] at h_; exact h_) | simpa [*] using h_)⟩ (fun hHeld => ?_)
                      clear hK K
                      refine norm_ (a' := ?_) ?_ ?_
                      rotate_left
                      · show Act.put _ (some 29) _ = _
                        simp only [Act.put, List.setIfInBounds_toArray, List.set_cons_zero, List.set_cons_succ, i64_w, i32_w]
                        rfl
                      refine pure_ (i := 9) (N := some 30) (v := ?_) (a' := ?_) #[true, true, true, true, true, true, true, true, true, true] rfl rfl (any_of HT_.out (by kernel_rfl)) (fun _ _ _ h => h) (Or.inl ⟨by rfl, ?_⟩) ?_ ?_
                      rotate_left
                      · intro w'
                        go_simp
                        with_reducible rfl
                      rotate_left
                      · simp only [Act.put, List.setIfInBounds_toArray, List.set_cons_zero, List.set_cons_succ, i64_w, i32_w]
                        rfl
                      refine done_ (done_of HT_.out (by kernel_rfl)) ?_
                      try go_wp2
                      go_roundg k2
                      case measure => have := HK1.out; have := HK2.out; omega
                      case rel => exact ⟨(x3_2), (wrap64 (x5_2 + 1)), (by first | rfl | (simp; done) | (simp [*]; done)), H', ⟨by have := HK1.out; have := HK2.out; omega⟩, ⟨by (with_reducible repeat (first | apply Kd.R_alloc | apply Kd.R_drewN | apply Kd.R_drew)); exact HO_3.out⟩, ⟨by repeat (first | (with_reducible first | exact HB.out | apply below_alloc | apply pw_below_drewN | apply below_drew1) | exact HB.out)⟩⟩
                  · rw [if_neg c8] at H
                    exact absurd H (by simp)
                · rw [if_neg c7] at H
                  exact absurd H (by simp)
              · rw [if_neg c6] at H
                exact absurd H (by simp)
            · rw [if_neg c5] at H
              have c5b0 : decide (x5_2 < (l0.length : Int)) = false := decide_eq_false c5
              clear c5
              have H' := Aside0.mk H
              clear H
              go_wp2
              go_roundg k2
              case measure => have := HK1.out; have := HK2.out; omega
              case rel => exact ⟨(x3_2), (wrap64 (x4_1 + 1)), (by first | rfl | (simp; done) | (simp [*]; done)), H', ⟨by have := HK1.out; have := HK2.out; omega⟩, ⟨by (with_reducible repeat (first | apply Kd.R_alloc | apply Kd.R_drewN | apply Kd.R_drew)); exact HO_3.out⟩, ⟨by repeat (first | (with_reducible first | exact HB.out | apply below_alloc | apply pw_below_drewN | apply below_drew1) | exact HB.out)⟩⟩
      · rw [if_neg c4] at H
        have c4b0 : decide (x4_1 < (l0.length : Int)) = false := decide_eq_false c4
        clear c4
        obtain rfl := Option.some.inj H
        go_wp2
        go_ret
        exact ⟨_, by first | rfl | (simp [errW_none, errW_some] <;> rfl) | (simp [*, errW_none, errW_some] <;> rfl), by (with_reducible repeat (first | apply Kd.R_alloc | apply Kd.R_drewN | apply Kd.R_drew)); exact HO_3.out, by repeat (first | (with_reducible first | exact HB.out | apply below_alloc | apply pw_below_drewN | apply below_drew1) | exact HB.out)⟩

end Go.Proofs.Ytpbboooeahmgpaa.P


namespace Go.Proofs.Ytpbboooeahmgpaa.P
open Go.RowKit Go.Proofs.YtpbboooeahmgpaaW.PrintWords Go.Proofs.YtpbboooeahmgpaaW.PrintLast Go.Proofs.YtpbboooeahmgpaaW.PrintMore
attribute [local go_sem] max2_int min2_int max_two min_two max_three min_three max_four min_four   -- for this text's walks alone
set_option linter.unusedVariables false
set_option linter.unusedSimpArgs false

/-! ### spec_l10Alone: function 84 -/
def spec_l10Alone.l0 : Nat → List (SimplLoan) → Int → Int → Int → Int → Int → Bool → Int → Int → Option (Bool)
  | 0, _, _, _, _, _, _, _, _, _ => none
  | k + 1, x0, x5, x556000, x556001, x556002, x556003, x556004, x556005, x556006 => if x5 < (x0.length : Int) then (if 0 ≤ x5 then ((spec_l10Clash.f ((rd_TimplLoan x0 x5).f0.f0) ((rd_TimplLoan x0 x5).f0.f1) ((rd_TimplLoan x0 x5).f0.f2) ((rd_TimplLoan x0 x5).f0.f3) ((rd_TimplLoan x0 x5).f1) ((rd_TimplLoan x0 x5).f2) ((rd_TimplLoan x0 x5).f3) x556000 x556001 x556002 x556003 x556004 x556005 x556006).bind fun t557 => (if t557 ≥ 0 then (some false) else (spec_l10Alone.l0 k x0 (wrap64 (x5 + 1)) x556000 x556001 x556002 x556003 x556004 x556005 x556006))) else (none)) else (some true)
def spec_l10Alone.f (k : Nat) (l0 : List (SimplLoan)) (a1_0 : Int) (a1_1 : Int) (a1_2 : Int) (a1_3 : Int) (a1_4 : Bool) (a1_5 : Int) (a1_6 : Int) : Option (Bool) := spec_l10Alone.l0 k l0 0 a1_0 a1_1 a1_2 a1_3 a1_4 a1_5 a1_6
set_option maxHeartbeats 8000000 in
set_option maxRecDepth 100000 in
theorem spec_l10Alone.calls (k : Nat) (A0 : Option Addr) (c0 : Nat) (l0 : List (SimplLoan)) (a1_0 : Int) (a1_1 : Int) (a1_2 : Int) (a1_3 : Int) (a1_4 : Bool) (a1_5 : Int) (a1_6 : Int) (r : Bool) (w : World) (hr0 : Kd.C kimplLoan w A0 l0.length l0) (hc0 : l0.length ≤ c0) (h : spec_l10Alone.f k l0 a1_0 a1_1 a1_2 a1_3 a1_4 a1_5 a1_6 = some r) :
    Calls Try.prog 84 #[.slice A0 l0.length c0, .agg #[.int .i64 a1_0, .int .i64 a1_1, .int .i64 a1_2, .int .i64 a1_3, .bool a1_4, .int .i64 a1_5, .int .i64 a1_6]] w fun e w' => e = .returned (.bool r) ∧ Below w.heap.size w w' := by
  have hu30 := Try.underlying30
  have HR0 := Aside0.mk hr0
  have HC0 := Aside0.mk hc0
  clear hr0 hc0
  have HB := Aside0.mk (Below.refl w.heap.size w)
  have H : (spec_l10Alone.l0 k l0 0 a1_0 a1_1 a1_2 a1_3 a1_4 a1_5 a1_6) = some r := h
  clear h
  have H' := Aside0.mk H
  clear H
  go_enter Try.func84, Try.ntmps84
  go_wp2_with (first | ((with_reducible refine gate_dst (N := 3) rfl ?_); refine box_event ?hg (N := 3) ?hd (cs := #[.int .i64 a1_0, .int .i64 a1_1, .int .i64 a1_2, .int .i64 a1_3, .bool a1_4, .int .i64 a1_5, .int .i64 a1_6]) (t := 30) ?hr ?_; (case hd => rfl); (case hg => rfl); (case hr => first | (go_simp; done) | (go_simp; rfl)); intro gb555 hg w3 hbox hb; have n0_ := Aside0.mk (below_step (by repeat (first | (with_reducible first | exact HB.out | apply below_alloc | apply pw_below_drewN | apply below_drew1) | exact HB.out)) hb); have n1_ := Aside0.mk (hbox); have n2_ := Aside0.mk ((by rw [hg]; exact (below_size (by repeat (first | (with_reducible first | exact HB.out | apply below_alloc | apply pw_below_drewN | apply below_drew1) | exact HB.out))) : w.heap.size ≤ gb555)); have n3_ := Aside0.mk ((by rw [hg]; exact (below_size (by repeat (first | (with_reducible first | exact HB.out | apply below_alloc | apply pw_below_drewN | apply below_drew1) | exact HB.out))) : w.heap.size ≤ gb555)); clear HB; have HB := n0_; have BK555 := n1_; have GW555 := n2_; have GE555 := n3_; clear n0_ n1_ n2_ n3_; clear hb hbox hg))
  go_loopg [5] k (fun kq v5 w' => ∃ (x5_1 : Int), v5 = .int .i64 x5_1 ∧ Aside0 (spec_l10Alone.l0 kq l0 x5_1 a1_0 a1_1 a1_2 a1_3 a1_4 a1_5 a1_6 = some r) ∧ Aside0 (kq ≤ k) ∧ Aside0 (w'.heap[gb555]? = some (.cells #[.int .i64 a1_0, .int .i64 a1_1, .int .i64 a1_2, .int .i64 a1_3, .bool a1_4, .int .i64 a1_5, .int .i64 a1_6] 30 (0, 0))) ∧ Aside0 (Below w.heap.size w w'))
  case atStart => exact ⟨(0), (by first | rfl | (simp; done) | (simp [*]; done)), H', ⟨Nat.le_refl _⟩, ⟨by (with_reducible repeat (first | refine blk_drewN ?_ _ | refine blk_drew ?_ | refine blk_alloc ?_ _)); exact BK555.out⟩, ⟨by repeat (first | (with_reducible first | exact HB.out | apply below_alloc | apply pw_below_drewN | apply below_drew1 | refine below_set ?_ GE555.out) | exact HB.out)⟩⟩
  case round =>
    clear H'
    try clear p2
    obtain ⟨x5_1, rfl, HA, HK1, BK555, HB⟩ := hrel
    cases gk with
    | zero => exact absurd HA.out (by simp [spec_l10Alone.l0])
    | succ k1 =>
      have H := HA.out
      clear HA
      simp only [spec_l10Alone.l0] at H
      by_cases c4 : x5_1 < (l0.length : Int)
      · rw [if_pos c4] at H
        have c4b0 : decide (x5_1 < (l0.length : Int)) = true := decide_eq_true c4
        clear c4
        by_cases c5 : 0 ≤ x5_1
        · rw [if_pos c5] at H
          have c5b0 : decide (0 ≤ x5_1) = true := decide_eq_true c5
          clear c5
          replace H := Option.bind_eq_some_iff.mp H
          obtain ⟨t557, A60, H⟩ := H
          replace H : (if t557 ≥ 0 then (some false) else (spec_l10Alone.l0 k1 l0 (wrap64 (x5_1 + 1)) a1_0 a1_1 a1_2 a1_3 a1_4 a1_5 a1_6)) = some r := H
          have A6 := Aside0.mk A60
          clear A60
          by_cases c7 : t557 ≥ 0
          · rw [if_pos c7] at H
            have c7b0 : decide (0 ≤ t557) = true := decide_eq_true c7
            clear c7
            obtain rfl := Option.some.inj H
            try go_wp2
            have n0_ := Aside0.mk (blk_drew BK555.out)
            have n1_ := Aside0.mk (below_drew1 HB.out)
            clear BK555
            clear HB
            have BK555 := n0_
            have HB := n1_
            clear n0_ n1_
            have p556 : 0 ≤ (x5_1 : Int) := of_decide_eq_true (by first | (with_reducible assumption) | assumption)
            have q556 : x5_1 < (l0.length : Int) := of_decide_eq_true (by first | (with_reducible assumption) | assumption)
            obtain ⟨ad556, e556, hx556_0, hx556_1, hx556_2, hx556_3, hx556_4, hx556_5, hx556_6⟩ := at_TimplLoan HR0.out x5_1 p556 q556
            have hw556_6 := hx556_6
            have hw556_5 := hx556_5
            have hw556_4 := hx556_4
            have hw556_3 := hx556_3
            have hw556_2 := hx556_2
            have hw556_1 := hx556_1
            have hw556_0 := hx556_0
            cases e556
            replace hx556_0 := (HB.out.cell (World.block_lt_of_cell? w _ hx556_0)).trans hx556_0
            replace hx556_1 := (HB.out.cell (World.block_lt_of_cell? w _ hx556_1)).trans hx556_1
            replace hx556_2 := (HB.out.cell (World.block_lt_of_cell? w _ hx556_2)).trans hx556_2
            replace hx556_3 := (HB.out.cell (World.block_lt_of_cell? w _ hx556_3)).trans hx556_3
            replace hx556_4 := (HB.out.cell (World.block_lt_of_cell? w _ hx556_4)).trans hx556_4
            replace hx556_5 := (HB.out.cell (World.block_lt_of_cell? w _ hx556_5)).trans hx556_5
            replace hx556_6 := (HB.out.cell (World.block_lt_of_cell? w _ hx556_6)).trans hx556_6
            replace p556 := eq_true p556
            replace q556 := eq_true q556
            refine start_ (n := 7) (S := fun w' => w'.cell? ⟨gb555, 0, none⟩ = some (.int .i64 a1_0) ∧ w'.cell? ⟨gb555, 1, none⟩ = some (.int .i64 a1_1) ∧ w'.cell? ⟨gb555, 2, none⟩ = some (.int .i64 a1_2) ∧ w'.cell? ⟨gb555, 3, none⟩ = some (.int .i64 a1_3) ∧ w'.cell? ⟨gb555, 4, none⟩ = some (.bool a1_4) ∧ w'.cell? ⟨gb555, 5, none⟩ = some (.int .i64 a1_5) ∧ w'.cell? ⟨gb555, 6, none⟩ = some (.int .i64 a1_6) ∧ w'.cell? (ad556.add ((x5_1).toNat * 7)) = some (.int .i64 ((rd_TimplLoan l0 x5_1).f0.f0)) ∧ w'.cell? ⟨(ad556.add ((x5_1).toNat * 7)).block, (ad556.add ((x5_1).toNat * 7)).off + 1, none⟩ = some (.int .i64 ((rd_TimplLoan l0 x5_1).f0.f1)) ∧ w'.cell? ⟨(ad556.add ((x5_1).toNat * 7)).block, (ad556.add ((x5_1).toNat * 7)).off + 2, none⟩ = some (.int .i64 ((rd_TimplLoan l0 x5_1).f0.f2)) ∧ w'.cell? ⟨(ad556.add ((x5_1).toNat * 7)).block, (ad556.add ((x5_1).toNat * 7)).off + 3, none⟩ = some (.int .i64 ((rd_TimplLoan l0 x5_1).f0.f3)) ∧ w'.cell? ⟨(ad556.add ((x5_1).toNat * 7)).block, (ad556.add ((x5_1).toNat * 7)).off + 4, none⟩ = some (.bool ((rd_TimplLoan l0 x5_1).f1)) ∧ w'.cell? ⟨(ad556.add ((x5_1).toNat * 7)).block, (ad556.add ((x5_1).toNat * 7)).off + 5, none⟩ = some (.int .i64 ((rd_TimplLoan l0 x5_1).f2)) ∧ w'.cell? ⟨(ad556.add ((x5_1).toNat * 7)).block, (ad556.add ((x5_1).toNat * 7)).off + 6, none⟩ = some (.int .i64 ((rd_TimplLoan l0 x5_1).f3))) (ds := []) #[false, false, false, false, false, false, false] (by kernel_rfl) rfl rfl ⟨(blk_cell BK555.out 0).trans rfl, (blk_cell BK555.out 1).trans rfl, (blk_cell BK555.out 2).trans rfl, (blk_cell BK555.out 3).trans rfl, (blk_cell BK555.out 4).trans rfl, (blk_cell BK555.out 5).trans rfl, (blk_cell BK555.out 6).trans rfl, (by have h_ := ((HB.out.cell (World.block_lt_of_cell? w _ hw556_0)).trans hw556_0); first | exact h_ | (simp only [*] at h_; exact h_) | simpa [*] using h_), (by have h_ := ((HB.out.cell (World.block_lt_of_cell? w _ hw556_1)).trans hw556_1); first | exact h_ | (simp only [*] at h_; exact h_) | simpa [*] using h_), (by have h_ := ((HB.out.cell (World.block_lt_of_cell? w _ hw556_2)).trans hw556_2); first | exact h_ | (simp only [*] at h_; exact h_) | simpa [*] using h_), (by have h_ := ((HB.out.cell (World.block_lt_of_cell? w _ hw556_3)).trans hw556_3); first | exact h_ | (simp only [*] at h_; exact h_) | simpa [*] using h_), (by have h_ := ((HB.out.cell (World.block_lt_of_cell? w _ hw556_4)).trans hw556_4); first | exact h_ | (simp only [*] at h_; exact h_) | simpa [*] using h_), (by have h_ := ((HB.out.cell (World.block_lt_of_cell? w _ hw556_5)).trans hw556_5); first | exact h_ | (simp only [*] at h_; exact h_) | simpa [*] using h_), (by have h_ := ((HB.out.cell (World.block_lt_of_cell? w _ hw556_6)).trans hw556_6); first | exact h_ | (simp only [*] at h_; exact h_) | simpa [*] using h_)⟩ (fun hHeld => ?_)
            generalize wr.drew = w8 at BK555 HB hx556_0 hx556_1 hx556_2 hx556_3 hx556_4 hx556_5 hx556_6 hHeld ⊢
            refine pure_ (i := 0) (N := some 12) (v := ?_) (a' := ?_) #[true, false, false, false, false, false, false] rfl rfl (by kernel_rfl) (fun _ _ _ h => h) (Or.inl ⟨by rfl, ?_⟩) ?_ ?_
            rotate_left
            · intro w'
              go_simp
              with_reducible rfl
            rotate_left
            · simp only [Act.put, List.setIfInBounds_toArray, List.set_cons_zero, List.set_cons_succ, i64_w, i32_w]
              rfl
            refine pure_ (i := 1) (N := some 13) (v := ?_) (a' := ?_) #[true, true, false, false, false, false, false] rfl rfl (by kernel_rfl) (fun _ _ _ h => h) (Or.inl ⟨by rfl, ?_⟩) ?_ ?_
            rotate_left
            · intro w'
              go_simp
              with_reducible rfl
            rotate_left
            · simp only [Act.put, List.setIfInBounds_toArray, List.set_cons_zero, List.set_cons_succ, i64_w, i32_w]
              rfl
            refine pure_ (i := 2) (N := some 14) (v := ?_) (a' := ?_) #[true, true, true, false, false, false, false] rfl rfl (by kernel_rfl) (fun _ _ _ h => h) (Or.inl ⟨by rfl, ?_⟩) ?_ ?_
            rotate_left
            · intro w'
              go_simp
              with_reducible rfl
            rotate_left
            · simp only [Act.put, List.setIfInBounds_toArray, List.set_cons_zero, List.set_cons_succ, i64_w, i32_w]
              rfl
            refine take_ (i := 3) (N := some 15) (v := ?_) (a' := ?_) #[true, true, true, true, false, false, false] rfl rfl (by kernel_rfl) (fun _ _ _ h => h) (Or.inl ⟨by rfl, ?_⟩) hHeld ?_ ?_
            rotate_left
            · rintro w' ⟨s0, s1, s2, s3, s4, s5, s6, s7, s8, s9, s10, s11, s12, s13⟩
              go_simp
              with_reducible rfl
            rotate_left
            · simp only [Act.put, List.setIfInBounds_toArray, List.set_cons_zero, List.set_cons_succ, i64_w, i32_w]
              rfl
            refine take_ (i := 4) (N := some 16) (v := ?_) (a' := ?_) #[true, true, true, true, true, false, false] rfl rfl (by kernel_rfl) (fun _ _ _ h => h) (Or.inl ⟨by rfl, ?_⟩) hHeld ?_ ?_
            rotate_left
            · rintro w' ⟨s0, s1, s2, s3, s4, s5, s6, s7, s8, s9, s10, s11, s12, s13⟩
              go_simp
              with_reducible rfl
            rotate_left
            · simp only [Act.put, List.setIfInBounds_toArray, List.set_cons_zero, List.set_cons_succ, i64_w, i32_w]
              rfl
            refine one_ (i := 5) (N := some 17) #[true, true, true, true, true, true, false] rfl rfl (by kernel_rfl) (by decide) (fun K hK => ?_)
            refine goes_ Try.func98 (by kernel_rfl) rfl #[.agg #[.int .i64 ((rd_TimplLoan l0 x5_1).f0.f0), .int .i64 ((rd_TimplLoan l0 x5_1).f0.f1), .int .i64 ((rd_TimplLoan l0 x5_1).f0.f2), .int .i64 ((rd_TimplLoan l0 x5_1).f0.f3), .bool ((rd_TimplLoan l0 x5_1).f1), .int .i64 ((rd_TimplLoan l0 x5_1).f2), .int .i64 ((rd_TimplLoan l0 x5_1).f3)], .agg #[.int .i64 a1_0, .int .i64 a1_1, .int .i64 a1_2, .int .i64 a1_3, .bool a1_4, .int .i64 a1_5, .int .i64 a1_6]] (by rfl) rfl rfl (by (try simp only [List.map_toArray, List.map_cons, List.map_nil]); first | done | rfl | (simp only [List.length_drop, List.length_take]; rfl)) ?_
            with_reducible refine (spec_l10Clash.calls ((rd_TimplLoan l0 x5_1).f0.f0) ((rd_TimplLoan l0 x5_1).f0.f1) ((rd_TimplLoan l0 x5_1).f0.f2) ((rd_TimplLoan l0 x5_1).f0.f3) ((rd_TimplLoan l0 x5_1).f1) ((rd_TimplLoan l0 x5_1).f2) ((rd_TimplLoan l0 x5_1).f3) a1_0 a1_1 a1_2 a1_3 a1_4 a1_5 a1_6 t557 _ A6.out).mono ?_
            rintro e w9 ⟨rfl, hb⟩
            refine ⟨_, rfl, ?_⟩
            have n0_ := Aside0.mk (blk_below (g := gb555) (o := .cells #[.int .i64 a1_0, .int .i64 a1_1, .int .i64 a1_2, .int .i64 a1_3, .bool a1_4, .int .i64 a1_5, .int .i64 a1_6] 30 (0, 0)) (by (with_reducible repeat (first | refine blk_drewN ?_ _ | refine blk_drew ?_ | refine blk_alloc ?_ _)); exact BK555.out) hb)
            have n1_ := Aside0.mk (below_step (by repeat (first | (with_reducible first | exact HB.out | apply below_alloc | apply pw_below_drewN | apply below_drew1 | refine below_set ?_ GE555.out) | exact HB.out)) hb)
            clear BK555
            clear HB
            have BK555 := n0_
            have HB := n1_
            clear n0_ n1_
            (try clear hb)
            (try clear hb2)
            (try clear hk)
            (try clear hi)
            refine hK.out _ _ ⟨(blk_cell BK555.out 0).trans rfl, (blk_cell BK555.out 1).trans rfl, (blk_cell BK555.out 2).trans rfl, (blk_cell BK555.out 3).trans rfl, (blk_cell BK555.out 4).trans rfl, (blk_cell BK555.out 5).trans rfl, (blk_cell BK555.out 6).trans rfl, (by have h_ := ((HB.out.cell (World.block_lt_of_cell? w _ hw556_0)).trans hw556_0); first | exact h_ | (simp only [*] at h_; exact h_) | simpa [*] using h_), (by have h_ := ((HB.out.cell (World.block_lt_of_cell? w _ hw556_1)).trans hw556_1); first | exact h_ | (simp only [*] at h_; exact h_) | simpa [*] using h_), (by have h_ := ((HB.out.cell (World.block_lt_of_cell? w _ hw556_2)).trans hw556_2); first | exact h_ | (simp only [*] at h_; exact h_) | simpa [*] using h_), (by have h_ := ((HB.out.cell (World.block_lt_of_cell? w _ hw556_3)).trans hw556_3); first | exact h_ | (simp only [*] at h_; exact h_) | simpa [*] using h_), (by have h_ := ((HB.out.cell (World.block_lt_of_cell? w _ hw556_4)).trans hw556_4); first | exact h_ | (simp only [*] at h_; exact h_) | simpa [*] using h_), (by have h_ := ((HB.out.cell (World.block_lt_of_cell? w _ hw556_5)).trans hw556_5); first | exact h_ | (simp only [*] at h_; exact h_) | simpa [*] using h_), (by have h_ := ((HB.out.cell (World.block_lt_of_cell? w _ hw556_6)).trans hw556_6); first | exact h_ | (simp only [*] at h_; exact h_) | simpa [*] using h_)⟩ (fun hHeld => ?_)
            clear hK K
            refine norm_ (a' := ?_) ?_ ?_
            rotate_left
            · show Act.put _ (some 17) _ = _
              simp only [Act.put, List.setIfInBounds_toArray, List.set_cons_zero, List.set_cons_succ, i64_w, i32_w]
              rfl
            refine pure_ (i := 6) (N := some 18) (v := ?_) (a' := ?_) #[true, true, true, true, true, true, true] rfl rfl (by kernel_rfl) (fun _ _ _ h => h) (Or.inl ⟨by rfl, ?_⟩) ?_ ?_
            rotate_left
            · intro w'
              go_simp
              with_reducible rfl
            rotate_left
            · simp only [Act.put, List.setIfInBounds_toArray, List.set_cons_zero, List.set_cons_succ, i64_w, i32_w]
              rfl
            refine done_ (by kernel_rfl) ?_
            try go_wp2
            go_ret
            exact ⟨by first | rfl | (simp [errW_none, errW_some] <;> rfl) | (simp [*, errW_none, errW_some] <;> rfl), by repeat (first | (with_reducible first | exact HB.out | apply below_alloc | apply pw_below_drewN | apply below_drew1 | refine below_set ?_ GE555.out) | exact HB.out)⟩
          · rw [if_neg c7] at H
            have c7b0 : decide (0 ≤ t557) = false := decide_eq_false c7
            clear c7
            have H' := Aside0.mk H
            clear H
            try go_wp2
            have n0_ := Aside0.mk (blk_drew BK555.out)
            have n1_ := Aside0.mk (below_drew1 HB.out)
            clear BK555
            clear HB
            have BK555 := n0_
            have HB := n1_
            clear n0_ n1_
            have p556 : 0 ≤ (x5_1 : Int) := of_decide_eq_true (by first | (with_reducible assumption) | assumption)
            have q556 : x5_1 < (l0.length : Int) := of_decide_eq_true (by first | (with_reducible assumption) | assumption)
            obtain ⟨ad556, e556, hx556_0, hx556_1, hx556_2, hx556_3, hx556_4, hx556_5, hx556_6⟩ := at_TimplLoan HR0.out x5_1 p556 q556
            have hw556_6 := hx556_6
            have hw556_5 := hx556_5
            have hw556_4 := hx556_4
            have hw556_3 := hx556_3
            have hw556_2 := hx556_2
            have hw556_1 := hx556_1
            have hw556_0 := hx556_0
            cases e556
            replace hx556_0 := (HB.out.cell (World.block_lt_of_cell? w _ hx556_0)).trans hx556_0
            replace hx556_1 := (HB.out.cell (World.block_lt_of_cell? w _ hx556_1)).trans hx556_1
            replace hx556_2 := (HB.out.cell (World.block_lt_of_cell? w _ hx556_2)).trans hx556_2
            replace hx556_3 := (HB.out.cell (World.block_lt_of_cell? w _ hx556_3)).trans hx556_3
            replace hx556_4 := (HB.out.cell (World.block_lt_of_cell? w _ hx556_4)).trans hx556_4
            replace hx556_5 := (HB.out.cell (World.block_lt_of_cell? w _ hx556_5)).trans hx556_5
            replace hx556_6 := (HB.out.cell (World.block_lt_of_cell? w _ hx556_6)).trans hx556_6
            replace p556 := eq_true p556
            replace q556 := eq_true q556
            refine start_ (n := 7) (S := fun w' => w'.cell? ⟨gb555, 0, none⟩ = some (.int .i64 a1_0) ∧ w'.cell? ⟨gb555, 1, none⟩ = some (.int .i64 a1_1) ∧ w'.cell? ⟨gb555, 2, none⟩ = some (.int .i64 a1_2) ∧ w'.cell? ⟨gb555, 3, none⟩ = some (.int .i64 a1_3) ∧ w'.cell? ⟨gb555, 4, none⟩ = some (.bool a1_4) ∧ w'.cell? ⟨gb555, 5, none⟩ = some (.int .i64 a1_5) ∧ w'.cell? ⟨gb555, 6, none⟩ = some (.int .i64 a1_6) ∧ w'.cell? (ad556.add ((x5_1).toNat * 7)) = some (.int .i64 ((rd_TimplLoan l0 x5_1).f0.f0)) ∧ w'.cell? ⟨(ad556.add ((x5_1).toNat * 7)).block, (ad556.add ((x5_1).toNat * 7)).off + 1, none⟩ = some (.int .i64 ((rd_TimplLoan l0 x5_1).f0.f1)) ∧ w'.cell? ⟨(ad556.add ((x5_1).toNat * 7)).block, (ad556.add ((x5_1).toNat * 7)).off + 2, none⟩ = some (.int .i64 ((rd_TimplLoan l0 x5_1).f0.f2)) ∧ w'.cell? ⟨(ad556.add ((x5_1).toNat * 7)).block, (ad556.add ((x5_1).toNat * 7)).off + 3, none⟩ = some (.int .i64 ((rd_TimplLoan l0 x5_1).f0.f3)) ∧ w'.cell? ⟨(ad556.add ((x5_1).toNat * 7)).block, (ad556.add ((x5_1).toNat * 7)).off + 4, none⟩ = some (.bool ((rd_TimplLoan l0 x5_1).f1)) ∧ w'.cell? ⟨(ad556.add ((x5_1).toNat * 7)).block, (ad556.add ((x5_1).toNat * 7)).off + 5, none⟩ = some (.int .i64 ((rd_TimplLoan l0 x5_1).f2)) ∧ w'.cell? ⟨(ad556.add ((x5_1).toNat * 7)).block, (ad556.add ((x5_1).toNat * 7)).off + 6, none⟩ = some (.int .i64 ((rd_TimplLoan l0 x5_1).f3))) (ds := []) #[false, false, false, false, false, false, false] (by kernel_rfl) rfl rfl ⟨(blk_cell BK555.out 0).trans rfl, (blk_cell BK555.out 1).trans rfl, (blk_cell BK555.out 2).trans rfl, (blk_cell BK555.out 3).trans rfl, (blk_cell BK555.out 4).trans rfl, (blk_cell BK555.out 5).trans rfl, (blk_cell BK555.out 6).trans rfl, (by have h_ := ((HB.out.cell (World.block_lt_of_cell? w _ hw556_0)).trans hw556_0); first | exact h_ | (simp only [*] at h_; exact h_) | simpa [*] using h_), (by have h_ := ((HB.out.cell (World.block_lt_of_cell? w _ hw556_1)).trans hw556_1); first | exact h_ | (simp only [*] at h_; exact h_) | simpa [*] using h_), (by have h_ := ((HB.out.cell (World.block_lt_of_cell? w _ hw556_2)).trans hw556_2); first | exact h_ | (simp only [*] at h_; exact h_) | simpa [*] using h_), (by have h_ := ((HB.out.cell (World.block_lt_of_cell? w _ hw556_3)).trans hw556_3); first | exact h_ | (simp only [*] at h_; exact h_) | simpa [*] using h_), (by have h_ := ((HB.out.cell (World.block_lt_of_cell? w _ hw556_4)).trans hw556_4); first | exact h_ | (simp only [*] at h_; exact h_) | simpa [*] using h_), (by have h_ := ((HB.out.cell (World.block_lt_of_cell? w _ hw556_5)).trans hw556_5); first | exact h_ | (simp only [*] at h_; exact h_) | simpa [*] using h_), (by have h_ := ((HB.out.cell (World.block_lt_of_cell? w _ hw556_6)).trans hw556_6); first | exact h_ | (simp only [*] at h_; exact h_) | simpa [*] using h_)⟩ (fun hHeld => ?_)
            generalize wr.drew = w10 at BK555 HB hx556_0 hx556_1 hx556_2 hx556_3 hx556_4 hx556_5 hx556_6 hHeld ⊢
            refine pure_ (i := 0) (N := some 12) (v := ?_) (a' := ?_) #[true, false, false, false, false, false, false] rfl rfl (by kernel_rfl) (fun _ _ _ h => h) (Or.inl ⟨by rfl, ?_⟩) ?_ ?_
            rotate_left
            · intro w'
              go_simp
              with_reducible rfl
            rotate_left
            · simp only [Act.put, List.setIfInBounds_toArray, List.set_cons_zero, List.set_cons_succ, i64_w, i32_w]
              rfl
            refine pure_ (i := 1) (N := some 13) (v := ?_) (a' := ?_) #[true, true, false, false, false, false, false] rfl rfl (by kernel_rfl) (fun _ _ _ h => h) (Or.inl ⟨by rfl, ?_⟩) ?_ ?_
            rotate_left
            · intro w'
              go_simp
              with_reducible rfl
            rotate_left
            · simp only [Act.put, List.setIfInBounds_toArray, List.set_cons_zero, List.set_cons_succ, i64_w, i32_w]
              rfl
            refine pure_ (i := 2) (N := some 14) (v := ?_) (a' := ?_) #[true, true, true, false, false, false, false] rfl rfl (by kernel_rfl) (fun _ _ _ h => h) (Or.inl ⟨by rfl, ?_⟩) ?_ ?_
            rotate_left
            · intro w'
              go_simp
              with_reducible rfl
            rotate_left
            · simp only [Act.put, List.setIfInBounds_toArray, List.set_cons_zero, List.set_cons_succ, i64_w, i32_w]
              rfl
            refine take_ (i := 3) (N := some 15) (v := ?_) (a' := ?_) #[true, true, true, true, false, false, false] rfl rfl (by kernel_rfl) (fun _ _ _ h => h) (Or.inl ⟨by rfl, ?_⟩) hHeld ?_ ?_
            rotate_left
            · rintro w' ⟨s0, s1, s2, s3, s4, s5, s6, s7, s8, s9, s10, s11, s12, s13⟩
              go_simp
              with_reducible rfl
            rotate_left
            · simp only [Act.put, List.setIfInBounds_toArray, List.set_cons_zero, List.set_cons_succ, i64_w, i32_w]
              rfl
            refine take_ (i := 4) (N := some 16) (v := ?_) (a' := ?_) #[true, true, true, true, true, false, false] rfl rfl (by kernel_rfl) (fun _ _ _ h => h) (Or.inl ⟨by rfl, ?_⟩) hHeld ?_ ?_
            rotate_left
            · rintro w' ⟨s0, s1, s2, s3, s4, s5, s6, s7, s8, s9, s10, s11, s12, s13⟩
              go_simp
              with_reducible rfl
            rotate_left
            · simp only [Act.put, List.setIfInBounds_toArray, List.set_cons_zero, List.set_cons_succ, i64_w, i32_w]
              rfl
            refine one_ (i := 5) (N := some 17) #[true, true, true, true, true, true, false] rfl rfl (by kernel_rfl) (by decide) (fun K hK => ?_)
            refine goes_ Try.func98 (by kernel_rfl) rfl #[.agg #[.int .i64 ((rd_TimplLoan l0 x5_1).f0.f0), .int .i64 ((rd_TimplLoan l0 x5_1).f0.f1), .int .i64 ((rd_TimplLoan l0 x5_1).f0.f2), .int .i64 ((rd_TimplLoan l0 x5_1).f0.f3), .bool ((rd_TimplLoan l0 x5_1).f1), .int .i64 ((rd_TimplLoan l0 x5_1).f2), .int .i64 ((rd_TimplLoan l0 x5_1).f3)], .agg #[.int .i64 a1_0, .int .i64 a1_1, .int .i64 a1_2, .int .i64 a1_3, .bool a1_4, .int .i64 a1_5, .int .i64 a1_6]] (by rfl) rfl rfl (by (try simp only [List.map_toArray, List.map_cons, List.map_nil]); first | done | rfl | (simp only [List.length_drop, List.length_take]; rfl)) ?_
            with_reducible refine (spec_l10Clash.calls ((rd_TimplLoan l0 x5_1).f0.f0) ((rd_TimplLoan l0 x5_1).f0.f1) ((rd_TimplLoan l0 x5_1).f0.f2) ((rd_TimplLoan l0 x5_1).f0.f3) ((rd_TimplLoan l0 x5_1).f1) ((rd_TimplLoan l0 x5_1).f2) ((rd_TimplLoan l0 x5_1).f3) a1_0 a1_1 a1_2 a1_3 a1_4 a1_5 a1_6 t557 _ A6.out).mono ?_
            rintro e w11 ⟨rfl, hb⟩
            refine ⟨_, rfl, ?_⟩
            have n0_ := Aside0.mk (blk_below (g := gb555) (o := .cells #[.int .i64 a1_0, .int .i64 a1_1, .int .i64 a1_2, .int .i64 a1_3, .bool a1_4, .int .i64 a1_5, .int .i64 a1_6] 30 (0, 0)) (by (with_reducible repeat (first | refine blk_drewN ?_ _ | refine blk_drew ?_ | refine blk_alloc ?_ _)); exact BK555.out) hb)
            have n1_ := Aside0.mk (below_step (by repeat (first | (with_reducible first | exact HB.out | apply below_alloc | apply pw_below_drewN | apply below_drew1 | refine below_set ?_ GE555.out) | exact HB.out)) hb)
            clear BK555
            clear HB
            have BK555 := n0_
            have HB := n1_
            clear n0_ n1_
            (try clear hb)
            (try clear hb2)
            (try clear hk)
            (try clear hi)
            refine hK.out _ _ ⟨(blk_cell BK555.out 0).trans rfl, (blk_cell BK555.out 1).trans rfl, (blk_cell BK555.out 2).trans rfl, (blk_cell BK555.out 3).trans rfl, (blk_cell BK555.out 4).trans rfl, (blk_cell BK555.out 5).trans rfl, (blk_cell BK555.out 6).trans rfl, (by have h_ := ((HB.out.cell (World.block_lt_of_cell? w _ hw556_0)).trans hw556_0); first | exact h_ | (simp only [*] at h_; exact h_) | simpa [*] using h_), (by have h_ := ((HB.out.cell (World.block_lt_of_cell? w _ hw556_1)).trans hw556_1); first | exact h_ | (simp only [*] at h_; exact h_) | simpa [*] using h_), (by have h_ := ((HB.out.cell (World.block_lt_of_cell? w _ hw556_2)).trans hw556_2); first | exact h_ | (simp only [*] at h_; exact h_) | simpa [*] using h_), (by have h_ := ((HB.out.cell (World.block_lt_of_cell? w _ hw556_3)).trans hw556_3); first | exact h_ | (simp only [*] at h_; exact h_) | simpa [*] using h_), (by have h_ := ((HB.out.cell (World.block_lt_of_cell? w _ hw556_4)).trans hw556_4); first | exact h_ | (simp only [*] at h_; exact h_) | simpa [*] using h_), (by have h_ := ((HB.out.cell (World.block_lt_of_cell? w _ hw556_5)).trans hw556_5); first | exact h_ | (simp only [*] at h_; exact h_) | simpa [*] using h_), (by have h_ := ((HB.out.cell (World.block_lt_of_cell? w _ hw556_6)).trans hw556_6); first | exact h_ | (simp only [*] at h_; exact h_) | simpa [*] using h_)⟩ (fun hHeld => ?_)
            clear hK K
            refine norm_ (a' := ?_) ?_ ?_
            rotate_left
            · show Act.put _ (some 17) _ = _
              simp only [Act.put, List.setIfInBounds_toArray, List.set_cons_zero, List.set_cons_succ, i64_w, i32_w]
              rfl
            refine pure_ (i := 6) (N := some 18) (v := ?_) (a' := ?_) #[true, true, true, true, true, true, true] rfl rfl (by kernel_rfl) (fun _ _ _ h => h) (Or.inl ⟨by rfl, ?_⟩) ?_ ?_
            rotate_left
            · intro w'
              go_simp
              with_reducible rfl
            rotate_left
            · simp only [Act.put, List.setIfInBounds_toArray, List.set_cons_zero, List.set_cons_succ, i64_w, i32_w]
              rfl
            refine done_ (by kernel_rfl) ?_
            try go_wp2
            go_roundg k1
            case measure => have := HK1.out; omega
            case rel => exact ⟨(wrap64 (x5_1 + 1)), (by first | rfl | (simp; done) | (simp [*]; done)), H', ⟨by have := HK1.out; omega⟩, ⟨by (with_reducible repeat (first | refine blk_drewN ?_ _ | refine blk_drew ?_ | refine blk_alloc ?_ _)); exact BK555.out⟩, ⟨by repeat (first | (with_reducible first | exact HB.out | apply below_alloc | apply pw_below_drewN | apply below_drew1 | refine below_set ?_ GE555.out) | exact HB.out)⟩⟩
        · rw [if_neg c5] at H
          exact absurd H (by simp)
      · rw [if_neg c4] at H
        have c4b0 : decide (x5_1 < (l0.length : Int)) = false := decide_eq_false c4
        clear c4
        obtain rfl := Option.some.inj H
        go_wp2
        go_ret
        exact ⟨by first | rfl | (simp [errW_none, errW_some] <;> rfl) | (simp [*, errW_none, errW_some] <;> rfl), by repeat (first | (with_reducible first | exact HB.out | apply below_alloc | apply pw_below_drewN | apply below_drew1 | refine below_set ?_ GE555.out) | exact HB.out)⟩

end Go.Proofs.Ytpbboooeahmgpaa.P


namespace Go.Proofs.Ytpbboooeahmgpaa.P
open Go.RowKit Go.Proofs.YtpbboooeahmgpaaW.PrintWords Go.Proofs.YtpbboooeahmgpaaW.PrintLast Go.Proofs.YtpbboooeahmgpaaW.PrintMore
attribute [local go_sem] max2_int min2_int max_two min_two max_three min_three max_four min_four   -- for this text's walks alone
set_option linter.unusedVariables false
set_option linter.unusedSimpArgs false

/-! ### impl_areLoans: function 76 -/
def impl_areLoans.f (l0_0 : List (List Int)) (l1 : List (SimplLoan)) : Option (Bool) := (impl_areAnyLoans.f l0_0 l1).bind fun t480 => (if t480 = true then (some (decide ((l1.length : Int) ≤ 8))) else (some false))
set_option maxHeartbeats 8000000 in
set_option maxRecDepth 100000 in
theorem impl_areLoans.calls (A0_0 : Option Addr) (c0_0 : Nat) (l0_0 : List (List Int)) (A1 : Option Addr) (c1 : Nat) (l1 : List (SimplLoan)) (r : Bool) (w : World) (hr0_0 : Kd.C (Kd.slice 5 (Kd.int .u8)) w A0_0 l0_0.length l0_0) (hc0_0 : l0_0.length ≤ c0_0) (hr1 : Kd.C kimplLoan w A1 l1.length l1) (hc1 : l1.length ≤ c1) (h : impl_areLoans.f l0_0 l1 = some r) :
    Calls Try.prog 76 #[.agg #[.slice A0_0 l0_0.length c0_0], .slice A1 l1.length c1] w fun e w' => e = .returned (.bool r) ∧ Below w.heap.size w w' := by
  have hu26 := Try.underlying26
  have HR0_0 := Aside0.mk hr0_0
  have HC0_0 := Aside0.mk hc0_0
  clear hr0_0 hc0_0
  have HR1 := Aside0.mk hr1
  have HC1 := Aside0.mk hc1
  clear hr1 hc1
  have HB := Aside0.mk (Below.refl w.heap.size w)
  have H : ((impl_areAnyLoans.f l0_0 l1).bind fun t480 => (if t480 = true then (some (decide ((l1.length : Int) ≤ 8))) else (some false))) = some r := h
  clear h
  replace H := Option.bind_eq_some_iff.mp H
  obtain ⟨t480, A30, H⟩ := H
  replace H : (if t480 = true then (some (decide ((l1.length : Int) ≤ 8))) else (some false)) = some r := H
  have A3 := Aside0.mk A30
  clear A30
  by_cases c4 : t480 = true
  · subst c4
    have H1 : (some (decide ((l1.length : Int) ≤ 8))) = some r := by rw [if_pos rfl] at H; exact H
    clear H
    have H := H1
    clear H1
    obtain rfl := Option.some.inj H
    go_enter Try.func76, Try.ntmps76
    go_wp2_with (first | ((with_reducible refine gate_dst (N := 2) rfl ?_); (try (refine gate_guard (by rfl) ?_; dsimp only)); refine box_event ?hg (N := 2) ?hd (cs := #[.slice A0_0 l0_0.length c0_0]) (t := 26) ?hr ?_; (case hd => rfl); (case hg => rfl); (case hr => first | (go_simp; done) | (go_simp; rfl)); intro gb479 hg w5 hbox hb; have n0_ := Aside0.mk (below_step (by repeat (first | (with_reducible first | exact HB.out | apply below_alloc | apply pw_below_drewN | apply below_drew1) | exact HB.out)) hb); have n1_ := Aside0.mk (hbox); have n2_ := Aside0.mk ((by rw [hg]; exact (below_size (by repeat (first | (with_reducible first | exact HB.out | apply below_alloc | apply pw_below_drewN | apply below_drew1) | exact HB.out))) : w.heap.size ≤ gb479)); have n3_ := Aside0.mk ((by rw [hg]; exact (below_size (by repeat (first | (with_reducible first | exact HB.out | apply below_alloc | apply pw_below_drewN | apply below_drew1) | exact HB.out))) : w.heap.size ≤ gb479)); clear HB; have HB := n0_; have BK479 := n1_; have GW479 := n2_; have GE479 := n3_; clear n0_ n1_ n2_ n3_; clear hb hbox hg; have hcz6_0 : w5.cell? ⟨gb479, 0, none⟩ = some (.slice A0_0 l0_0.length c0_0) := (blk_cell BK479.out 0).trans rfl; have hfz6_0 := blk_frozen BK479.out 0) | ((with_reducible refine gate_callee (f := 67) rfl ?_); refine goesL_ (some 7) rfl rfl Try.func67 (by kernel_rfl) rfl #[.agg #[.slice A0_0 l0_0.length c0_0], .slice A1 l1.length c1] rfl (by (try simp only [List.map_toArray, List.map_cons, List.map_nil]); first | done | rfl | (simp only [List.length_drop, List.length_take]; rfl)) ?_; (with_reducible refine (impl_areAnyLoans.calls _ _ l0_0 _ _ l1 true _ ?side1 ?side2 ?side3 ?side4 A3.out).mono ?_); (case side1 => repeat (first | exact (Kd.C_below HR0_0.out HB.out) | (with_reducible refine Kd.C_alloc ?_ _) | (with_reducible refine Kd.C_drewN ?_ _) | (with_reducible refine Kd.C_drew ?_))); (case side2 => exact HC0_0.out); (case side3 => repeat (first | exact (Kd.C_below HR1.out HB.out) | (with_reducible refine Kd.C_alloc ?_ _) | (with_reducible refine Kd.C_drewN ?_ _) | (with_reducible refine Kd.C_drew ?_))); (case side4 => exact HC1.out); rintro e w7 ⟨rfl, hb⟩; refine ⟨_, rfl, ?_⟩; have n0_ := Aside0.mk (blk_below (g := gb479) (o := .cells #[.slice A0_0 l0_0.length c0_0] 26 (0, 0)) (by (with_reducible repeat (first | refine blk_drewN ?_ _ | refine blk_drew ?_ | refine blk_alloc ?_ _)); exact BK479.out) hb); have n1_ := Aside0.mk (below_step (by repeat (first | (with_reducible first | exact HB.out | apply below_alloc | apply pw_below_drewN | apply below_drew1 | refine below_set ?_ GE479.out) | exact HB.out)) hb); clear BK479; clear HB; have BK479 := n0_; have HB := n1_; clear n0_ n1_; (try clear hb); (try clear hb2); (try clear hk); (try clear hi)))
    go_ret
    exact ⟨by first | rfl | (simp [errW_none, errW_some] <;> rfl) | (simp [*, errW_none, errW_some] <;> rfl), by repeat (first | (with_reducible first | exact HB.out | apply below_alloc | apply pw_below_drewN | apply below_drew1 | refine below_set ?_ GE479.out) | exact HB.out)⟩
  · replace c4 := Bool.eq_false_iff.mpr c4
    subst c4
    have H1 : (some false) = some r := by rw [if_neg (show ¬ (false = true) by decide)] at H; exact H
    clear H
    have H := H1
    clear H1
    obtain rfl := Option.some.inj H
    go_enter Try.func76, Try.ntmps76
    go_wp2_with (first | ((with_reducible refine gate_dst (N := 2) rfl ?_); (try (refine gate_guard (by rfl) ?_; dsimp only)); refine box_event ?hg (N := 2) ?hd (cs := #[.slice A0_0 l0_0.length c0_0]) (t := 26) ?hr ?_; (case hd => rfl); (case hg => rfl); (case hr => first | (go_simp; done) | (go_simp; rfl)); intro gb479 hg w8 hbox hb; have n0_ := Aside0.mk (below_step (by repeat (first | (with_reducible first | exact HB.out | apply below_alloc | apply pw_below_drewN | apply below_drew1) | exact HB.out)) hb); have n1_ := Aside0.mk (hbox); have n2_ := Aside0.mk ((by rw [hg]; exact (below_size (by repeat (first | (with_reducible first | exact HB.out | apply below_alloc | apply pw_below_drewN | apply below_drew1) | exact HB.out))) : w.heap.size ≤ gb479)); have n3_ := Aside0.mk ((by rw [hg]; exact (below_size (by repeat (first | (with_reducible first | exact HB.out | apply below_alloc | apply pw_below_drewN | apply below_drew1) | exact HB.out))) : w.heap.size ≤ gb479)); clear HB; have HB := n0_; have BK479 := n1_; have GW479 := n2_; have GE479 := n3_; clear n0_ n1_ n2_ n3_; clear hb hbox hg; have hcz9_0 : w8.cell? ⟨gb479, 0, none⟩ = some (.slice A0_0 l0_0.length c0_0) := (blk_cell BK479.out 0).trans rfl; have hfz9_0 := blk_frozen BK479.out 0) | ((with_reducible refine gate_callee (f := 67) rfl ?_); refine goesL_ (some 7) rfl rfl Try.func67 (by kernel_rfl) rfl #[.agg #[.slice A0_0 l0_0.length c0_0], .slice A1 l1.length c1] rfl (by (try simp only [List.map_toArray, List.map_cons, List.map_nil]); first | done | rfl | (simp only [List.length_drop, List.length_take]; rfl)) ?_; (with_reducible refine (impl_areAnyLoans.calls _ _ l0_0 _ _ l1 false _ ?side1 ?side2 ?side3 ?side4 A3.out).mono ?_); (case side1 => repeat (first | exact (Kd.C_below HR0_0.out HB.out) | (with_reducible refine Kd.C_alloc ?_ _) | (with_reducible refine Kd.C_drewN ?_ _) | (with_reducible refine Kd.C_drew ?_))); (case side2 => exact HC0_0.out); (case side3 => repeat (first | exact (Kd.C_below HR1.out HB.out) | (with_reducible refine Kd.C_alloc ?_ _) | (with_reducible refine Kd.C_drewN ?_ _) | (with_reducible refine Kd.C_drew ?_))); (case side4 => exact HC1.out); rintro e w10 ⟨rfl, hb⟩; refine ⟨_, rfl, ?_⟩; have n0_ := Aside0.mk (blk_below (g := gb479) (o := .cells #[.slice A0_0 l0_0.length c0_0] 26 (0, 0)) (by (with_reducible repeat (first | refine blk_drewN ?_ _ | refine blk_drew ?_ | refine blk_alloc ?_ _)); exact BK479.out) hb); have n1_ := Aside0.mk (below_step (by repeat (first | (with_reducible first | exact HB.out | apply below_alloc | apply pw_below_drewN | apply below_drew1 | refine below_set ?_ GE479.out) | exact HB.out)) hb); clear BK479; clear HB; have BK479 := n0_; have HB := n1_; clear n0_ n1_; (try clear hb); (try clear hb2); (try clear hk); (try clear hi)))
    go_ret
    exact ⟨by first | rfl | (simp [errW_none, errW_some] <;> rfl) | (simp [*, errW_none, errW_some] <;> rfl), by repeat (first | (with_reducible first | exact HB.out | apply below_alloc | apply pw_below_drewN | apply below_drew1 | refine below_set ?_ GE479.out) | exact HB.out)⟩

end Go.Proofs.Ytpbboooeahmgpaa.P


