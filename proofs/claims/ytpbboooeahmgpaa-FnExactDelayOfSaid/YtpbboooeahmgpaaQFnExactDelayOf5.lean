/- Part 5 of the proof of the law FnExactDelayOf: contracts of the functions that it reaches. -/
import Derived.Test.YtpbboooeahmgpaaQFnExactDelayOf4
namespace Go.Proofs.Ytpbboooeahmgpaa.P
open Go.RowKit Go.Proofs.YtpbboooeahmgpaaW.PrintWords Go.Proofs.YtpbboooeahmgpaaW.PrintLast Go.Proofs.YtpbboooeahmgpaaW.PrintMore
attribute [local go_sem] max2_int min2_int max_two min_two max_three min_three max_four min_four   -- for this text's walks alone
set_option linter.unusedVariables false
set_option linter.unusedSimpArgs false

/-! ### impl_inConflict: function 78 -/
def impl_inConflict.f (a0_0 : Int) (a0_1 : Int) (a0_2 : Int) (a0_3 : Int) (a0_4 : Bool) (a0_5 : Int) (a0_6 : Int) (a1_0 : Int) (a1_1 : Int) (a1_2 : Int) (a1_3 : Int) (a1_4 : Bool) (a1_5 : Int) (a1_6 : Int) : Option (Bool) := if a0_4 = true then ((impl_areShared.f a0_0 a0_1 a0_2 a0_3 a1_0 a1_1 a1_2 a1_3).bind fun t489 => (if t489 = true then (some (decide ((mx a0_5 a1_5) < (mn a0_6 a1_6)))) else (some false))) else (if a1_4 = true then ((impl_areShared.f a0_0 a0_1 a0_2 a0_3 a1_0 a1_1 a1_2 a1_3).bind fun t490 => (if t490 = true then (some (decide ((mx a0_5 a1_5) < (mn a0_6 a1_6)))) else (some false))) else (some false))
set_option maxHeartbeats 8000000 in
set_option maxRecDepth 100000 in
theorem impl_inConflict.calls (a0_0 : Int) (a0_1 : Int) (a0_2 : Int) (a0_3 : Int) (a0_4 : Bool) (a0_5 : Int) (a0_6 : Int) (a1_0 : Int) (a1_1 : Int) (a1_2 : Int) (a1_3 : Int) (a1_4 : Bool) (a1_5 : Int) (a1_6 : Int) (r : Bool) (w : World) (h : impl_inConflict.f a0_0 a0_1 a0_2 a0_3 a0_4 a0_5 a0_6 a1_0 a1_1 a1_2 a1_3 a1_4 a1_5 a1_6 = some r) :
    Calls Try.prog 78 #[.agg #[.int .i64 a0_0, .int .i64 a0_1, .int .i64 a0_2, .int .i64 a0_3, .bool a0_4, .int .i64 a0_5, .int .i64 a0_6], .agg #[.int .i64 a1_0, .int .i64 a1_1, .int .i64 a1_2, .int .i64 a1_3, .bool a1_4, .int .i64 a1_5, .int .i64 a1_6]] w fun e w' => e = .returned (.bool r) ∧ Below w.heap.size w w' := by
  have hu30 := Try.underlying30
  have hu28 := Try.underlying28
  have HB := Aside0.mk (Below.refl w.heap.size w)
  have H : (if a0_4 = true then ((impl_areShared.f a0_0 a0_1 a0_2 a0_3 a1_0 a1_1 a1_2 a1_3).bind fun t489 => (if t489 = true then (some (decide ((mx a0_5 a1_5) < (mn a0_6 a1_6)))) else (some false))) else (if a1_4 = true then ((impl_areShared.f a0_0 a0_1 a0_2 a0_3 a1_0 a1_1 a1_2 a1_3).bind fun t490 => (if t490 = true then (some (decide ((mx a0_5 a1_5) < (mn a0_6 a1_6)))) else (some false))) else (some false))) = some r := h
  clear h
  by_cases c3 : a0_4 = true
  · subst c3
    have H1 : ((impl_areShared.f a0_0 a0_1 a0_2 a0_3 a1_0 a1_1 a1_2 a1_3).bind fun t489 => (if t489 = true then (some (decide ((mx a0_5 a1_5) < (mn a0_6 a1_6)))) else (some false))) = some r := by rw [if_pos rfl] at H; exact H
    clear H
    have H := H1
    clear H1
    replace H := Option.bind_eq_some_iff.mp H
    obtain ⟨t489, A40, H⟩ := H
    replace H : (if t489 = true then (some (decide ((mx a0_5 a1_5) < (mn a0_6 a1_6)))) else (some false)) = some r := H
    have A4 := Aside0.mk A40
    clear A40
    by_cases c5 : t489 = true
    · subst c5
      have H1 : (some (decide ((mx a0_5 a1_5) < (mn a0_6 a1_6)))) = some r := by rw [if_pos rfl] at H; exact H
      clear H
      have H := H1
      clear H1
      obtain ⟨ji6, hji6⟩ : ∃ j_ : Int, (mx a0_5 a1_5) = j_ := ⟨_, rfl⟩
      replace H : (some (decide ((ji6) < (mn a0_6 a1_6)))) = some r := by first | (rw [hji6] at H; exact H) | (simp only [hji6] at H ⊢; exact H)
      (try rw [hji6] at A4)
      have hji6_ : (if a0_5 < a1_5 then a1_5 else a0_5) = ji6 := hji6
      obtain ⟨ji7, hji7⟩ : ∃ j_ : Int, (mn a0_6 a1_6) = j_ := ⟨_, rfl⟩
      replace H : (some (decide ((ji6) < (ji7)))) = some r := by first | (rw [hji7] at H; exact H) | (simp only [hji7] at H ⊢; exact H)
      (try rw [hji7] at A4)
      have hji7_ : (if a1_6 < a0_6 then a1_6 else a0_6) = ji7 := hji7
      obtain rfl := Option.some.inj H
      go_enter Try.func78, Try.ntmps78
      go_wp2_with (first | ((with_reducible refine gate_dst (N := 2) rfl ?_); (try (refine gate_guard (by rfl) ?_; dsimp only)); refine box_event ?hg (N := 2) ?hd (cs := #[.int .i64 a0_0, .int .i64 a0_1, .int .i64 a0_2, .int .i64 a0_3, .bool true, .int .i64 a0_5, .int .i64 a0_6]) (t := 30) ?hr ?_; (case hd => rfl); (case hg => rfl); (case hr => first | (go_simp; done) | (go_simp; rfl)); intro gb487 hg w8 hbox hb; have n0_ := Aside0.mk (below_step (by repeat (first | (with_reducible first | exact HB.out | apply below_alloc | apply pw_below_drewN | apply below_drew1) | exact HB.out)) hb); have n1_ := Aside0.mk (hbox); have n2_ := Aside0.mk ((by rw [hg]; exact (below_size (by repeat (first | (with_reducible first | exact HB.out | apply below_alloc | apply pw_below_drewN | apply below_drew1) | exact HB.out))) : w.heap.size ≤ gb487)); have n3_ := Aside0.mk ((by rw [hg]; exact (below_size (by repeat (first | (with_reducible first | exact HB.out | apply below_alloc | apply pw_below_drewN | apply below_drew1) | exact HB.out))) : w.heap.size ≤ gb487)); clear HB; have HB := n0_; have BK487 := n1_; have GW487 := n2_; have GE487 := n3_; clear n0_ n1_ n2_ n3_; clear hb hbox hg) | ((with_reducible refine gate_dst (N := 3) rfl ?_); (try (refine gate_guard (by rfl) ?_; dsimp only)); refine box_event ?hg (N := 3) ?hd (cs := #[.int .i64 a1_0, .int .i64 a1_1, .int .i64 a1_2, .int .i64 a1_3, .bool a1_4, .int .i64 a1_5, .int .i64 a1_6]) (t := 30) ?hr ?_; (case hd => rfl); (case hg => rfl); (case hr => first | (go_simp; done) | (go_simp; rfl)); intro gb488 hg w9 hbox hb; have n0_ := Aside0.mk (blk_below (g := gb487) (o := .cells #[.int .i64 a0_0, .int .i64 a0_1, .int .i64 a0_2, .int .i64 a0_3, .bool true, .int .i64 a0_5, .int .i64 a0_6] 30 (0, 0)) (by (with_reducible repeat (first | refine blk_drewN ?_ _ | refine blk_drew ?_ | refine blk_alloc ?_ _)); exact BK487.out) hb); have n1_ := Aside0.mk (below_step (by repeat (first | (with_reducible first | exact HB.out | apply below_alloc | apply pw_below_drewN | apply below_drew1 | refine below_set ?_ GE487.out) | exact HB.out)) hb); have n2_ := Aside0.mk (hbox); have n3_ := Aside0.mk ((by rw [hg]; exact (below_size (by repeat (first | (with_reducible first | exact HB.out | apply below_alloc | apply pw_below_drewN | apply below_drew1 | refine below_set ?_ GE487.out) | exact HB.out))) : w.heap.size ≤ gb488)); have n4_ := Aside0.mk ((by rw [hg]; exact (below_size (by repeat (first | (with_reducible first | exact HB.out | apply below_alloc | apply pw_below_drewN | apply below_drew1 | refine below_set ?_ GE487.out) | exact HB.out))) : w.heap.size ≤ gb488)); have n5_ := Aside0.mk ((by rw [hg]; exact Nat.ne_of_lt (blk_lt (g := gb487) (o := .cells #[.int .i64 a0_0, .int .i64 a0_1, .int .i64 a0_2, .int .i64 a0_3, .bool true, .int .i64 a0_5, .int .i64 a0_6] 30 (0, 0)) (by (with_reducible repeat (first | refine blk_drewN ?_ _ | refine blk_drew ?_ | refine blk_alloc ?_ _)); exact BK487.out)) : gb487 ≠ gb488)); have n6_ := Aside0.mk ((by rw [hg]; exact Nat.ne_of_gt (blk_lt (g := gb487) (o := .cells #[.int .i64 a0_0, .int .i64 a0_1, .int .i64 a0_2, .int .i64 a0_3, .bool true, .int .i64 a0_5, .int .i64 a0_6] 30 (0, 0)) (by (with_reducible repeat (first | refine blk_drewN ?_ _ | refine blk_drew ?_ | refine blk_alloc ?_ _)); exact BK487.out)) : gb488 ≠ gb487)); clear BK487; clear HB; have BK487 := n0_; have HB := n1_; have BK488 := n2_; have GW488 := n3_; have GE488 := n4_; have NB487_488 := n5_; have NB488_487 := n6_; clear n0_ n1_ n2_ n3_ n4_ n5_ n6_; clear hb hbox hg; have hnb10 := NB487_488.out; have hnc10 := NB488_487.out; have hcz11_0 : w9.cell? ⟨gb487, 0, none⟩ = some (.int .i64 a0_0) := (blk_cell BK487.out 0).trans rfl; have hcz11_1 : w9.cell? ⟨gb487, 1, none⟩ = some (.int .i64 a0_1) := (blk_cell BK487.out 1).trans rfl; have hcz11_2 : w9.cell? ⟨gb487, 2, none⟩ = some (.int .i64 a0_2) := (blk_cell BK487.out 2).trans rfl; have hcz11_3 : w9.cell? ⟨gb487, 3, none⟩ = some (.int .i64 a0_3) := (blk_cell BK487.out 3).trans rfl; have hcz11_4 : w9.cell? ⟨gb487, 4, none⟩ = some (.bool true) := (blk_cell BK487.out 4).trans rfl; have hcz11_5 : w9.cell? ⟨gb487, 5, none⟩ = some (.int .i64 a0_5) := (blk_cell BK487.out 5).trans rfl; have hcz11_6 : w9.cell? ⟨gb487, 6, none⟩ = some (.int .i64 a0_6) := (blk_cell BK487.out 6).trans rfl; have hfz11_0 := blk_frozen BK487.out 0; have hfz11_1 := blk_frozen BK487.out 1; have hfz11_2 := blk_frozen BK487.out 2; have hfz11_3 := blk_frozen BK487.out 3; have hfz11_4 := blk_frozen BK487.out 4; have hfz11_5 := blk_frozen BK487.out 5; have hfz11_6 := blk_frozen BK487.out 6; have hcz12_0 : w9.cell? ⟨gb488, 0, none⟩ = some (.int .i64 a1_0) := (blk_cell BK488.out 0).trans rfl; have hcz12_1 : w9.cell? ⟨gb488, 1, none⟩ = some (.int .i64 a1_1) := (blk_cell BK488.out 1).trans rfl; have hcz12_2 : w9.cell? ⟨gb488, 2, none⟩ = some (.int .i64 a1_2) := (blk_cell BK488.out 2).trans rfl; have hcz12_3 : w9.cell? ⟨gb488, 3, none⟩ = some (.int .i64 a1_3) := (blk_cell BK488.out 3).trans rfl; have hcz12_4 : w9.cell? ⟨gb488, 4, none⟩ = some (.bool a1_4) := (blk_cell BK488.out 4).trans rfl; have hcz12_5 : w9.cell? ⟨gb488, 5, none⟩ = some (.int .i64 a1_5) := (blk_cell BK488.out 5).trans rfl; have hcz12_6 : w9.cell? ⟨gb488, 6, none⟩ = some (.int .i64 a1_6) := (blk_cell BK488.out 6).trans rfl; have hfz12_0 := blk_frozen BK488.out 0; have hfz12_1 := blk_frozen BK488.out 1; have hfz12_2 := blk_frozen BK488.out 2; have hfz12_3 := blk_frozen BK488.out 3; have hfz12_4 := blk_frozen BK488.out 4; have hfz12_5 := blk_frozen BK488.out 5; have hfz12_6 := blk_frozen BK488.out 6) | (go_at_call 115; (with_reducible refine (impl_areShared.calls a0_0 a0_1 a0_2 a0_3 a1_0 a1_1 a1_2 a1_3 true _ A4.out).mono ?_); rintro e w13 ⟨rfl, hb⟩; have n0_ := Aside0.mk (blk_below (g := gb487) (o := .cells #[.int .i64 a0_0, .int .i64 a0_1, .int .i64 a0_2, .int .i64 a0_3, .bool true, .int .i64 a0_5, .int .i64 a0_6] 30 (0, 0)) (by (with_reducible repeat (first | refine blk_drewN ?_ _ | refine blk_drew ?_ | refine blk_alloc ?_ _)); exact BK487.out) hb); have n1_ := Aside0.mk (blk_below (g := gb488) (o := .cells #[.int .i64 a1_0, .int .i64 a1_1, .int .i64 a1_2, .int .i64 a1_3, .bool a1_4, .int .i64 a1_5, .int .i64 a1_6] 30 (0, 0)) (by (with_reducible repeat (first | refine blk_drewN ?_ _ | refine blk_drew ?_ | refine blk_alloc ?_ _)); exact BK488.out) hb); have n2_ := Aside0.mk (below_step (by repeat (first | (with_reducible first | exact HB.out | apply below_alloc | apply pw_below_drewN | apply below_drew1 | refine below_set ?_ GE487.out | refine below_set ?_ GE488.out) | exact HB.out)) hb); clear BK487; clear BK488; clear HB; have BK487 := n0_; have BK488 := n1_; have HB := n2_; clear n0_ n1_ n2_; (try clear hb); (try clear hb2); (try clear hk); (try clear hi); have hcz14_0 : w13.cell? ⟨gb487, 0, none⟩ = some (.int .i64 a0_0) := (blk_cell BK487.out 0).trans rfl; have hcz14_1 : w13.cell? ⟨gb487, 1, none⟩ = some (.int .i64 a0_1) := (blk_cell BK487.out 1).trans rfl; have hcz14_2 : w13.cell? ⟨gb487, 2, none⟩ = some (.int .i64 a0_2) := (blk_cell BK487.out 2).trans rfl; have hcz14_3 : w13.cell? ⟨gb487, 3, none⟩ = some (.int .i64 a0_3) := (blk_cell BK487.out 3).trans rfl; have hcz14_4 : w13.cell? ⟨gb487, 4, none⟩ = some (.bool true) := (blk_cell BK487.out 4).trans rfl; have hcz14_5 : w13.cell? ⟨gb487, 5, none⟩ = some (.int .i64 a0_5) := (blk_cell BK487.out 5).trans rfl; have hcz14_6 : w13.cell? ⟨gb487, 6, none⟩ = some (.int .i64 a0_6) := (blk_cell BK487.out 6).trans rfl; have hfz14_0 := blk_frozen BK487.out 0; have hfz14_1 := blk_frozen BK487.out 1; have hfz14_2 := blk_frozen BK487.out 2; have hfz14_3 := blk_frozen BK487.out 3; have hfz14_4 := blk_frozen BK487.out 4; have hfz14_5 := blk_frozen BK487.out 5; have hfz14_6 := blk_frozen BK487.out 6; have hcz15_0 : w13.cell? ⟨gb488, 0, none⟩ = some (.int .i64 a1_0) := (blk_cell BK488.out 0).trans rfl; have hcz15_1 : w13.cell? ⟨gb488, 1, none⟩ = some (.int .i64 a1_1) := (blk_cell BK488.out 1).trans rfl; have hcz15_2 : w13.cell? ⟨gb488, 2, none⟩ = some (.int .i64 a1_2) := (blk_cell BK488.out 2).trans rfl; have hcz15_3 : w13.cell? ⟨gb488, 3, none⟩ = some (.int .i64 a1_3) := (blk_cell BK488.out 3).trans rfl; have hcz15_4 : w13.cell? ⟨gb488, 4, none⟩ = some (.bool a1_4) := (blk_cell BK488.out 4).trans rfl; have hcz15_5 : w13.cell? ⟨gb488, 5, none⟩ = some (.int .i64 a1_5) := (blk_cell BK488.out 5).trans rfl; have hcz15_6 : w13.cell? ⟨gb488, 6, none⟩ = some (.int .i64 a1_6) := (blk_cell BK488.out 6).trans rfl; have hfz15_0 := blk_frozen BK488.out 0; have hfz15_1 := blk_frozen BK488.out 1; have hfz15_2 := blk_frozen BK488.out 2; have hfz15_3 := blk_frozen BK488.out 3; have hfz15_4 := blk_frozen BK488.out 4; have hfz15_5 := blk_frozen BK488.out 5; have hfz15_6 := blk_frozen BK488.out 6))
      go_ret
      exact ⟨by first | rfl | (simp [errW_none, errW_some] <;> rfl) | (simp only [← hji6, ← hji7]; first | rfl | (simp [errW_none, errW_some] <;> rfl)) | (simp [*, errW_none, errW_some] <;> rfl), by repeat (first | (with_reducible first | exact HB.out | apply below_alloc | apply pw_below_drewN | apply below_drew1 | refine below_set ?_ GE487.out | refine below_set ?_ GE488.out) | exact HB.out)⟩
    · replace c5 := Bool.eq_false_iff.mpr c5
      subst c5
      have H1 : (some false) = some r := by rw [if_neg (show ¬ (false = true) by decide)] at H; exact H
      clear H
      have H := H1
      clear H1
      obtain rfl := Option.some.inj H
      go_enter Try.func78, Try.ntmps78
      go_wp2_with (first | ((with_reducible refine gate_dst (N := 2) rfl ?_); (try (refine gate_guard (by rfl) ?_; dsimp only)); refine box_event ?hg (N := 2) ?hd (cs := #[.int .i64 a0_0, .int .i64 a0_1, .int .i64 a0_2, .int .i64 a0_3, .bool true, .int .i64 a0_5, .int .i64 a0_6]) (t := 30) ?hr ?_; (case hd => rfl); (case hg => rfl); (case hr => first | (go_simp; done) | (go_simp; rfl)); intro gb487 hg w16 hbox hb; have n0_ := Aside0.mk (below_step (by repeat (first | (with_reducible first | exact HB.out | apply below_alloc | apply pw_below_drewN | apply below_drew1) | exact HB.out)) hb); have n1_ := Aside0.mk (hbox); have n2_ := Aside0.mk ((by rw [hg]; exact (below_size (by repeat (first | (with_reducible first | exact HB.out | apply below_alloc | apply pw_below_drewN | apply below_drew1) | exact HB.out))) : w.heap.size ≤ gb487)); have n3_ := Aside0.mk ((by rw [hg]; exact (below_size (by repeat (first | (with_reducible first | exact HB.out | apply below_alloc | apply pw_below_drewN | apply below_drew1) | exact HB.out))) : w.heap.size ≤ gb487)); clear HB; have HB := n0_; have BK487 := n1_; have GW487 := n2_; have GE487 := n3_; clear n0_ n1_ n2_ n3_; clear hb hbox hg) | ((with_reducible refine gate_dst (N := 3) rfl ?_); (try (refine gate_guard (by rfl) ?_; dsimp only)); refine box_event ?hg (N := 3) ?hd (cs := #[.int .i64 a1_0, .int .i64 a1_1, .int .i64 a1_2, .int .i64 a1_3, .bool a1_4, .int .i64 a1_5, .int .i64 a1_6]) (t := 30) ?hr ?_; (case hd => rfl); (case hg => rfl); (case hr => first | (go_simp; done) | (go_simp; rfl)); intro gb488 hg w17 hbox hb; have n0_ := Aside0.mk (blk_below (g := gb487) (o := .cells #[.int .i64 a0_0, .int .i64 a0_1, .int .i64 a0_2, .int .i64 a0_3, .bool true, .int .i64 a0_5, .int .i64 a0_6] 30 (0, 0)) (by (with_reducible repeat (first | refine blk_drewN ?_ _ | refine blk_drew ?_ | refine blk_alloc ?_ _)); exact BK487.out) hb); have n1_ := Aside0.mk (below_step (by repeat (first | (with_reducible first | exact HB.out | apply below_alloc | apply pw_below_drewN | apply below_drew1 | refine below_set ?_ GE487.out) | exact HB.out)) hb); have n2_ := Aside0.mk (hbox); have n3_ := Aside0.mk ((by rw [hg]; exact (below_size (by repeat (first | (with_reducible first | exact HB.out | apply below_alloc | apply pw_below_drewN | apply below_drew1 | refine below_set ?_ GE487.out) | exact HB.out))) : w.heap.size ≤ gb488)); have n4_ := Aside0.mk ((by rw [hg]; exact (below_size (by repeat (first | (with_reducible first | exact HB.out | apply below_alloc | apply pw_below_drewN | apply below_drew1 | refine below_set ?_ GE487.out) | exact HB.out))) : w.heap.size ≤ gb488)); have n5_ := Aside0.mk ((by rw [hg]; exact Nat.ne_of_lt (blk_lt (g := gb487) (o := .cells #[.int .i64 a0_0, .int .i64 a0_1, .int .i64 a0_2, .int .i64 a0_3, .bool true, .int .i64 a0_5, .int .i64 a0_6] 30 (0, 0)) (by (with_reducible repeat (first | refine blk_drewN ?_ _ | refine blk_drew ?_ | refine blk_alloc ?_ _)); exact BK487.out)) : gb487 ≠ gb488)); have n6_ := Aside0.mk ((by rw [hg]; exact Nat.ne_of_gt (blk_lt (g := gb487) (o := .cells #[.int .i64 a0_0, .int .i64 a0_1, .int .i64 a0_2, .int .i64 a0_3, .bool true, .int .i64 a0_5, .int .i64 a0_6] 30 (0, 0)) (by (with_reducible repeat (first | refine blk_drewN ?_ _ | refine blk_drew ?_ | refine blk_alloc ?_ _)); exact BK487.out)) : gb488 ≠ gb487)); clear BK487; clear HB; have BK487 := n0_; have HB := n1_; have BK488 := n2_; have GW488 := n3_; have GE488 := n4_; have NB487_488 := n5_; have NB488_487 := n6_; clear n0_ n1_ n2_ n3_ n4_ n5_ n6_; clear hb hbox hg; have hnb18 := NB487_488.out; have hnc18 := NB488_487.out; have hcz19_0 : w17.cell? ⟨gb487, 0, none⟩ = some (.int .i64 a0_0) := (blk_cell BK487.out 0).trans rfl; have hcz19_1 : w17.cell? ⟨gb487, 1, none⟩ = some (.int .i64 a0_1) := (blk_cell BK487.out 1).trans rfl; have hcz19_2 : w17.cell? ⟨gb487, 2, none⟩ = some (.int .i64 a0_2) := (blk_cell BK487.out 2).trans rfl; have hcz19_3 : w17.cell? ⟨gb487, 3, none⟩ = some (.int .i64 a0_3) := (blk_cell BK487.out 3).trans rfl; have hcz19_4 : w17.cell? ⟨gb487, 4, none⟩ = some (.bool true) := (blk_cell BK487.out 4).trans rfl; have hcz19_5 : w17.cell? ⟨gb487, 5, none⟩ = some (.int .i64 a0_5) := (blk_cell BK487.out 5).trans rfl; have hcz19_6 : w17.cell? ⟨gb487, 6, none⟩ = some (.int .i64 a0_6) := (blk_cell BK487.out 6).trans rfl; have hfz19_0 := blk_frozen BK487.out 0; have hfz19_1 := blk_frozen BK487.out 1; have hfz19_2 := blk_frozen BK487.out 2; have hfz19_3 := blk_frozen BK487.out 3; have hfz19_4 := blk_frozen BK487.out 4; have hfz19_5 := blk_frozen BK487.out 5; have hfz19_6 := blk_frozen BK487.out 6; have hcz20_0 : w17.cell? ⟨gb488, 0, none⟩ = some (.int .i64 a1_0) := (blk_cell BK488.out 0).trans rfl; have hcz20_1 : w17.cell? ⟨gb488, 1, none⟩ = some (.int .i64 a1_1) := (blk_cell BK488.out 1).trans rfl; have hcz20_2 : w17.cell? ⟨gb488, 2, none⟩ = some (.int .i64 a1_2) := (blk_cell BK488.out 2).trans rfl; have hcz20_3 : w17.cell? ⟨gb488, 3, none⟩ = some (.int .i64 a1_3) := (blk_cell BK488.out 3).trans rfl; have hcz20_4 : w17.cell? ⟨gb488, 4, none⟩ = some (.bool a1_4) := (blk_cell BK488.out 4).trans rfl; have hcz20_5 : w17.cell? ⟨gb488, 5, none⟩ = some (.int .i64 a1_5) := (blk_cell BK488.out 5).trans rfl; have hcz20_6 : w17.cell? ⟨gb488, 6, none⟩ = some (.int .i64 a1_6) := (blk_cell BK488.out 6).trans rfl; have hfz20_0 := blk_frozen BK488.out 0; have hfz20_1 := blk_frozen BK488.out 1; have hfz20_2 := blk_frozen BK488.out 2; have hfz20_3 := blk_frozen BK488.out 3; have hfz20_4 := blk_frozen BK488.out 4; have hfz20_5 := blk_frozen BK488.out 5; have hfz20_6 := blk_frozen BK488.out 6) | (go_at_call 115; (with_reducible refine (impl_areShared.calls a0_0 a0_1 a0_2 a0_3 a1_0 a1_1 a1_2 a1_3 false _ A4.out).mono ?_); rintro e w21 ⟨rfl, hb⟩; have n0_ := Aside0.mk (blk_below (g := gb487) (o := .cells #[.int .i64 a0_0, .int .i64 a0_1, .int .i64 a0_2, .int .i64 a0_3, .bool true, .int .i64 a0_5, .int .i64 a0_6] 30 (0, 0)) (by (with_reducible repeat (first | refine blk_drewN ?_ _ | refine blk_drew ?_ | refine blk_alloc ?_ _)); exact BK487.out) hb); have n1_ := Aside0.mk (blk_below (g := gb488) (o := .cells #[.int .i64 a1_0, .int .i64 a1_1, .int .i64 a1_2, .int .i64 a1_3, .bool a1_4, .int .i64 a1_5, .int .i64 a1_6] 30 (0, 0)) (by (with_reducible repeat (first | refine blk_drewN ?_ _ | refine blk_drew ?_ | refine blk_alloc ?_ _)); exact BK488.out) hb); have n2_ := Aside0.mk (below_step (by repeat (first | (with_reducible first | exact HB.out | apply below_alloc | apply pw_below_drewN | apply below_drew1 | refine below_set ?_ GE487.out | refine below_set ?_ GE488.out) | exact HB.out)) hb); clear BK487; clear BK488; clear HB; have BK487 := n0_; have BK488 := n1_; have HB := n2_; clear n0_ n1_ n2_; (try clear hb); (try clear hb2); (try clear hk); (try clear hi)))
      go_ret
      exact ⟨by first | rfl | (simp [errW_none, errW_some] <;> rfl) | (simp [*, errW_none, errW_some] <;> rfl), by repeat (first | (with_reducible first | exact HB.out | apply below_alloc | apply pw_below_drewN | apply below_drew1 | refine below_set ?_ GE487.out | refine below_set ?_ GE488.out) | exact HB.out)⟩
  · replace c3 := Bool.eq_false_iff.mpr c3
    subst c3
    have H1 : (if a1_4 = true then ((impl_areShared.f a0_0 a0_1 a0_2 a0_3 a1_0 a1_1 a1_2 a1_3).bind fun t490 => (if t490 = true then (some (decide ((mx a0_5 a1_5) < (mn a0_6 a1_6)))) else (some false))) else (some false)) = some r := by rw [if_neg (show ¬ (false = true) by decide)] at H; exact H
    clear H
    have H := H1
    clear H1
    by_cases c22 : a1_4 = true
    · subst c22
      have H1 : ((impl_areShared.f a0_0 a0_1 a0_2 a0_3 a1_0 a1_1 a1_2 a1_3).bind fun t490 => (if t490 = true then (some (decide ((mx a0_5 a1_5) < (mn a0_6 a1_6)))) else (some false))) = some r := by rw [if_pos rfl] at H; exact H
      clear H
      have H := H1
      clear H1
      replace H := Option.bind_eq_some_iff.mp H
      obtain ⟨t490, A230, H⟩ := H
      replace H : (if t490 = true then (some (decide ((mx a0_5 a1_5) < (mn a0_6 a1_6)))) else (some false)) = some r := H
      have A23 := Aside0.mk A230
      clear A230
      by_cases c24 : t490 = true
      · subst c24
        have H1 : (some (decide ((mx a0_5 a1_5) < (mn a0_6 a1_6)))) = some r := by rw [if_pos rfl] at H; exact H
        clear H
        have H := H1
        clear H1
        obtain ⟨ji25, hji25⟩ : ∃ j_ : Int, (mx a0_5 a1_5) = j_ := ⟨_, rfl⟩
        replace H : (some (decide ((ji25) < (mn a0_6 a1_6)))) = some r := by first | (rw [hji25] at H; exact H) | (simp only [hji25] at H ⊢; exact H)
        (try rw [hji25] at A23)
        have hji25_ : (if a0_5 < a1_5 then a1_5 else a0_5) = ji25 := hji25
        obtain ⟨ji26, hji26⟩ : ∃ j_ : Int, (mn a0_6 a1_6) = j_ := ⟨_, rfl⟩
        replace H : (some (decide ((ji25) < (ji26)))) = some r := by first | (rw [hji26] at H; exact H) | (simp only [hji26] at H ⊢; exact H)
        (try rw [hji26] at A23)
        have hji26_ : (if a1_6 < a0_6 then a1_6 else a0_6) = ji26 := hji26
        obtain rfl := Option.some.inj H
        go_enter Try.func78, Try.ntmps78
        go_wp2_with (first | ((with_reducible refine gate_dst (N := 2) rfl ?_); (try (refine gate_guard (by rfl) ?_; dsimp only)); refine box_event ?hg (N := 2) ?hd (cs := #[.int .i64 a0_0, .int .i64 a0_1, .int .i64 a0_2, .int .i64 a0_3, .bool false, .int .i64 a0_5, .int .i64 a0_6]) (t := 30) ?hr ?_; (case hd => rfl); (case hg => rfl); (case hr => first | (go_simp; done) | (go_simp; rfl)); intro gb487 hg w27 hbox hb; have n0_ := Aside0.mk (below_step (by repeat (first | (with_reducible first | exact HB.out | apply below_alloc | apply pw_below_drewN | apply below_drew1) | exact HB.out)) hb); have n1_ := Aside0.mk (hbox); have n2_ := Aside0.mk ((by rw [hg]; exact (below_size (by repeat (first | (with_reducible first | exact HB.out | apply below_alloc | apply pw_below_drewN | apply below_drew1) | exact HB.out))) : w.heap.size ≤ gb487)); have n3_ := Aside0.mk ((by rw [hg]; exact (below_size (by repeat (first | (with_reducible first | exact HB.out | apply below_alloc | apply pw_below_drewN | apply below_drew1) | exact HB.out))) : w.heap.size ≤ gb487)); clear HB; have HB := n0_; have BK487 := n1_; have GW487 := n2_; have GE487 := n3_; clear n0_ n1_ n2_ n3_; clear hb hbox hg) | ((with_reducible refine gate_dst (N := 3) rfl ?_); (try (refine gate_guard (by rfl) ?_; dsimp only)); refine box_event ?hg (N := 3) ?hd (cs := #[.int .i64 a1_0, .int .i64 a1_1, .int .i64 a1_2, .int .i64 a1_3, .bool true, .int .i64 a1_5, .int .i64 a1_6]) (t := 30) ?hr ?_; (case hd => rfl); (case hg => rfl); (case hr => first | (go_simp; done) | (go_simp; rfl)); intro gb488 hg w28 hbox hb; have n0_ := Aside0.mk (blk_below (g := gb487) (o := .cells #[.int .i64 a0_0, .int .i64 a0_1, .int .i64 a0_2, .int .i64 a0_3, .bool false, .int .i64 a0_5, .int .i64 a0_6] 30 (0, 0)) (by (with_reducible repeat (first | refine blk_drewN ?_ _ | refine blk_drew ?_ | refine blk_alloc ?_ _)); exact BK487.out) hb); have n1_ := Aside0.mk (below_step (by repeat (first | (with_reducible first | exact HB.out | apply below_alloc | apply pw_below_drewN | apply below_drew1 | refine below_set ?_ GE487.out) | exact HB.out)) hb); have n2_ := Aside0.mk (hbox); have n3_ := Aside0.mk ((by rw [hg]; exact (below_size (by repeat (first | (with_reducible first | exact HB.out | apply below_alloc | apply pw_below_drewN | apply below_drew1 | refine below_set ?_ GE487.out) | exact HB.out))) : w.heap.size ≤ gb488)); have n4_ := Aside0.mk ((by rw [hg]; exact (below_size (by repeat (first | (with_reducible first | exact HB.out | apply below_alloc | apply pw_below_drewN | apply below_drew1 | refine below_set ?_ GE487.out) | exact HB.out))) : w.heap.size ≤ gb488)); have n5_ := Aside0.mk ((by rw [hg]; exact Nat.ne_of_lt (blk_lt (g := gb487) (o := .cells #[.int .i64 a0_0, .int .i64 a0_1, .int .i64 a0_2, .int .i64 a0_3, .bool false, .int .i64 a0_5, .int .i64 a0_6] 30 (0, 0)) (by (with_reducible repeat (first | refine blk_drewN ?_ _ | refine blk_drew ?_ | refine blk_alloc ?_ _)); exact BK487.out)) : gb487 ≠ gb488)); have n6_ := Aside0.mk ((by rw [hg]; exact Nat.ne_of_gt (blk_lt (g := gb487) (o := .cells #[.int .i64 a0_0, .int .i64 a0_1, .int .i64 a0_2, .int .i64 a0_3, .bool false, .int .i64 a0_5, .int .i64 a0_6] 30 (0, 0)) (by (with_reducible repeat (first | refine blk_drewN ?_ _ | refine blk_drew ?_ | refine blk_alloc ?_ _)); exact BK487.out)) : gb488 ≠ gb487)); clear BK487; clear HB; have BK487 := n0_; have HB := n1_; have BK488 := n2_; have GW488 := n3_; have GE488 := n4_; have NB487_488 := n5_; have NB488_487 := n6_; clear n0_ n1_ n2_ n3_ n4_ n5_ n6_; clear hb hbox hg; have hnb29 := NB487_488.out; have hnc29 := NB488_487.out; have hcz30_0 : w28.cell? ⟨gb487, 0, none⟩ = some (.int .i64 a0_0) := (blk_cell BK487.out 0).trans rfl; have hcz30_1 : w28.cell? ⟨gb487, 1, none⟩ = some (.int .i64 a0_1) := (blk_cell BK487.out 1).trans rfl; have hcz30_2 : w28.cell? ⟨gb487, 2, none⟩ = some (.int .i64 a0_2) := (blk_cell BK487.out 2).trans rfl; have hcz30_3 : w28.cell? ⟨gb487, 3, none⟩ = some (.int .i64 a0_3) := (blk_cell BK487.out 3).trans rfl; have hcz30_4 : w28.cell? ⟨gb487, 4, none⟩ = some (.bool false) := (blk_cell BK487.out 4).trans rfl; have hcz30_5 : w28.cell? ⟨gb487, 5, none⟩ = some (.int .i64 a0_5) := (blk_cell BK487.out 5).trans rfl; have hcz30_6 : w28.cell? ⟨gb487, 6, none⟩ = some (.int .i64 a0_6) := (blk_cell BK487.out 6).trans rfl; have hfz30_0 := blk_frozen BK487.out 0; have hfz30_1 := blk_frozen BK487.out 1; have hfz30_2 := blk_frozen BK487.out 2; have hfz30_3 := blk_frozen BK487.out 3; have hfz30_4 := blk_frozen BK487.out 4; have hfz30_5 := blk_frozen BK487.out 5; have hfz30_6 := blk_frozen BK487.out 6; have hcz31_0 : w28.cell? ⟨gb488, 0, none⟩ = some (.int .i64 a1_0) := (blk_cell BK488.out 0).trans rfl; have hcz31_1 : w28.cell? ⟨gb488, 1, none⟩ = some (.int .i64 a1_1) := (blk_cell BK488.out 1).trans rfl; have hcz31_2 : w28.cell? ⟨gb488, 2, none⟩ = some (.int .i64 a1_2) := (blk_cell BK488.out 2).trans rfl; have hcz31_3 : w28.cell? ⟨gb488, 3, none⟩ = some (.int .i64 a1_3) := (blk_cell BK488.out 3).trans rfl; have hcz31_4 : w28.cell? ⟨gb488, 4, none⟩ = some (.bool true) := (blk_cell BK488.out 4).trans rfl; have hcz31_5 : w28.cell? ⟨gb488, 5, none⟩ = some (.int .i64 a1_5) := (blk_cell BK488.out 5).trans rfl; have hcz31_6 : w28.cell? ⟨gb488, 6, none⟩ = some (.int .i64 a1_6) := (blk_cell BK488.out 6).trans rfl; have hfz31_0 := blk_frozen BK488.out 0; have hfz31_1 := blk_frozen BK488.out 1; have hfz31_2 := blk_frozen BK488.out 2; have hfz31_3 := blk_frozen BK488.out 3; have hfz31_4 := blk_frozen BK488.out 4; have hfz31_5 := blk_frozen BK488.out 5; have hfz31_6 := blk_frozen BK488.out 6) | (go_at_call 115; (with_reducible refine (impl_areShared.calls a0_0 a0_1 a0_2 a0_3 a1_0 a1_1 a1_2 a1_3 true _ A23.out).mono ?_); rintro e w32 ⟨rfl, hb⟩; have n0_ := Aside0.mk (blk_below (g := gb487) (o := .cells #[.int .i64 a0_0, .int .i64 a0_1, .int .i64 a0_2, .int .i64 a0_3, .bool false, .int .i64 a0_5, .int .i64 a0_6] 30 (0, 0)) (by (with_reducible repeat (first | refine blk_drewN ?_ _ | refine blk_drew ?_ | refine blk_alloc ?_ _)); exact BK487.out) hb); have n1_ := Aside0.mk (blk_below (g := gb488) (o := .cells #[.int .i64 a1_0, .int .i64 a1_1, .int .i64 a1_2, .int .i64 a1_3, .bool true, .int .i64 a1_5, .int .i64 a1_6] 30 (0, 0)) (by (with_reducible repeat (first | refine blk_drewN ?_ _ | refine blk_drew ?_ | refine blk_alloc ?_ _)); exact BK488.out) hb); have n2_ := Aside0.mk (below_step (by repeat (first | (with_reducible first | exact HB.out | apply below_alloc | apply pw_below_drewN | apply below_drew1 | refine below_set ?_ GE487.out | refine below_set ?_ GE488.out) | exact HB.out)) hb); clear BK487; clear BK488; clear HB; have BK487 := n0_; have BK488 := n1_; have HB := n2_; clear n0_ n1_ n2_; (try clear hb); (try clear hb2); (try clear hk); (try clear hi); have hcz33_0 : w32.cell? ⟨gb487, 0, none⟩ = some (.int .i64 a0_0) := (blk_cell BK487.out 0).trans rfl; have hcz33_1 : w32.cell? ⟨gb487, 1, none⟩ = some (.int .i64 a0_1) := (blk_cell BK487.out 1).trans rfl; have hcz33_2 : w32.cell? ⟨gb487, 2, none⟩ = some (.int .i64 a0_2) := (blk_cell BK487.out 2).trans rfl; have hcz33_3 : w32.cell? ⟨gb487, 3, none⟩ = some (.int .i64 a0_3) := (blk_cell BK487.out 3).trans rfl; have hcz33_4 : w32.cell? ⟨gb487, 4, none⟩ = some (.bool false) := (blk_cell BK487.out 4).trans rfl; have hcz33_5 : w32.cell? ⟨gb487, 5, none⟩ = some (.int .i64 a0_5) := (blk_cell BK487.out 5).trans rfl; have hcz33_6 : w32.cell? ⟨gb487, 6, none⟩ = some (.int .i64 a0_6) := (blk_cell BK487.out 6).trans rfl; have hfz33_0 := blk_frozen BK487.out 0; have hfz33_1 := blk_frozen BK487.out 1; have hfz33_2 := blk_frozen BK487.out 2; have hfz33_3 := blk_frozen BK487.out 3; have hfz33_4 := blk_frozen BK487.out 4; have hfz33_5 := blk_frozen BK487.out 5; have hfz33_6 := blk_frozen BK487.out 6; have hcz34_0 : w32.cell? ⟨gb488, 0, none⟩ = some (.int .i64 a1_0) := (blk_cell BK488.out 0).trans rfl; have hcz34_1 : w32.cell? ⟨gb488, 1, none⟩ = some (.int .i64 a1_1) := (blk_cell BK488.out 1).trans rfl; have hcz34_2 : w32.cell? ⟨gb488, 2, none⟩ = some (.int .i64 a1_2) := (blk_cell BK488.out 2).trans rfl; have hcz34_3 : w32.cell? ⟨gb488, 3, none⟩ = some (.int .i64 a1_3) := (blk_cell BK488.out 3).trans rfl; have hcz34_4 : w32.cell? ⟨gb488, 4, none⟩ = some (.bool true) := (blk_cell BK488.out 4).trans rfl; have hcz34_5 : w32.cell? ⟨gb488, 5, none⟩ = some (.int .i64 a1_5) := (blk_cell BK488.out 5).trans rfl; have hcz34_6 : w32.cell? ⟨gb488, 6, none⟩ = some (.int .i64 a1_6) := (blk_cell BK488.out 6).trans rfl; have hfz34_0 := blk_frozen BK488.out 0; have hfz34_1 := blk_frozen BK488.out 1; have hfz34_2 := blk_frozen BK488.out 2; have hfz34_3 := blk_frozen BK488.out 3; have hfz34_4 := blk_frozen BK488.out 4; have hfz34_5 := blk_frozen BK488.out 5; have hfz34_6 := blk_frozen BK488.out 6))
        go_ret
        exact ⟨by first | rfl | (simp [errW_none, errW_some] <;> rfl) | (simp only [← hji25, ← hji26]; first | rfl | (simp [errW_none, errW_some] <;> rfl)) | (simp [*, errW_none, errW_some] <;> rfl), by repeat (first | (with_reducible first | exact HB.out | apply below_alloc | apply pw_below_drewN | apply below_drew1 | refine below_set ?_ GE487.out | refine below_set ?_ GE488.out) | exact HB.out)⟩
      · replace c24 := Bool.eq_false_iff.mpr c24
        subst c24
        have H1 : (some false) = some r := by rw [if_neg (show ¬ (false = true) by decide)] at H; exact H
        clear H
        have H := H1
        clear H1
        obtain rfl := Option.some.inj H
        go_enter Try.func78, Try.ntmps78
        go_wp2_with (first | ((with_reducible refine gate_dst (N := 2) rfl ?_); (try (refine gate_guard (by rfl) ?_; dsimp only)); refine box_event ?hg (N := 2) ?hd (cs := #[.int .i64 a0_0, .int .i64 a0_1, .int .i64 a0_2, .int .i64 a0_3, .bool false, .int .i64 a0_5, .int .i64 a0_6]) (t := 30) ?hr ?_; (case hd => rfl); (case hg => rfl); (case hr => first | (go_simp; done) | (go_simp; rfl)); intro gb487 hg w35 hbox hb; have n0_ := Aside0.mk (below_step (by repeat (first | (with_reducible first | exact HB.out | apply below_alloc | apply pw_below_drewN | apply below_drew1) | exact HB.out)) hb); have n1_ := Aside0.mk (hbox); have n2_ := Aside0.mk ((by rw [hg]; exact (below_size (by repeat (first | (with_reducible first | exact HB.out | apply below_alloc | apply pw_below_drewN | apply below_drew1) | exact HB.out))) : w.heap.size ≤ gb487)); have n3_ := Aside0.mk ((by rw [hg]; exact (below_size (by repeat (first | (with_reducible first | exact HB.out | apply below_alloc | apply pw_below_drewN | apply below_drew1) | exact HB.out))) : w.heap.size ≤ gb487)); clear HB; have HB := n0_; have BK487 := n1_; have GW487 := n2_; have GE487 := n3_; clear n0_ n1_ n2_ n3_; clear hb hbox hg) | ((with_reducible refine gate_dst (N := 3) rfl ?_); (try (refine gate_guard (by rfl) ?_; dsimp only)); refine box_event ?hg (N := 3) ?hd (cs := #[.int .i64 a1_0, .int .i64 a1_1, .int .i64 a1_2, .int .i64 a1_3, .bool true, .int .i64 a1_5, .int .i64 a1_6]) (t := 30) ?hr ?_; (case hd => rfl); (case hg => rfl); (case hr => first | (go_simp; done) | (go_simp; rfl)); intro gb488 hg w36 hbox hb; have n0_ := Aside0.mk (blk_below (g := gb487) (o := .cells #[.int .i64 a0_0, .int .i64 a0_1, .int .i64 a0_2, .int .i64 a0_3, .bool false, .int .i64 a0_5, .int .i64 a0_6] 30 (0, 0)) (by (with_reducible repeat (first | refine blk_drewN ?_ _ | refine blk_drew ?_ | refine blk_alloc ?_ _)); exact BK487.out) hb); have n1_ := Aside0.mk (below_step (by repeat (first | (with_reducible first | exact HB.out | apply below_alloc | apply pw_below_drewN | apply below_drew1 | refine below_set ?_ GE487.out) | exact HB.out)) hb); have n2_ := Aside0.mk (hbox); have n3_ := Aside0.mk ((by rw [hg]; exact (below_size (by repeat (first | (with_reducible first | exact HB.out | apply below_alloc | apply pw_below_drewN | apply below_drew1 | refine below_set ?_ GE487.out) | exact HB.out))) : w.heap.size ≤ gb488)); have n4_ := Aside0.mk ((by rw [hg]; exact (below_size (by repeat (first | (with_reducible first | exact HB.out | apply below_alloc | apply pw_below_drewN | apply below_drew1 | refine below_set ?_ GE487.out) | exact HB.out))) : w.heap.size ≤ gb488)); have n5_ := Aside0.mk ((by rw [hg]; exact Nat.ne_of_lt (blk_lt (g := gb487) (o := .cells #[.int .i64 a0_0, .int .i64 a0_1, .int .i64 a0_2, .int .i64 a0_3, .bool false, .int .i64 a0_5, .int .i64 a0_6] 30 (0, 0)) (by (with_reducible repeat (first | refine blk_drewN ?_ _ | refine blk_drew ?_ | refine blk_alloc ?_ _)); exact BK487.out)) : gb487 ≠ gb488)); have n6_ := Aside0.mk ((by rw [hg]; exact Nat.ne_of_gt (blk_lt (g := gb487) (o := .cells #[.int .i64 a0_0, .int .i64 a0_1, .int .i64 a0_2, .int .i64 a0_3, .bool false, .int .i64 a0_5, .int .i64 a0_6] 30 (0, 0)) (by (with_reducible repeat (first | refine blk_drewN ?_ _ | refine blk_drew ?_ | refine blk_alloc ?_ _)); exact BK487.out)) : gb488 ≠ gb487)); clear BK487; clear HB; have BK487 := n0_; have HB := n1_; have BK488 := n2_; have GW488 := n3_; have GE488 := n4_; have NB487_488 := n5_; have NB488_487 := n6_; clear n0_ n1_ n2_ n3_ n4_ n5_ n6_; clear hb hbox hg; have hnb37 := NB487_488.out; have hnc37 := NB488_487.out; have hcz38_0 : w36.cell? ⟨gb487, 0, none⟩ = some (.int .i64 a0_0) := (blk_cell BK487.out 0).trans rfl; have hcz38_1 : w36.cell? ⟨gb487, 1, none⟩ = some (.int .i64 a0_1) := (blk_cell BK487.out 1).trans rfl; have hcz38_2 : w36.cell? ⟨gb487, 2, none⟩ = some (.int .i64 a0_2) := (blk_cell BK487.out 2).trans rfl; have hcz38_3 : w36.cell? ⟨gb487, 3, none⟩ = some (.int .i64 a0_3) := (blk_cell BK487.out 3).trans rfl; have hcz38_4 : w36.cell? ⟨gb487, 4, none⟩ = some (.bool false) := (blk_cell BK487.out 4).trans rfl; have hcz38_5 : w36.cell? ⟨gb487, 5, none⟩ = some (.int .i64 a0_5) := (blk_cell BK487.out 5).trans rfl; have hcz38_6 : w36.cell? ⟨gb487, 6, none⟩ = some (.int .i64 a0_6) := (blk_cell BK487.out 6).trans rfl; have hfz38_0 := blk_frozen BK487.out 0; have hfz38_1 := blk_frozen BK487.out 1; have hfz38_2 := blk_frozen BK487.out 2; have hfz38_3 := blk_frozen BK487.out 3; have hfz38_4 := blk_frozen BK487.out 4; have hfz38_5 := blk_frozen BK487.out 5; have hfz38_6 := blk_frozen BK487.out 6; have hcz39_0 : w36.cell? ⟨gb488, 0, none⟩ = some (.int .i64 a1_0) := (blk_cell BK488.out 0).trans rfl; have hcz39_1 : w36.cell? ⟨gb488, 1, none⟩ = some (.int .i64 a1_1) := (blk_cell BK488.out 1).trans rfl; have hcz39_2 : w36.cell? ⟨gb488, 2, none⟩ = some (.int .i64 a1_2) := (blk_cell BK488.out 2).trans rfl; have hcz39_3 : w36.cell? ⟨gb488, 3, none⟩ = some (.int .i64 a1_3) := (blk_cell BK488.out 3).trans rfl; have hcz39_4 : w36.cell? ⟨gb488, 4, none⟩ = some (.bool true) := (blk_cell BK488.out 4).trans rfl; have hcz39_5 : w36.cell? ⟨gb488, 5, none⟩ = some (.int .i64 a1_5) := (blk_cell BK488.out 5).trans rfl; have hcz39_6 : w36.cell? ⟨gb488, 6, none⟩ = some (.int .i64 a1_6) := (blk_cell BK488.out 6).trans rfl; have hfz39_0 := blk_frozen BK488.out 0; have hfz39_1 := blk_frozen BK488.out 1; have hfz39_2 := blk_frozen BK488.out 2; have hfz39_3 := blk_frozen BK488.out 3; have hfz39_4 := blk_frozen BK488.out 4; have hfz39_5 := blk_frozen BK488.out 5; have hfz39_6 := blk_frozen BK488.out 6) | (go_at_call 115; (with_reducible refine (impl_areShared.calls a0_0 a0_1 a0_2 a0_3 a1_0 a1_1 a1_2 a1_3 false _ A23.out).mono ?_); rintro e w40 ⟨rfl, hb⟩; have n0_ := Aside0.mk (blk_below (g := gb487) (o := .cells #[.int .i64 a0_0, .int .i64 a0_1, .int .i64 a0_2, .int .i64 a0_3, .bool false, .int .i64 a0_5, .int .i64 a0_6] 30 (0, 0)) (by (with_reducible repeat (first | refine blk_drewN ?_ _ | refine blk_drew ?_ | refine blk_alloc ?_ _)); exact BK487.out) hb); have n1_ := Aside0.mk (blk_below (g := gb488) (o := .cells #[.int .i64 a1_0, .int .i64 a1_1, .int .i64 a1_2, .int .i64 a1_3, .bool true, .int .i64 a1_5, .int .i64 a1_6] 30 (0, 0)) (by (with_reducible repeat (first | refine blk_drewN ?_ _ | refine blk_drew ?_ | refine blk_alloc ?_ _)); exact BK488.out) hb); have n2_ := Aside0.mk (below_step (by repeat (first | (with_reducible first | exact HB.out | apply below_alloc | apply pw_below_drewN | apply below_drew1 | refine below_set ?_ GE487.out | refine below_set ?_ GE488.out) | exact HB.out)) hb); clear BK487; clear BK488; clear HB; have BK487 := n0_; have BK488 := n1_; have HB := n2_; clear n0_ n1_ n2_; (try clear hb); (try clear hb2); (try clear hk); (try clear hi)))
        go_ret
        exact ⟨by first | rfl | (simp [errW_none, errW_some] <;> rfl) | (simp [*, errW_none, errW_some] <;> rfl), by repeat (first | (with_reducible first | exact HB.out | apply below_alloc | apply pw_below_drewN | apply below_drew1 | refine below_set ?_ GE487.out | refine below_set ?_ GE488.out) | exact HB.out)⟩
    · replace c22 := Bool.eq_false_iff.mpr c22
      subst c22
      have H1 : (some false) = some r := by rw [if_neg (show ¬ (false = true) by decide)] at H; exact H
      clear H
      have H := H1
      clear H1
      obtain rfl := Option.some.inj H
      go_enter Try.func78, Try.ntmps78
      go_wp2_with (first | ((with_reducible refine gate_dst (N := 2) rfl ?_); (try (refine gate_guard (by rfl) ?_; dsimp only)); refine box_event ?hg (N := 2) ?hd (cs := #[.int .i64 a0_0, .int .i64 a0_1, .int .i64 a0_2, .int .i64 a0_3, .bool false, .int .i64 a0_5, .int .i64 a0_6]) (t := 30) ?hr ?_; (case hd => rfl); (case hg => rfl); (case hr => first | (go_simp; done) | (go_simp; rfl)); intro gb487 hg w41 hbox hb; have n0_ := Aside0.mk (below_step (by repeat (first | (with_reducible first | exact HB.out | apply below_alloc | apply pw_below_drewN | apply below_drew1) | exact HB.out)) hb); have n1_ := Aside0.mk (hbox); have n2_ := Aside0.mk ((by rw [hg]; exact (below_size (by repeat (first | (with_reducible first | exact HB.out | apply below_alloc | apply pw_below_drewN | apply below_drew1) | exact HB.out))) : w.heap.size ≤ gb487)); have n3_ := Aside0.mk ((by rw [hg]; exact (below_size (by repeat (first | (with_reducible first | exact HB.out | apply below_alloc | apply pw_below_drewN | apply below_drew1) | exact HB.out))) : w.heap.size ≤ gb487)); clear HB; have HB := n0_; have BK487 := n1_; have GW487 := n2_; have GE487 := n3_; clear n0_ n1_ n2_ n3_; clear hb hbox hg) | ((with_reducible refine gate_dst (N := 3) rfl ?_); (try (refine gate_guard (by rfl) ?_; dsimp only)); refine box_event ?hg (N := 3) ?hd (cs := #[.int .i64 a1_0, .int .i64 a1_1, .int .i64 a1_2, .int .i64 a1_3, .bool false, .int .i64 a1_5, .int .i64 a1_6]) (t := 30) ?hr ?_; (case hd => rfl); (case hg => rfl); (case hr => first | (go_simp; done) | (go_simp; rfl)); intro gb488 hg w42 hbox hb; have n0_ := Aside0.mk (blk_below (g := gb487) (o := .cells #[.int .i64 a0_0, .int .i64 a0_1, .int .i64 a0_2, .int .i64 a0_3, .bool false, .int .i64 a0_5, .int .i64 a0_6] 30 (0, 0)) (by (with_reducible repeat (first | refine blk_drewN ?_ _ | refine blk_drew ?_ | refine blk_alloc ?_ _)); exact BK487.out) hb); have n1_ := Aside0.mk (below_step (by repeat (first | (with_reducible first | exact HB.out | apply below_alloc | apply pw_below_drewN | apply below_drew1 | refine below_set ?_ GE487.out) | exact HB.out)) hb); have n2_ := Aside0.mk (hbox); have n3_ := Aside0.mk ((by rw [hg]; exact (below_size (by repeat (first | (with_reducible first | exact HB.out | apply below_alloc | apply pw_below_drewN | apply below_drew1 | refine below_set ?_ GE487.out) | exact HB.out))) : w.heap.size ≤ gb488)); have n4_ := Aside0.mk ((by rw [hg]; exact (below_size (by repeat (first | (with_reducible first | exact HB.out | apply below_alloc | apply pw_below_drewN | apply below_drew1 | refine below_set ?_ GE487.out) | exact HB.out))) : w.heap.size ≤ gb488)); have n5_ := Aside0.mk ((by rw [hg]; exact Nat.ne_of_lt (blk_lt (g := gb487) (o := .cells #[.int .i64 a0_0, .int .i64 a0_1, .int .i64 a0_2, .int .i64 a0_3, .bool false, .int .i64 a0_5, .int .i64 a0_6] 30 (0, 0)) (by (with_reducible repeat (first | refine blk_drewN ?_ _ | refine blk_drew ?_ | refine blk_alloc ?_ _)); exact BK487.out)) : gb487 ≠ gb488)); have n6_ := Aside0.mk ((by rw [hg]; exact Nat.ne_of_gt (blk_lt (g := gb487) (o := .cells #[.int .i64 a0_0, .int .i64 a0_1, .int .i64 a0_2, .int .i64 a0_3, .bool false, .int .i64 a0_5, .int .i64 a0_6] 30 (0, 0)) (by (with_reducible repeat (first | refine blk_drewN ?_ _ | refine blk_drew ?_ | refine blk_alloc ?_ _)); exact BK487.out)) : gb488 ≠ gb487)); clear BK487; clear HB; have BK487 := n0_; have HB := n1_; have BK488 := n2_; have GW488 := n3_; have GE488 := n4_; have NB487_488 := n5_; have NB488_487 := n6_; clear n0_ n1_ n2_ n3_ n4_ n5_ n6_; clear hb hbox hg; have hnb43 := NB487_488.out; have hnc43 := NB488_487.out; have hcz44_0 : w42.cell? ⟨gb487, 0, none⟩ = some (.int .i64 a0_0) := (blk_cell BK487.out 0).trans rfl; have hcz44_1 : w42.cell? ⟨gb487, 1, none⟩ = some (.int .i64 a0_1) := (blk_cell BK487.out 1).trans rfl; have hcz44_2 : w42.cell? ⟨gb487, 2, none⟩ = some (.int .i64 a0_2) := (blk_cell BK487.out 2).trans rfl; have hcz44_3 : w42.cell? ⟨gb487, 3, none⟩ = some (.int .i64 a0_3) := (blk_cell BK487.out 3).trans rfl; have hcz44_4 : w42.cell? ⟨gb487, 4, none⟩ = some (.bool false) := (blk_cell BK487.out 4).trans rfl; have hcz44_5 : w42.cell? ⟨gb487, 5, none⟩ = some (.int .i64 a0_5) := (blk_cell BK487.out 5).trans rfl; have hcz44_6 : w42.cell? ⟨gb487, 6, none⟩ = some (.int .i64 a0_6) := (blk_cell BK487.out 6).trans rfl; have hfz44_0 := blk_frozen BK487.out 0; have hfz44_1 := blk_frozen BK487.out 1; have hfz44_2 := blk_frozen BK487.out 2; have hfz44_3 := blk_frozen BK487.out 3; have hfz44_4 := blk_frozen BK487.out 4; have hfz44_5 := blk_frozen BK487.out 5; have hfz44_6 := blk_frozen BK487.out 6; have hcz45_0 : w42.cell? ⟨gb488, 0, none⟩ = some (.int .i64 a1_0) := (blk_cell BK488.out 0).trans rfl; have hcz45_1 : w42.cell? ⟨gb488, 1, none⟩ = some (.int .i64 a1_1) := (blk_cell BK488.out 1).trans rfl; have hcz45_2 : w42.cell? ⟨gb488, 2, none⟩ = some (.int .i64 a1_2) := (blk_cell BK488.out 2).trans rfl; have hcz45_3 : w42.cell? ⟨gb488, 3, none⟩ = some (.int .i64 a1_3) := (blk_cell BK488.out 3).trans rfl; have hcz45_4 : w42.cell? ⟨gb488, 4, none⟩ = some (.bool false) := (blk_cell BK488.out 4).trans rfl; have hcz45_5 : w42.cell? ⟨gb488, 5, none⟩ = some (.int .i64 a1_5) := (blk_cell BK488.out 5).trans rfl; have hcz45_6 : w42.cell? ⟨gb488, 6, none⟩ = some (.int .i64 a1_6) := (blk_cell BK488.out 6).trans rfl; have hfz45_0 := blk_frozen BK488.out 0; have hfz45_1 := blk_frozen BK488.out 1; have hfz45_2 := blk_frozen BK488.out 2; have hfz45_3 := blk_frozen BK488.out 3; have hfz45_4 := blk_frozen BK488.out 4; have hfz45_5 := blk_frozen BK488.out 5; have hfz45_6 := blk_frozen BK488.out 6))
      go_ret
      exact ⟨by first | rfl | (simp [errW_none, errW_some] <;> rfl) | (simp [*, errW_none, errW_some] <;> rfl), by repeat (first | (with_reducible first | exact HB.out | apply below_alloc | apply pw_below_drewN | apply below_drew1 | refine below_set ?_ GE487.out | refine below_set ?_ GE488.out) | exact HB.out)⟩

end Go.Proofs.Ytpbboooeahmgpaa.P


/- What the printed functions over loans come to. -/
namespace Go.Proofs.Ytpbboooeahmgpaa.P
open Go.RowKit Go.Proofs.YtpbboooeahmgpaaW.PrintWords Go.Proofs.YtpbboooeahmgpaaW.PrintMore
set_option linter.unusedVariables false
set_option linter.unusedSimpArgs false
def loanOf (x : SlawsLoan) : SimplLoan := ⟨⟨x.f0.f0, x.f0.f1, x.f0.f2, x.f0.f3⟩, x.f1, x.f2, x.f3⟩
theorem szLoanS_f (l : List SlawsLoan) (a : Int) (h0 : 0 ≤ a) (h1 : a ≤ 1048576) (hl : l.length ≤ 9223372036854775807) :
    laws_szLoanS.f l a = some (if (l.length : Int) ≤ a then a - l.length else -1) := by
  unfold laws_szLoanS.f
  rw [wrap_ok (by omega) (by omega)]
  by_cases h : (l.length : Int) ≤ a
  · rw [if_neg (by omega), if_pos h]
  · rw [if_pos (by omega), if_neg h]
theorem rdLL_mid (pre : List SlawsLoan) (x : SlawsLoan) (suf : List SlawsLoan) : rd_TlawsLoan (pre ++ x :: suf) (pre.length : Int) = x := by
  unfold rd_TlawsLoan
  simp
theorem rdL_mid (pre : List SimplLoan) (x : SimplLoan) (suf : List SimplLoan) : rd_TimplLoan (pre ++ x :: suf) (pre.length : Int) = x := by
  unfold rd_TimplLoan
  simp
theorem toLoan_f (a b c d : Int) (o : Bool) (e f : Int) : laws_toLoan.f a b c d o e f = some (a, b, c, d, o, e, f) := rfl
theorem toLoanS_ev (suf : List SlawsLoan) : ∀ (pre : List SlawsLoan) (zs : List SimplLoan), zs.length = suf.length → pre.length + suf.length ≤ 4611686018427387904 →
    Ev (fun k => laws_toLoanS.l0 k (pre ++ suf) (pre.map loanOf ++ zs) (pre.length : Int)) ((pre ++ suf).map loanOf) := by
  induction suf with
  | nil =>
    intro pre zs hz h2
    obtain rfl : zs = [] := List.eq_nil_of_length_eq_zero hz
    refine Ev.step (fun k => ?_) (Ev.now _)
    simp [laws_toLoanS.l0]
  | cons x suf ih =>
    intro pre zs hz h2
    obtain ⟨z, zs, rfl⟩ : ∃ z zs', zs = z :: zs' := by
      cases zs with
      | nil => simp at hz
      | cons z zs => exact ⟨z, zs, rfl⟩
    simp only [List.length_cons] at h2 hz
    refine Ev.step (f := fun k => laws_toLoanS.l0 k ((pre ++ [x]) ++ suf) ((pre ++ [x]).map loanOf ++ zs) ((pre ++ [x]).length : Int)) (fun k => ?_) ?_
    · simp only [laws_toLoanS.l0, toLoan_f, Option.bind_some]
      rw [if_pos (by simp; omega), if_pos (by omega), if_pos (by simp; omega), rdLL_mid, wrap_len (by omega)]
      have := set_mid (pre.map loanOf) z (loanOf x) zs
      rw [List.length_map] at this
      rw [Int.toNat_natCast, show (⟨⟨x.f0.f0, x.f0.f1, x.f0.f2, x.f0.f3⟩, x.f1, x.f2, x.f3⟩ : SimplLoan) = loanOf x from rfl, this]
      simp
    · have := ih (pre ++ [x]) zs (by omega) (by simp; omega)
      simpa using this
theorem toLoanS_f (l : List SlawsLoan) (h : l.length ≤ 1048576) : Ev (fun k => laws_toLoanS.f k l) (l.map loanOf) := by
  refine Ev.congr (fun k => ?_) (toLoanS_ev l [] (List.replicate l.length zimplLoan) (by simp) (by simp; omega))
  unfold laws_toLoanS.f
  rw [if_pos (by omega), if_pos (by simp; omega)]
  simp
theorem eqWindow_s (a b c d : Int) : laws_eqWindow.f a b c d a b c d = some true := if_pos ⟨rfl, rfl, rfl, rfl⟩
theorem eqLoan_f (a b c d : Int) (o : Bool) (e f : Int) : laws_eqLoan.f a b c d o e f a b c d o e f = some true := by
  unfold laws_eqLoan.f
  rw [eqWindow_s]
  simp
theorem eqLoanS_ev (suf : List SimplLoan) : ∀ (pre : List SimplLoan), pre.length + suf.length ≤ 9223372036854775807 → Ev (fun k => laws_eqLoanS.l0 k (pre ++ suf) (pre ++ suf) (pre.length : Int)) true := by
  induction suf with
  | nil =>
    intro pre h2
    refine Ev.step (fun k => ?_) (Ev.now _)
    simp [laws_eqLoanS.l0]
  | cons x suf ih =>
    intro pre h2
    simp only [List.length_cons] at h2
    refine Ev.step (f := fun k => laws_eqLoanS.l0 k ((pre ++ [x]) ++ suf) ((pre ++ [x]) ++ suf) ((pre ++ [x]).length : Int)) (fun k => ?_) (ih (pre ++ [x]) (by simp; omega))
    simp only [laws_eqLoanS.l0]
    rw [if_pos (by simp; omega), if_pos (by omega), if_pos (by simp; omega), eqLoan_f, Option.bind_some, if_pos rfl, wrap_len (by omega)]
    simp
theorem eqLoanS_f (l : List SimplLoan) (h : l.length ≤ 9223372036854775807) : Ev (fun k => laws_eqLoanS.f k l l) true := by
  refine Ev.congr (fun k => ?_) (eqLoanS_ev l [] (by simpa using h))
  unfold laws_eqLoanS.f
  rw [if_pos rfl]
  rfl
/-- The numbers of a loan's window are those of an int. -/
def wfL (x : SimplLoan) : Prop := -9223372036854775808 ≤ x.f0.f1 ∧ x.f0.f1 ≤ 9223372036854775807
theorem l10Loan_f (m : List (List Int)) (x : SimplLoan) (hm : okM m) (hs : wfL x) : Ev (fun k => spec_l10Loan.f k m x.f0.f0 x.f0.f1 x.f0.f2 x.f0.f3 x.f1 x.f2 x.f3) (memB m && loanB m x) := by
  refine Ev.bind (l2Window_f m x.f0.f0 x.f0.f1 x.f0.f2 x.f0.f3 hm.len hm.rows hs) ?_
  unfold loanB winW
  rw [l1In_f, l1In_f]
  cases memB m
  · exact Ev.now _
  · cases winB m x.f0.f0 x.f0.f1 x.f0.f2 x.f0.f3
    · exact Ev.now _
    · simp only [Bool.and_self, Bool.true_and, if_true, Option.bind_some]
      cases decide (0 ≤ x.f3 ∧ x.f3 ≤ 60)
      · exact Ev.now _
      · exact Ev.now _
def loansB (m : List (List Int)) (l : List SimplLoan) : Bool := memB m && l.all (loanB m) && decide (l.length ≤ 8)
theorem l10Loans_ev (m : List (List Int)) (hm : okM m) (suf : List SimplLoan) : ∀ (pre : List SimplLoan), pre.length ≤ 9 → pre.length + suf.length ≤ 9223372036854775807 → (∀ x ∈ suf, wfL x) →
    Ev (fun k => spec_l10Loans.l0 k (pre ++ suf) (pre.length : Int) m) (memB m && suf.all (loanB m) && decide ((pre ++ suf).length ≤ 8)) := by
  have fin : ∀ (l : List SimplLoan), Ev (fun k => (spec_l2Memory.f k m).bind fun t => if t = true then some (decide ((l.length : Int) ≤ 8)) else some false) (memB m && decide (l.length ≤ 8)) := by
    intro l
    refine Ev.bind (l2Memory_f m hm.len) ?_
    cases hb : memB m
    · exact Ev.now _
    · simp only [if_true, Bool.true_and]
      have : decide ((l.length : Int) ≤ 8) = decide (l.length ≤ 8) := by rw [decide_eq_decide]; omega
      rw [this]
      exact Ev.now _
  induction suf with
  | nil =>
    intro pre h1 h2 h3
    refine Ev.step (f := fun k => spec_l10Loans.j1 k (pre ++ []) (pre.length : Int) false m) (fun k => ?_) (Ev.step (f := fun k => (spec_l2Memory.f k m).bind fun t => if t = true then some (decide (((pre ++ [] : List SimplLoan).length : Int) ≤ 8)) else some false) (fun k => ?_) ?_)
    rotate_left
    · simp only [spec_l10Loans.j1, Bool.false_eq_true, if_false]
    · have := fin (pre ++ [])
      simpa using this
    · simp only [spec_l10Loans.l0]
      rw [if_neg (by simp)]
  | cons x suf ih =>
    intro pre h1 h2 h3
    simp only [List.length_cons] at h2
    by_cases h13 : pre.length ≤ 8
    · refine Ev.step (f := fun k => spec_l10Loans.j1 k (pre ++ x :: suf) (pre.length : Int) true m) (fun k => ?_) ?_
      · simp only [spec_l10Loans.l0]
        rw [if_pos (by simp; omega), decide_eq_true (by omega)]
      · refine Ev.step (f := fun k => (spec_l10Loan.f k m x.f0.f0 x.f0.f1 x.f0.f2 x.f0.f3 x.f1 x.f2 x.f3).bind fun t => if t = true then spec_l10Loans.l0 k ((pre ++ [x]) ++ suf) ((pre ++ [x]).length : Int) m else some false) (fun k => ?_) ?_
        · simp only [spec_l10Loans.j1]
          rw [if_pos trivial, if_pos (by omega), if_pos (by simp; omega), rdL_mid, wrap_len (by omega)]
          simp
        · refine Ev.bind (l10Loan_f m x hm (h3 x (by simp))) ?_
          cases hb : memB m
          · simp only [Bool.false_and, Bool.false_eq_true, if_false]
            exact Ev.now _
          · cases hw : loanB m x
            · simp only [Bool.and_false, Bool.false_eq_true, if_false]
              have : (x :: suf).all (loanB m) = false := by simp [hw]
              rw [this]
              exact Ev.now _
            · simp only [Bool.and_self, if_true]
              have := ih (pre ++ [x]) (by simp; omega) (by simp; omega) (fun y hy => h3 y (by simp [hy]))
              have e : (x :: suf).all (loanB m) = suf.all (loanB m) := by simp [hw]
              rw [e]
              simpa [hb] using this
    · refine Ev.step (f := fun k => spec_l10Loans.j1 k (pre ++ x :: suf) (pre.length : Int) false m) (fun k => ?_) (Ev.step (f := fun k => (spec_l2Memory.f k m).bind fun t => if t = true then some (decide (((pre ++ x :: suf : List SimplLoan).length : Int) ≤ 8)) else some false) (fun k => ?_) ?_)
      rotate_left
      · simp only [spec_l10Loans.j1, Bool.false_eq_true, if_false]
      · have := fin (pre ++ x :: suf)
        have hl : decide ((pre ++ x :: suf).length ≤ 8) = false := by simp; omega
        rw [hl] at this ⊢
        simpa using this
      · simp only [spec_l10Loans.l0]
        rw [if_pos (by simp; omega), decide_eq_false (by omega)]
theorem l10Loans_f (m : List (List Int)) (l : List SimplLoan) (hm : okM m) (hl : l.length ≤ 9223372036854775807) (h3 : ∀ x ∈ l, wfL x) : Ev (fun k => spec_l10Loans.f k m l) (loansB m l) := by
  have := l10Loans_ev m hm l [] (by simp) (by simpa using hl) h3
  simpa [spec_l10Loans.f, loansB] using this
theorem areLoans_f (m : List (List Int)) (l : List SimplLoan) : impl_areLoans.f m l = some (loansB m l) := by
  unfold impl_areLoans.f impl_areAnyLoans.f loansB
  rw [Option.bind_some]
  cases memB m && l.all (loanB m)
  · rfl
  · rw [if_pos rfl, Bool.true_and]
    congr 1
    rw [decide_eq_decide]
    omega
/-! ### Conflicts -/
/-- A loan's numbers are small. -/
def rangeL (x : SimplLoan) : Prop := (0 ≤ x.f0.f1 ∧ x.f0.f1 ≤ 64) ∧ (0 ≤ x.f0.f2 ∧ x.f0.f2 ≤ 64) ∧ (0 ≤ x.f2 ∧ x.f2 ≤ 1000000) ∧ (0 ≤ x.f3 ∧ x.f3 ≤ 1000000)
theorem rangeL_of {m : List (List Int)} {x : SimplLoan} (hm : memB m = true) (h : loanB m x = true) : rangeL x := by
  unfold loanB winW winB at h
  simp only [Bool.and_eq_true, decide_eq_true_eq] at h
  obtain ⟨⟨h0, h1, h2, h3, h4, h5, h6, h7⟩, ⟨h8, h9⟩, h10, h11⟩ := h
  have hr : (rd_Lsu8 m x.f0.f0).length ≤ 64 := by
    unfold rd_Lsu8
    rw [List.getD_eq_getElem?_getD, List.getElem?_eq_getElem (show x.f0.f0.toNat < m.length by omega)]
    exact (memB_rows hm _ (List.getElem_mem _)).2
  unfold rangeL
  omega
def shareB (a b : SimplWindow) : Bool := decide (a.f0 = b.f0 ∧ mx a.f1 b.f1 < mn (a.f1 + a.f2) (b.f1 + b.f2))
def confB (a b : SimplLoan) : Bool := (a.f1 || b.f1) && (shareB a.f0 b.f0 && decide (mx a.f2 b.f2 < mn a.f3 b.f3))
theorem areShared_f (a b : SimplWindow) (ha : 0 ≤ a.f1 ∧ a.f1 ≤ 64) (ha2 : 0 ≤ a.f2 ∧ a.f2 ≤ 64) (hb : 0 ≤ b.f1 ∧ b.f1 ≤ 64) (hb2 : 0 ≤ b.f2 ∧ b.f2 ≤ 64) : impl_areShared.f a.f0 a.f1 a.f2 a.f3 b.f0 b.f1 b.f2 b.f3 = some (shareB a b) := by
  unfold impl_areShared.f impl_common.f shareB
  rw [wrap_ok (by omega) (by omega), wrap_ok (x := b.f1 + b.f2) (by omega) (by omega)]
  by_cases h : a.f0 = b.f0
  · rw [if_pos h]
    by_cases h2 : mx a.f1 b.f1 ≥ mn (a.f1 + a.f2) (b.f1 + b.f2)
    · rw [if_pos h2, Option.bind_some]
      congr 1
      rw [decide_eq_decide]
      omega
    · rw [if_neg h2, Option.bind_some]
      congr 1
      rw [decide_eq_decide]
      have h3 : mn (a.f1 + a.f2) (b.f1 + b.f2) ≤ 128 := by unfold mn; split <;> omega
      have h4 : 0 ≤ mx a.f1 b.f1 := by unfold mx; split <;> omega
      simp only [wrap_ok (x := mn (a.f1 + a.f2) (b.f1 + b.f2) - mx a.f1 b.f1) (by omega) (by omega)]
      omega
  · rw [if_neg h, Option.bind_some]
    congr 1
    rw [decide_eq_decide]
    omega
theorem inConflict_f (a b : SimplLoan) (ha : rangeL a) (hb : rangeL b) : impl_inConflict.f a.f0.f0 a.f0.f1 a.f0.f2 a.f0.f3 a.f1 a.f2 a.f3 b.f0.f0 b.f0.f1 b.f0.f2 b.f0.f3 b.f1 b.f2 b.f3 = some (confB a b) := by
  unfold impl_inConflict.f confB
  rw [areShared_f a.f0 b.f0 ha.1 ha.2.1 hb.1 hb.2.1, Option.bind_some]
  cases a.f1 <;> cases b.f1 <;> cases shareB a.f0 b.f0 <;> simp
theorem l1Most_f (a b : Int) : spec_l1Most.f a b = some (mx a b) := by
  unfold spec_l1Most.f mx
  by_cases h : a > b
  · rw [if_pos h, if_neg (by omega)]
  · rw [if_neg h]
    by_cases h2 : a < b
    · rw [if_pos h2]
    · rw [if_neg h2, show a = b by omega]
theorem l1Least_f (a b : Int) : spec_l1Least.f a b = some (mn a b) := by
  unfold spec_l1Least.f mn
  by_cases h : a < b
  · rw [if_pos h, if_neg (by omega)]
  · rw [if_neg h]
    by_cases h2 : b < a
    · rw [if_pos h2]
    · rw [if_neg h2, show a = b by omega]
theorem l2Overlap_f (a b : SimplWindow) (ha : 0 ≤ a.f1 ∧ a.f1 ≤ 64) (ha2 : 0 ≤ a.f2 ∧ a.f2 ≤ 64) (hb : 0 ≤ b.f1 ∧ b.f1 ≤ 64) (hb2 : 0 ≤ b.f2 ∧ b.f2 ≤ 64) : ∃ n, spec_l2Overlap.f a.f0 a.f1 a.f2 a.f3 b.f0 b.f1 b.f2 b.f3 = some n ∧ (n = 0 ↔ shareB a b = false) := by
  unfold spec_l2Overlap.f shareB
  rw [wrap_ok (by omega) (by omega), wrap_ok (x := b.f1 + b.f2) (by omega) (by omega)]
  by_cases h : a.f0 = b.f0
  · rw [if_pos h]
    simp only [l1Least_f, l1Most_f, Option.bind_some]
    have h3 : mn (a.f1 + a.f2) (b.f1 + b.f2) ≤ 128 ∧ 0 ≤ mn (a.f1 + a.f2) (b.f1 + b.f2) := by unfold mn; split <;> omega
    have h4 : 0 ≤ mx a.f1 b.f1 ∧ mx a.f1 b.f1 ≤ 64 := by unfold mx; split <;> omega
    rw [wrap_ok (by omega) (by omega)]
    refine ⟨_, rfl, ?_⟩
    rw [decide_eq_false_iff_not]
    generalize mn (a.f1 + a.f2) (b.f1 + b.f2) = x at *
    generalize mx a.f1 b.f1 = y at *
    unfold mx
    split <;> omega
  · rw [if_neg h]
    exact ⟨_, rfl, by simp [h]⟩
theorem l10Clash_f (a b : SimplLoan) (ha : rangeL a) (hb : rangeL b) : spec_l10Clash.f a.f0.f0 a.f0.f1 a.f0.f2 a.f0.f3 a.f1 a.f2 a.f3 b.f0.f0 b.f0.f1 b.f0.f2 b.f0.f3 b.f1 b.f2 b.f3 = some (if confB a b = true then mx a.f2 b.f2 else -1) := by
  unfold spec_l10Clash.f confB
  obtain ⟨n, hn, hs⟩ := l2Overlap_f a.f0 b.f0 ha.1 ha.2.1 hb.1 hb.2.1
  rw [hn, l1Most_f, l1Least_f]
  simp only [Option.bind_some]
  have e : (if n = 0 then some (-1 : Int) else if mx a.f2 b.f2 ≥ mn a.f3 b.f3 then some (-1) else some (mx a.f2 b.f2)) = some (if (shareB a.f0 b.f0 && decide (mx a.f2 b.f2 < mn a.f3 b.f3)) = true then mx a.f2 b.f2 else -1) := by
    cases hsh : shareB a.f0 b.f0
    · rw [if_pos (hs.2 hsh)]
      simp
    · rw [if_neg (fun h => by rw [hs.1 h] at hsh; cases hsh)]
      by_cases h : mx a.f2 b.f2 ≥ mn a.f3 b.f3
      · rw [if_pos h, decide_eq_false (by omega)]
        simp
      · rw [if_neg h, decide_eq_true (by omega)]
        simp
  cases a.f1
  · cases b.f1
    · simp
    · simpa using e
  · simpa using e
theorem mx_nonneg {a b : SimplLoan} (ha : rangeL a) : 0 ≤ mx a.f2 b.f2 := by have := ha.2.2.1; unfold mx; split <;> omega
theorem clash_ge {a b : SimplLoan} (ha : rangeL a) : ((if confB a b = true then mx a.f2 b.f2 else -1) ≥ 0) ↔ confB a b = true := by
  have := mx_nonneg (b := b) ha
  split
  · rename_i h; simp [h]; omega
  · rename_i h; simp [h]
/-- A loan is in conflict with none of some others. -/
def aloneB (ls : List SimplLoan) (x : SimplLoan) : Bool := ls.all (fun y => !confB y x)
theorem alone_ev (x : SimplLoan) (hx : rangeL x) (suf : List SimplLoan) : ∀ (pre : List SimplLoan), pre.length + suf.length ≤ 1000000 → (∀ y ∈ suf, rangeL y) →
    Ev (fun k => spec_l10Alone.l0 k (pre ++ suf) (pre.length : Int) x.f0.f0 x.f0.f1 x.f0.f2 x.f0.f3 x.f1 x.f2 x.f3) (aloneB suf x) := by
  induction suf with
  | nil =>
    intro pre h1 h2
    refine Ev.step (fun k => ?_) (Ev.now _)
    simp only [spec_l10Alone.l0]
    rw [if_neg (by simp)]
    rfl
  | cons y suf ih =>
    intro pre h1 h2
    simp only [List.length_cons] at h1
    cases hc : confB y x
    · refine Ev.step (f := fun k => spec_l10Alone.l0 k ((pre ++ [y]) ++ suf) ((pre ++ [y]).length : Int) x.f0.f0 x.f0.f1 x.f0.f2 x.f0.f3 x.f1 x.f2 x.f3) (fun k => ?_) ?_
      · simp only [spec_l10Alone.l0]
        rw [if_pos (by simp; omega), if_pos (by omega), rdL_mid, l10Clash_f y x (h2 y (by simp)) hx, Option.bind_some, if_neg (by rw [clash_ge (h2 y (by simp)), hc]; decide), wrap_len (by omega)]
        simp
      · have := ih (pre ++ [y]) (by simp; omega) (fun z hz => h2 z (by simp [hz]))
        have e : aloneB (y :: suf) x = aloneB suf x := by simp [aloneB, hc]
        rw [e]
        exact this
    · have e : aloneB (y :: suf) x = false := by simp [aloneB, hc]
      rw [e]
      refine Ev.step (fun k => ?_) (Ev.now _)
      simp only [spec_l10Alone.l0]
      rw [if_pos (by simp; omega), if_pos (by omega), rdL_mid, l10Clash_f y x (h2 y (by simp)) hx, Option.bind_some, if_pos (by rw [clash_ge (h2 y (by simp)), hc])]
theorem alone_f (ls : List SimplLoan) (x : SimplLoan) (hx : rangeL x) (hn : ls.length ≤ 1000000) (hr : ∀ y ∈ ls, rangeL y) : Ev (fun k => spec_l10Alone.f k ls x.f0.f0 x.f0.f1 x.f0.f2 x.f0.f3 x.f1 x.f2 x.f3) (aloneB ls x) := by
  have := alone_ev x hx ls [] (by simpa using hn) hr
  simpa [spec_l10Alone.f] using this
end Go.Proofs.Ytpbboooeahmgpaa.P


-- written by wip/gen_fn.py
namespace Go.Proofs.Ytpbboooeahmgpaa.P
open Go.RowKit Go.Proofs.YtpbboooeahmgpaaW.PrintWords Go.Proofs.YtpbboooeahmgpaaW.PrintLast Go.Proofs.YtpbboooeahmgpaaW.PrintMore Go.Proofs.YtpbboooeahmgpaaW.Mine
open List (setIfInBounds_toArray set_cons_zero set_cons_succ)
attribute [local go_sem] max2_int min2_int max_two min_two max_three min_three max_four min_four
set_option linter.unusedVariables false
set_option linter.unusedSimpArgs false
set_option maxHeartbeats 8000000 in
set_option maxRecDepth 100000 in
theorem impl_DelayOf_1_w0 (a0_0 : Int) (a0_1 : Int) (a0_2 : Int) (a0_3 : Int) (a0_4 : Bool) (a0_5 : Int) (a0_6 : Int) (y0_0 : Int) (y0_1 : Int) (y0_2 : Int) (y0_3 : Int) (y0_4 : Bool) (y0_5 : Int) (y0_6 : Int) (bfr0 : Nat) (w : World) (hfr0 : ∀ j u, (#[.int .i64 y0_0, .int .i64 y0_1, .int .i64 y0_2, .int .i64 y0_3, .bool y0_4, .int .i64 y0_5, .int .i64 y0_6] : Array Value)[j]? = some u → w.cell? ⟨bfr0, j, none⟩ = some u) (H1 : impl_inConflict.f y0_0 y0_1 y0_2 y0_3 y0_4 y0_5 y0_6 a0_0 a0_1 a0_2 a0_3 a0_4 a0_5 a0_6 = some false) :
    Calls Try.prog 88 #[.agg #[.int .i64 a0_0, .int .i64 a0_1, .int .i64 a0_2, .int .i64 a0_3, .bool a0_4, .int .i64 a0_5, .int .i64 a0_6], .pointer (some ⟨bfr0, 0, none⟩)] w fun e w' => e = .returned (.bool false) ∧ Below w.heap.size w w' := by
  have Hbfr0 := Aside0.mk hfr0; clear hfr0
  have H1_ := Aside0.mk H1; clear H1; have H1 := H1_; clear H1_
  have HS0 : Aside0 (Stk w [] w) := ⟨Stk.nil w⟩
  go_enter Try.func88, Try.ntmps88
  refine reg (aF := ?_) (nw := ?_) [evB 0 2 [] 30 (fun s => #[.int .i64 a0_0, .int .i64 a0_1, .int .i64 a0_2, .int .i64 a0_3, .bool a0_4, .int .i64 a0_5, .int .i64 a0_6]) 9999 [] (fun s => #[.int .i64 a0_0, .int .i64 a0_1, .int .i64 a0_2, .int .i64 a0_3, .bool a0_4, .int .i64 a0_5, .int .i64 a0_6]), evP 1 3 [] (fun s => .bool false)] [] [] false 2 rfl rfl (by kernel_rfl) rfl (mf0) ?aF ?nw HS0.out ?hs ?_
  rotate_left 2
  case aF => intro s; simp only [putE, EvT.val, Act.put, setIfInBounds_toArray, set_cons_zero, set_cons_succ]; rfl
  case nw => intro s; simp only [thA, bsA, List.nil_append, List.cons_append, List.append_nil, if_true, if_false, Nat.reduceLT, set_cons_zero, set_cons_succ]; rfl
  case hs => exact ⟨bv rfl (fun s w => by go_simp; try rfl), pu rfl, trivial⟩
  intro s1 w1 h; have HS1 := Aside0.mk h; clear h HS0
  refine tl0 ?_
  refine reg0 (aF := ?_) [evL 0 4 [] (fun s => .agg #[.int .i64 y0_0, .int .i64 y0_1, .int .i64 y0_2, .int .i64 y0_3, .bool y0_4, .int .i64 y0_5, .int .i64 y0_6]), evL 1 5 [] (fun s => .agg #[.int .i64 a0_0, .int .i64 a0_1, .int .i64 a0_2, .int .i64 a0_3, .bool a0_4, .int .i64 a0_5, .int .i64 a0_6]), evC 2 (some 6) [] (fun s x => .bool false) (fun s x => [])] [3] false 4 rfl rfl (by kernel_rfl) rfl (fun _ => rfl) ?aF HS1.out ?hs ?_
  rotate_left 1
  case aF => intro s; simp only [putE, EvT.val, Act.put, setIfInBounds_toArray, set_cons_zero, set_cons_succ]; rfl
  case hs => exact ⟨lo rfl Hbfr0.out (fun s w h => by have h0 := h 0 _ rfl; have h1 := h 1 _ rfl; have h2 := h 2 _ rfl; have h3 := h 3 _ rfl; have h4 := h 4 _ rfl; have h5 := h 5 _ rfl; have h6 := h 6 _ rfl; clear h; go_simp; try rfl), ld rfl 0 (fun s => rfl) (fun s w h => by have h0 := h 0 _ rfl; have h1 := h 1 _ rfl; have h2 := h 2 _ rfl; have h3 := h 3 _ rfl; have h4 := h 4 _ rfl; have h5 := h 5 _ rfl; have h6 := h 6 _ rfl; clear h; go_simp; try rfl), cl rfl (fun s => #[.agg #[.int .i64 y0_0, .int .i64 y0_1, .int .i64 y0_2, .int .i64 y0_3, .bool y0_4, .int .i64 y0_5, .int .i64 y0_6], .agg #[.int .i64 a0_0, .int .i64 a0_1, .int .i64 a0_2, .int .i64 a0_3, .bool a0_4, .int .i64 a0_5, .int .i64 a0_6]]) Try.func78 (fun s w1 h => (impl_inConflict.calls _ _ _ _ _ _ _ _ _ _ _ _ _ _ _ _ H1.out).mono (by rintro e w2 ⟨rfl, hb⟩; exact fin0 hb)), trivial⟩
  intro s2 w2 h; have HS2 := Aside0.mk h; clear h HS1
  refine tlP (v := .bool false) 3 rfl ?_
  refine tl0 ?_
  refine wp_ret ?_
  go_ret
  exact ⟨by first | rfl | simp, HS2.out.hb⟩
set_option maxHeartbeats 8000000 in
set_option maxRecDepth 100000 in
theorem impl_DelayOf_1_w1 (a0_0 : Int) (a0_1 : Int) (a0_2 : Int) (a0_3 : Int) (a0_4 : Bool) (a0_5 : Int) (a0_6 : Int) (y0_0 : Int) (y0_1 : Int) (y0_2 : Int) (y0_3 : Int) (y0_4 : Bool) (y0_5 : Int) (y0_6 : Int) (bfr0 : Nat) (w : World) (hfr0 : ∀ j u, (#[.int .i64 y0_0, .int .i64 y0_1, .int .i64 y0_2, .int .i64 y0_3, .bool y0_4, .int .i64 y0_5, .int .i64 y0_6] : Array Value)[j]? = some u → w.cell? ⟨bfr0, j, none⟩ = some u) (H1 : impl_inConflict.f y0_0 y0_1 y0_2 y0_3 y0_4 y0_5 y0_6 a0_0 a0_1 a0_2 a0_3 a0_4 a0_5 a0_6 = some true) :
    Calls Try.prog 88 #[.agg #[.int .i64 a0_0, .int .i64 a0_1, .int .i64 a0_2, .int .i64 a0_3, .bool a0_4, .int .i64 a0_5, .int .i64 a0_6], .pointer (some ⟨bfr0, 0, none⟩)] w fun e w' => e = .returned (.bool true) ∧ Below w.heap.size w w' := by
  have Hbfr0 := Aside0.mk hfr0; clear hfr0
  have H1_ := Aside0.mk H1; clear H1; have H1 := H1_; clear H1_
  have HS0 : Aside0 (Stk w [] w) := ⟨Stk.nil w⟩
  go_enter Try.func88, Try.ntmps88
  refine reg (aF := ?_) (nw := ?_) [evB 0 2 [] 30 (fun s => #[.int .i64 a0_0, .int .i64 a0_1, .int .i64 a0_2, .int .i64 a0_3, .bool a0_4, .int .i64 a0_5, .int .i64 a0_6]) 9999 [] (fun s => #[.int .i64 a0_0, .int .i64 a0_1, .int .i64 a0_2, .int .i64 a0_3, .bool a0_4, .int .i64 a0_5, .int .i64 a0_6]), evP 1 3 [] (fun s => .bool false)] [] [] false 2 rfl rfl (by kernel_rfl) rfl (mf0) ?aF ?nw HS0.out ?hs ?_
  rotate_left 2
  case aF => intro s; simp only [putE, EvT.val, Act.put, setIfInBounds_toArray, set_cons_zero, set_cons_succ]; rfl
  case nw => intro s; simp only [thA, bsA, List.nil_append, List.cons_append, List.append_nil, if_true, if_false, Nat.reduceLT, set_cons_zero, set_cons_succ]; rfl
  case hs => exact ⟨bv rfl (fun s w => by go_simp; try rfl), pu rfl, trivial⟩
  intro s1 w1 h; have HS1 := Aside0.mk h; clear h HS0
  refine tl0 ?_
  refine reg0 (aF := ?_) [evL 0 4 [] (fun s => .agg #[.int .i64 y0_0, .int .i64 y0_1, .int .i64 y0_2, .int .i64 y0_3, .bool y0_4, .int .i64 y0_5, .int .i64 y0_6]), evL 1 5 [] (fun s => .agg #[.int .i64 a0_0, .int .i64 a0_1, .int .i64 a0_2, .int .i64 a0_3, .bool a0_4, .int .i64 a0_5, .int .i64 a0_6]), evC 2 (some 6) [] (fun s x => .bool true) (fun s x => [])] [3] false 4 rfl rfl (by kernel_rfl) rfl (fun _ => rfl) ?aF HS1.out ?hs ?_
  rotate_left 1
  case aF => intro s; simp only [putE, EvT.val, Act.put, setIfInBounds_toArray, set_cons_zero, set_cons_succ]; rfl
  case hs => exact ⟨lo rfl Hbfr0.out (fun s w h => by have h0 := h 0 _ rfl; have h1 := h 1 _ rfl; have h2 := h 2 _ rfl; have h3 := h 3 _ rfl; have h4 := h 4 _ rfl; have h5 := h 5 _ rfl; have h6 := h 6 _ rfl; clear h; go_simp; try rfl), ld rfl 0 (fun s => rfl) (fun s w h => by have h0 := h 0 _ rfl; have h1 := h 1 _ rfl; have h2 := h 2 _ rfl; have h3 := h 3 _ rfl; have h4 := h 4 _ rfl; have h5 := h 5 _ rfl; have h6 := h 6 _ rfl; clear h; go_simp; try rfl), cl rfl (fun s => #[.agg #[.int .i64 y0_0, .int .i64 y0_1, .int .i64 y0_2, .int .i64 y0_3, .bool y0_4, .int .i64 y0_5, .int .i64 y0_6], .agg #[.int .i64 a0_0, .int .i64 a0_1, .int .i64 a0_2, .int .i64 a0_3, .bool a0_4, .int .i64 a0_5, .int .i64 a0_6]]) Try.func78 (fun s w1 h => (impl_inConflict.calls _ _ _ _ _ _ _ _ _ _ _ _ _ _ _ _ H1.out).mono (by rintro e w2 ⟨rfl, hb⟩; exact fin0 hb)), trivial⟩
  intro s2 w2 h; have HS2 := Aside0.mk h; clear h HS1
  refine tlP (v := .bool true) 3 rfl ?_
  refine tl0 ?_
  refine wp_ret ?_
  go_ret
  exact ⟨by first | rfl | simp, HS2.out.hb⟩
end Go.Proofs.Ytpbboooeahmgpaa.P


/- impl.DelayOf: its closure, slices.IndexFunc and slices.ContainsFunc over it, its loop. -/
namespace Go.Proofs.Ytpbboooeahmgpaa.P
open Go.RowKit Go.Proofs.YtpbboooeahmgpaaW.PrintWords Go.Proofs.YtpbboooeahmgpaaW.PrintLast Go.Proofs.YtpbboooeahmgpaaW.PrintMore
set_option linter.unusedVariables false
set_option linter.unusedSimpArgs false
def cellsL (x : SimplLoan) : Array Value := #[.int .i64 x.f0.f0, .int .i64 x.f0.f1, .int .i64 x.f0.f2, .int .i64 x.f0.f3, .bool x.f1, .int .i64 x.f2, .int .i64 x.f3]
/-- The closure: is a loan in conflict with the one that it captured? -/
theorem delay1_c (b : Nat) (x y : SimplLoan) (w : World) (hfree : ∀ j u, (cellsL x)[j]? = some u → w.cell? ⟨b, j, none⟩ = some u) (hx : rangeL x) (hy : rangeL y) :
    Calls Try.prog 88 #[.agg #[.int .i64 y.f0.f0, .int .i64 y.f0.f1, .int .i64 y.f0.f2, .int .i64 y.f0.f3, .bool y.f1, .int .i64 y.f2, .int .i64 y.f3], .pointer (some ⟨b, 0, none⟩)] w fun e w' => e = .returned (.bool (confB x y)) ∧ Below w.heap.size w w' := by
  have h := inConflict_f x y hx hy
  cases hc : confB x y
  · rw [hc] at h
    exact impl_DelayOf_1_w0 (hfr0 := hfree) (H1 := h)
  · rw [hc] at h
    exact impl_DelayOf_1_w1 (hfr0 := hfree) (H1 := h)
set_option maxHeartbeats 1600000 in
set_option maxRecDepth 100000 in
/-- slices.IndexFunc over the closure: a number from 0 on if some window is not one on the memory. -/
theorem delayI_c (b : Nat) (x0 : SimplLoan) (A1 : Option Addr) (c1 : Nat) (l : List SimplLoan) (w : World) (hfree : ∀ j u, (cellsL x0)[j]? = some u → w.cell? ⟨b, j, none⟩ = some u) (hx0 : rangeL x0) (hrl : ∀ y ∈ l, rangeL y) (hr1 : Kd.C kimplLoan w A1 l.length l) :
    Calls Try.prog 121 #[.slice A1 l.length c1, .func (.func 88) #[] #[.pointer (some ⟨b, 0, none⟩)]] w fun e w' => (∃ r : Int, e = .returned (.int .i64 r) ∧ decide (r ≥ 0) = !(l.all (fun y => !confB x0 y))) ∧ Below w.heap.size w w' := by
  have HX0 := Aside0.mk hx0
  have HRL := Aside0.mk hrl
  have HR1 := Aside0.mk hr1
  have HCELL := Aside0.mk hfree
  have HLEN := Aside0.mk hr1.2.1
  clear hx0 hrl hr1 hfree
  go_enter Try.func121, Try.ntmps121
  go_wp2
  go_loopw [8] (fun v8 wr => ∃ i : Nat, i ≤ l.length ∧ v8 = .int .i64 (i : Int) ∧ Aside0 ((l.take i).all (fun y => !confB x0 y) = true) ∧ Aside0 (Below w.heap.size w wr)) (fun v8 _ => l.length - (intOf v8).toNat)
  case atStart => exact ⟨0, Nat.zero_le _, rfl, ⟨by simp⟩, ⟨Below.refl _ _⟩⟩
  case round =>
    obtain ⟨i, hi, rfl, HALL, HB⟩ := hrel
    have hlen := HLEN.out
    by_cases hlt : i < l.length
    · have hlt' : (i : Int) < (l.length : Int) := by omega
      have hi0 : (0 : Int) ≤ (i : Int) := by omega
      obtain ⟨ad, e, hx0, hx1, hx2, hx3, hx4, hx5, hx6⟩ := at_TimplLoan HR1.out (i : Int) hi0 hlt'
      cases e
      obtain ⟨x, ex⟩ : ∃ x, l[i] = x := ⟨_, rfl⟩
      rw [rdL_eq l i hlt, ex] at hx0 hx1 hx2 hx3 hx4 hx5 hx6
      have hy0 := (HB.out.cell (World.block_lt_of_cell? w _ hx0)).trans hx0
      have hy1 := (HB.out.cell (World.block_lt_of_cell? w _ hx1)).trans hx1
      have hy2 := (HB.out.cell (World.block_lt_of_cell? w _ hx2)).trans hx2
      have hy3 := (HB.out.cell (World.block_lt_of_cell? w _ hx3)).trans hx3
      have hy4 := (HB.out.cell (World.block_lt_of_cell? w _ hx4)).trans hx4
      have hy5 := (HB.out.cell (World.block_lt_of_cell? w _ hx5)).trans hx5
      have hy6 := (HB.out.cell (World.block_lt_of_cell? w _ hx6)).trans hx6
      clear hx0 hx1 hx2 hx3 hx4 hx5 hx6
      have EX := Aside0.mk ex
      clear ex
      have HY := Aside0.mk (delay1_c b x0 x wr (fun j u hj => (HB.out.cell (World.block_lt_of_cell? w _ (HCELL.out j u hj))).trans (HCELL.out j u hj)) HX0.out (HRL.out x (by rw [← EX.out]; exact List.getElem_mem hlt)))
      rw [Int.toNat_natCast] at hy0 hy1 hy2 hy3 hy4 hy5 hy6
      cases hw : confB x0 x
      · have HW := Aside0.mk hw
        clear hw
        go_wp2_with (go_at_call 88; refine HY.out.mono ?_; rintro e w1 ⟨rfl, hB1⟩; rw [show confB x0 x = _ from HW.out]; have HB1 := Aside0.mk hB1; clear hB1)
        go_roundw
        case rel => exact ⟨i + 1, by omega, by go_num, ⟨by rw [List.take_succ_eq_append_getElem hlt, List.all_append, HALL.out, EX.out]; simp [HW.out]⟩, ⟨below_step HB.out HB1.out⟩⟩
        case measure => simp [intOf]; omega
      · have HW := Aside0.mk hw
        clear hw
        go_wp2_with (go_at_call 88; refine HY.out.mono ?_; rintro e w1 ⟨rfl, hB1⟩; rw [show confB x0 x = _ from HW.out]; have HB1 := Aside0.mk hB1; clear hB1)
        go_ret
        refine ⟨⟨_, rfl, ?_⟩, below_step HB.out HB1.out⟩
        have hall : l.all (fun y => !confB x0 y) = false := by
          rw [List.all_eq_false]
          exact ⟨x, by rw [← EX.out]; exact List.getElem_mem hlt, by simp [HW.out]⟩
        rw [hall]
        simp
    · obtain rfl : i = l.length := by omega
      have HALL2 := Aside0.mk (by have := HALL.out; rwa [List.take_length] at this : l.all (fun y => !confB x0 y) = true)
      clear HALL
      go_wp2
      go_ret
      refine ⟨⟨_, rfl, ?_⟩, HB.out⟩
      rw [HALL2.out]
      simp
set_option maxHeartbeats 1600000 in
set_option maxRecDepth 100000 in
theorem delayC_c (b : Nat) (x0 : SimplLoan) (A1 : Option Addr) (c1 : Nat) (l : List SimplLoan) (w : World) (hfree : ∀ j u, (cellsL x0)[j]? = some u → w.cell? ⟨b, j, none⟩ = some u) (hx0 : rangeL x0) (hrl : ∀ y ∈ l, rangeL y) (hr1 : Kd.C kimplLoan w A1 l.length l) :
    Calls Try.prog 87 #[.slice A1 l.length c1, .func (.func 88) #[] #[.pointer (some ⟨b, 0, none⟩)]] w fun e w' => e = .returned (.bool (!(l.all (fun y => !confB x0 y)))) ∧ Below w.heap.size w w' := by
  have HY := Aside0.mk (delayI_c b x0 A1 c1 l w hfree hx0 hrl hr1)
  clear hfree hx0 hrl hr1
  go_enter Try.func87, Try.ntmps87
  go_wp2_with (go_at_call 121; refine HY.out.mono ?_; rintro e w1 ⟨⟨r, rfl, hr⟩, hB1⟩; have HR := Aside0.mk hr; clear hr)
  go_ret
  exact ⟨by rw [← HR.out]; rfl, hB1⟩
theorem cellsL_all {x : SimplLoan} {w : World} {b : Nat} (h0 : w.cell? ⟨b, 0, none⟩ = some (.int .i64 x.f0.f0)) (h1 : w.cell? ⟨b, 1, none⟩ = some (.int .i64 x.f0.f1)) (h2 : w.cell? ⟨b, 2, none⟩ = some (.int .i64 x.f0.f2)) (h3 : w.cell? ⟨b, 3, none⟩ = some (.int .i64 x.f0.f3)) (h4 : w.cell? ⟨b, 4, none⟩ = some (.bool x.f1)) (h5 : w.cell? ⟨b, 5, none⟩ = some (.int .i64 x.f2)) (h6 : w.cell? ⟨b, 6, none⟩ = some (.int .i64 x.f3)) :
    ∀ j u, (cellsL x)[j]? = some u → w.cell? ⟨b, j, none⟩ = some u := by
  intro j u hj
  match j, hj with
  | 0, hj => exact h0.trans hj
  | 1, hj => exact h1.trans hj
  | 2, hj => exact h2.trans hj
  | 3, hj => exact h3.trans hj
  | 4, hj => exact h4.trans hj
  | 5, hj => exact h5.trans hj
  | 6, hj => exact h6.trans hj
  | j + 7, hj => exact absurd hj (by simp [cellsL])
def later (x : SimplLoan) (d : Int) : SimplLoan := ⟨x.f0, x.f1, x.f2 + d, x.f3 + d⟩
def delayGo (l : List SimplLoan) (x : SimplLoan) : Nat → Int → Int × Bool
  | 0, _ => (0, false)
  | n + 1, d => if l.all (fun y => !confB (later x d) y) = true then (d, true) else delayGo l x n (d + 1)
def delayOf (m : List (List Int)) (l : List SimplLoan) (x : SimplLoan) : Int × Bool := if (loansB m l && loanB m x) = true then delayGo l x (61 - x.f3).toNat 0 else (0, false)
end Go.Proofs.Ytpbboooeahmgpaa.P


-- written by wip/gen_fn.py
namespace Go.Proofs.Ytpbboooeahmgpaa.P
open Go.RowKit Go.Proofs.YtpbboooeahmgpaaW.PrintWords Go.Proofs.YtpbboooeahmgpaaW.PrintLast Go.Proofs.YtpbboooeahmgpaaW.PrintMore Go.Proofs.YtpbboooeahmgpaaW.Mine
open List (setIfInBounds_toArray set_cons_zero set_cons_succ)
attribute [local go_sem] max2_int min2_int max_two min_two max_three min_three max_four min_four
set_option linter.unusedVariables false
set_option linter.unusedSimpArgs false
set_option maxHeartbeats 8000000 in
set_option maxRecDepth 100000 in
theorem impl_DelayOf_w0 (A0_0 : Option Addr) (c0_0 : Nat) (l0_0 : List (List Int)) (A1_0 : Option Addr) (c1_0 : Nat) (l1_0 : List SimplLoan) (a2_0 : Int) (a2_1 : Int) (a2_2 : Int) (a2_3 : Int) (a2_4 : Bool) (a2_5 : Int) (a2_6 : Int) (w : World) (hr0_0 : Kd.C (Kd.slice 5 (Kd.int .u8)) w A0_0 l0_0.length l0_0) (hc0_0 : l0_0.length ≤ c0_0) (hr1_0 : Kd.C kimplLoan w A1_0 l1_0.length l1_0) (hc1_0 : l1_0.length ≤ c1_0) (H1 : impl_areLoans.f l0_0 l1_0 = some false) :
    Calls Try.prog 30 #[.agg #[.slice A0_0 l0_0.length c0_0], .slice A1_0 l1_0.length c1_0, .agg #[.int .i64 a2_0, .int .i64 a2_1, .int .i64 a2_2, .int .i64 a2_3, .bool a2_4, .int .i64 a2_5, .int .i64 a2_6]] w fun e w' => e = .returned (.tuple #[.int .i64 0, .bool false]) ∧ Below w.heap.size w w' := by
  have HR0_0 := Aside0.mk hr0_0; have HC0_0 := Aside0.mk hc0_0; clear hr0_0 hc0_0
  have HR1_0 := Aside0.mk hr1_0; have HC1_0 := Aside0.mk hc1_0; clear hr1_0 hc1_0
  have H1_ := Aside0.mk H1; clear H1; have H1 := H1_; clear H1_
  have HS0 : Aside0 (Stk w [] w) := ⟨Stk.nil w⟩
  go_enter Try.func30, Try.ntmps30
  refine reg (aF := ?_) (nw := ?_) [evB 0 3 [] 26 (fun s => #[.slice A0_0 l0_0.length c0_0]) 9999 [] (fun s => #[.slice A0_0 l0_0.length c0_0]), evB 1 5 [] 30 (fun s => #[.int .i64 a2_0, .int .i64 a2_1, .int .i64 a2_2, .int .i64 a2_3, .bool a2_4, .int .i64 a2_5, .int .i64 a2_6]) 9999 [] (fun s => #[.int .i64 a2_0, .int .i64 a2_1, .int .i64 a2_2, .int .i64 a2_3, .bool a2_4, .int .i64 a2_5, .int .i64 a2_6]), evP 2 6 [] (fun s => .int .i64 0), evP 3 7 [] (fun s => .bool false)] [] [] false 4 rfl rfl (by kernel_rfl) rfl (mf0) ?aF ?nw HS0.out ?hs ?_
  rotate_left 2
  case aF => intro s; simp only [putE, EvT.val, Act.put, setIfInBounds_toArray, set_cons_zero, set_cons_succ]; rfl
  case nw => intro s; simp only [thA, bsA, List.nil_append, List.cons_append, List.append_nil, if_true, if_false, Nat.reduceLT, set_cons_zero, set_cons_succ]; rfl
  case hs => exact ⟨bv rfl (fun s w => by go_simp; try rfl), bv rfl (fun s w => by go_simp; try rfl), pu rfl, pu rfl, trivial⟩
  intro s1 w1 h; have HS1 := Aside0.mk h; clear h HS0
  refine tl0 ?_
  refine wp_seq ?_
  refine reg0 (aF := ?_) [evL 0 10 [] (fun s => .agg #[.slice A0_0 l0_0.length c0_0]), evP 1 11 [] (fun s => .slice A1_0 l1_0.length c1_0), evC 2 (some 12) [] (fun s x => .bool false) (fun s x => []), evP 3 13 [] (fun s => .bool true), evP 4 14 [] (fun s => .bool true), evP 5 15 [] (fun s => undef), evP 6 16 [] (fun s => undef), evP 7 17 [] (fun s => undef), evP 8 18 [] (fun s => undef), evP 9 19 [] (fun s => undef), evP 10 20 [] (fun s => .bool true)] [] false 11 rfl rfl (by kernel_rfl) rfl (fun _ => rfl) ?aF HS1.out ?hs ?_
  rotate_left 1
  case aF => intro s; simp only [putE, EvT.val, Act.put, setIfInBounds_toArray, set_cons_zero, set_cons_succ]; rfl
  case hs => exact ⟨ld rfl 0 (fun s => rfl) (fun s w h => by have h0 := h 0 _ rfl; clear h; go_simp; try rfl), pu rfl, cl rfl (fun s => #[.agg #[.slice A0_0 l0_0.length c0_0], .slice A1_0 l1_0.length c1_0]) Try.func76 (fun s w1 h => (impl_areLoans.calls _ _ _ _ _ _ _ _ (Kd.C_below HR0_0.out h.hb) HC0_0.out (Kd.C_below HR1_0.out h.hb) HC1_0.out H1.out).mono (by rintro e w2 ⟨rfl, hb⟩; exact fin0 hb)), pu rfl, pu rfl, pf rfl, pf rfl, pf rfl, pf rfl, pf rfl, pu rfl, trivial⟩
  intro s2 w2 h; have HS2 := Aside0.mk h; clear h HS1
  refine tl0 ?_
  refine wp_cond_true rfl ?_
  refine reg0 (aF := ?_) [] [0, 1] false 2 rfl rfl (by kernel_rfl) rfl (fun _ => rfl) ?aF HS2.out ?hs ?_
  rotate_left 1
  case aF => intro s; simp only [putE, EvT.val, Act.put, setIfInBounds_toArray, set_cons_zero, set_cons_succ]; rfl
  case hs => exact trivial
  intro s3 w3 h; have HS3 := Aside0.mk h; clear h HS2
  refine tlP (v := .int .i64 0) 6 rfl ?_
  refine tlP (v := .bool false) 7 rfl ?_
  refine tl0 ?_
  refine wp_ret ?_
  try simp only [Exit.inBlock, Exit.then]
  refine bodyPost_ret (results_list (rs := [.tmp 6, .tmp 7]) rfl (by simp) (.tmp (.tmp .nil))) rfl ?_
  exact ⟨by first | rfl | simp, HS3.out.hb⟩
set_option maxHeartbeats 8000000 in
set_option maxRecDepth 100000 in
theorem impl_DelayOf_w1 (A0_0 : Option Addr) (c0_0 : Nat) (l0_0 : List (List Int)) (A1_0 : Option Addr) (c1_0 : Nat) (l1_0 : List SimplLoan) (a2_0 : Int) (a2_1 : Int) (a2_2 : Int) (a2_3 : Int) (a2_4 : Bool) (a2_5 : Int) (a2_6 : Int) (w : World) (hr0_0 : Kd.C (Kd.slice 5 (Kd.int .u8)) w A0_0 l0_0.length l0_0) (hc0_0 : l0_0.length ≤ c0_0) (hr1_0 : Kd.C kimplLoan w A1_0 l1_0.length l1_0) (hc1_0 : l1_0.length ≤ c1_0) (H1 : impl_areLoans.f l0_0 l1_0 = some true) (H2 : impl_areAnyLoans.f l0_0 ([(⟨⟨a2_0, a2_1, a2_2, a2_3⟩, a2_4, a2_5, a2_6⟩ : SimplLoan)] : List SimplLoan) = some false) :
    Calls Try.prog 30 #[.agg #[.slice A0_0 l0_0.length c0_0], .slice A1_0 l1_0.length c1_0, .agg #[.int .i64 a2_0, .int .i64 a2_1, .int .i64 a2_2, .int .i64 a2_3, .bool a2_4, .int .i64 a2_5, .int .i64 a2_6]] w fun e w' => e = .returned (.tuple #[.int .i64 0, .bool false]) ∧ Below w.heap.size w w' := by
  have HR0_0 := Aside0.mk hr0_0; have HC0_0 := Aside0.mk hc0_0; clear hr0_0 hc0_0
  have HR1_0 := Aside0.mk hr1_0; have HC1_0 := Aside0.mk hc1_0; clear hr1_0 hc1_0
  have H1_ := Aside0.mk H1; clear H1; have H1 := H1_; clear H1_
  have H2_ := Aside0.mk H2; clear H2; have H2 := H2_; clear H2_
  have HS0 : Aside0 (Stk w [] w) := ⟨Stk.nil w⟩
  go_enter Try.func30, Try.ntmps30
  refine reg (aF := ?_) (nw := ?_) [evB 0 3 [] 26 (fun s => #[.slice A0_0 l0_0.length c0_0]) 9999 [] (fun s => #[.slice A0_0 l0_0.length c0_0]), evB 1 5 [] 30 (fun s => #[.int .i64 a2_0, .int .i64 a2_1, .int .i64 a2_2, .int .i64 a2_3, .bool a2_4, .int .i64 a2_5, .int .i64 a2_6]) 9999 [] (fun s => #[.int .i64 a2_0, .int .i64 a2_1, .int .i64 a2_2, .int .i64 a2_3, .bool a2_4, .int .i64 a2_5, .int .i64 a2_6]), evP 2 6 [] (fun s => .int .i64 0), evP 3 7 [] (fun s => .bool false)] [] [] false 4 rfl rfl (by kernel_rfl) rfl (mf0) ?aF ?nw HS0.out ?hs ?_
  rotate_left 2
  case aF => intro s; simp only [putE, EvT.val, Act.put, setIfInBounds_toArray, set_cons_zero, set_cons_succ]; rfl
  case nw => intro s; simp only [thA, bsA, List.nil_append, List.cons_append, List.append_nil, if_true, if_false, Nat.reduceLT, set_cons_zero, set_cons_succ]; rfl
  case hs => exact ⟨bv rfl (fun s w => by go_simp; try rfl), bv rfl (fun s w => by go_simp; try rfl), pu rfl, pu rfl, trivial⟩
  intro s1 w1 h; have HS1 := Aside0.mk h; clear h HS0
  refine tl0 ?_
  refine wp_seq ?_
  refine reg (aF := ?_) (nw := ?_) [evL 0 10 [] (fun s => .agg #[.slice A0_0 l0_0.length c0_0]), evP 1 11 [] (fun s => .slice A1_0 l1_0.length c1_0), evC 2 (some 12) [] (fun s x => .bool true) (fun s x => []), evP 3 13 [] (fun s => .bool false), evP 4 14 [] (fun s => .bool false), evL 5 15 [] (fun s => .agg #[.slice A0_0 l0_0.length c0_0]), evL 6 16 [] (fun s => .agg #[.int .i64 a2_0, .int .i64 a2_1, .int .i64 a2_2, .int .i64 a2_3, .bool a2_4, .int .i64 a2_5, .int .i64 a2_6]), evC 7 (some 17) [] (fun s x => .slice x.A ([(⟨⟨a2_0, a2_1, a2_2, a2_3⟩, a2_4, a2_5, a2_6⟩ : SimplLoan)] : List SimplLoan).length x.c) (fun s x => [rowR kimplLoan 30 w x.lo x.hi x.A x.c ([(⟨⟨a2_0, a2_1, a2_2, a2_3⟩, a2_4, a2_5, a2_6⟩ : SimplLoan)] : List SimplLoan)]), evC 8 (some 18) [7] (fun s x => .bool false) (fun s x => []), evP 9 19 [] (fun s => .bool true), evP 10 20 [] (fun s => .bool true)] [] [] false 11 rfl rfl (by kernel_rfl) rfl (mf0) ?aF ?nw HS1.out ?hs ?_
  rotate_left 2
  case aF => intro s; simp only [putE, EvT.val, Act.put, setIfInBounds_toArray, set_cons_zero, set_cons_succ]; rfl
  case nw => intro s; simp only [thA, bsA, List.nil_append, List.cons_append, List.append_nil, if_true, if_false, Nat.reduceLT, set_cons_zero, set_cons_succ]; rfl
  case hs => exact ⟨ld rfl 0 (fun s => rfl) (fun s w h => by have h0 := h 0 _ rfl; clear h; go_simp; try rfl), pu rfl, cl rfl (fun s => #[.agg #[.slice A0_0 l0_0.length c0_0], .slice A1_0 l1_0.length c1_0]) Try.func76 (fun s w1 h => (impl_areLoans.calls _ _ _ _ _ _ _ _ (Kd.C_below HR0_0.out h.hb) HC0_0.out (Kd.C_below HR1_0.out h.hb) HC1_0.out H1.out).mono (by rintro e w2 ⟨rfl, hb⟩; exact fin0 hb)), pu rfl, pu rfl, ld rfl 0 (fun s => rfl) (fun s w h => by have h0 := h 0 _ rfl; clear h; go_simp; try rfl), ld rfl 1 (fun s => rfl) (fun s w h => by have h0 := h 0 _ rfl; have h1 := h 1 _ rfl; have h2 := h 2 _ rfl; have h3 := h 3 _ rfl; have h4 := h 4 _ rfl; have h5 := h 5 _ rfl; have h6 := h 6 _ rfl; clear h; go_simp; try rfl), bl kimplLoan 30 rfl (fun s => ([(⟨⟨a2_0, a2_1, a2_2, a2_3⟩, a2_4, a2_5, a2_6⟩ : SimplLoan)] : List SimplLoan)) (fun s => [.int .i64 a2_0, .int .i64 a2_1, .int .i64 a2_2, .int .i64 a2_3, .bool a2_4, .int .i64 a2_5, .int .i64 a2_6]) (fun s w => by go_simp; try rfl) (fun s w => (Reps.c7 (show Kd.M kimplLoan _ _ _ (⟨⟨a2_0, a2_1, a2_2, a2_3⟩, a2_4, a2_5, a2_6⟩ : SimplLoan) [.int .i64 a2_0, .int .i64 a2_1, .int .i64 a2_2, .int .i64 a2_3, .bool a2_4, .int .i64 a2_5, .int .i64 a2_6] from (kimplLoan_mkM _ _ _ _)) (Reps.none _ _))), cl rfl (fun s => #[.agg #[.slice A0_0 l0_0.length c0_0], .slice (s 7).A ([(⟨⟨a2_0, a2_1, a2_2, a2_3⟩, a2_4, a2_5, a2_6⟩ : SimplLoan)] : List SimplLoan).length (s 7).c]) Try.func67 (fun s w1 h => (impl_areAnyLoans.calls _ _ _ _ _ _ _ _ (Kd.C_below HR0_0.out h.hb) HC0_0.out (Kd.R_reads' (h.get 0 rfl)).2.2 (Kd.R_reads' (h.get 0 rfl)).2.1 H2.out).mono (by rintro e w2 ⟨rfl, hb⟩; exact fin0 hb)), pu rfl, pu rfl, trivial⟩
  intro s2 w2 h; have HS2 := Aside0.mk h; clear h HS1
  refine tl0 ?_
  refine wp_cond_true rfl ?_
  refine reg0 (aF := ?_) [] [0, 1] false 2 rfl rfl (by kernel_rfl) rfl (fun _ => rfl) ?aF HS2.out ?hs ?_
  rotate_left 1
  case aF => intro s; simp only [putE, EvT.val, Act.put, setIfInBounds_toArray, set_cons_zero, set_cons_succ]; rfl
  case hs => exact trivial
  intro s3 w3 h; have HS3 := Aside0.mk h; clear h HS2
  refine tlP (v := .int .i64 0) 6 rfl ?_
  refine tlP (v := .bool false) 7 rfl ?_
  refine tl0 ?_
  refine wp_ret ?_
  try simp only [Exit.inBlock, Exit.then]
  refine bodyPost_ret (results_list (rs := [.tmp 6, .tmp 7]) rfl (by simp) (.tmp (.tmp .nil))) rfl ?_
  exact ⟨by first | rfl | simp, HS3.out.hb⟩
set_option maxHeartbeats 8000000 in
set_option maxRecDepth 100000 in
theorem impl_DelayOf_w2 (A0_0 : Option Addr) (c0_0 : Nat) (l0_0 : List (List Int)) (A1_0 : Option Addr) (c1_0 : Nat) (l1_0 : List SimplLoan) (a2_0 : Int) (a2_1 : Int) (a2_2 : Int) (a2_3 : Int) (a2_4 : Bool) (a2_5 : Int) (a2_6 : Int) (w : World) (hr0_0 : Kd.C (Kd.slice 5 (Kd.int .u8)) w A0_0 l0_0.length l0_0) (hc0_0 : l0_0.length ≤ c0_0) (hr1_0 : Kd.C kimplLoan w A1_0 l1_0.length l1_0) (hc1_0 : l1_0.length ≤ c1_0) (H1 : impl_areLoans.f l0_0 l1_0 = some true) (H2 : impl_areAnyLoans.f l0_0 ([(⟨⟨a2_0, a2_1, a2_2, a2_3⟩, a2_4, a2_5, a2_6⟩ : SimplLoan)] : List SimplLoan) = some true) (F0 : rangeL (⟨⟨a2_0, a2_1, a2_2, a2_3⟩, a2_4, a2_5, a2_6⟩ : SimplLoan)) (F1 : ∀ y ∈ l1_0, rangeL y) (F2 : 0 ≤ a2_5) (F3 : a2_5 ≤ a2_6) (F4 : a2_6 ≤ 60) :
    Calls Try.prog 30 #[.agg #[.slice A0_0 l0_0.length c0_0], .slice A1_0 l1_0.length c1_0, .agg #[.int .i64 a2_0, .int .i64 a2_1, .int .i64 a2_2, .int .i64 a2_3, .bool a2_4, .int .i64 a2_5, .int .i64 a2_6]] w fun e w' => e = .returned (.tuple #[.int .i64 (delayGo l1_0 (⟨⟨a2_0, a2_1, a2_2, a2_3⟩, a2_4, a2_5, a2_6⟩ : SimplLoan) (61 - a2_6).toNat 0).1, .bool (delayGo l1_0 (⟨⟨a2_0, a2_1, a2_2, a2_3⟩, a2_4, a2_5, a2_6⟩ : SimplLoan) (61 - a2_6).toNat 0).2]) ∧ Below w.heap.size w w' := by
  have HR0_0 := Aside0.mk hr0_0; have HC0_0 := Aside0.mk hc0_0; clear hr0_0 hc0_0
  have HR1_0 := Aside0.mk hr1_0; have HC1_0 := Aside0.mk hc1_0; clear hr1_0 hc1_0
  have H1_ := Aside0.mk H1; clear H1; have H1 := H1_; clear H1_
  have H2_ := Aside0.mk H2; clear H2; have H2 := H2_; clear H2_
  have HS0 : Aside0 (Stk w [] w) := ⟨Stk.nil w⟩
  go_enter Try.func30, Try.ntmps30
  refine reg (aF := ?_) (nw := ?_) [evB 0 3 [] 26 (fun s => #[.slice A0_0 l0_0.length c0_0]) 9999 [] (fun s => #[.slice A0_0 l0_0.length c0_0]), evB 1 5 [] 30 (fun s => #[.int .i64 a2_0, .int .i64 a2_1, .int .i64 a2_2, .int .i64 a2_3, .bool a2_4, .int .i64 a2_5, .int .i64 a2_6]) 9999 [] (fun s => #[.int .i64 a2_0, .int .i64 a2_1, .int .i64 a2_2, .int .i64 a2_3, .bool a2_4, .int .i64 a2_5, .int .i64 a2_6]), evP 2 6 [] (fun s => .int .i64 0), evP 3 7 [] (fun s => .bool false)] [] [] false 4 rfl rfl (by kernel_rfl) rfl (mf0) ?aF ?nw HS0.out ?hs ?_
  rotate_left 2
  case aF => intro s; simp only [putE, EvT.val, Act.put, setIfInBounds_toArray, set_cons_zero, set_cons_succ]; rfl
  case nw => intro s; simp only [thA, bsA, List.nil_append, List.cons_append, List.append_nil, if_true, if_false, Nat.reduceLT, set_cons_zero, set_cons_succ]; rfl
  case hs => exact ⟨bv rfl (fun s w => by go_simp; try rfl), bv rfl (fun s w => by go_simp; try rfl), pu rfl, pu rfl, trivial⟩
  intro s1 w1 h; have HS1 := Aside0.mk h; clear h HS0
  refine tl0 ?_
  refine wp_seq ?_
  refine reg (aF := ?_) (nw := ?_) [evL 0 10 [] (fun s => .agg #[.slice A0_0 l0_0.length c0_0]), evP 1 11 [] (fun s => .slice A1_0 l1_0.length c1_0), evC 2 (some 12) [] (fun s x => .bool true) (fun s x => []), evP 3 13 [] (fun s => .bool false), evP 4 14 [] (fun s => .bool false), evL 5 15 [] (fun s => .agg #[.slice A0_0 l0_0.length c0_0]), evL 6 16 [] (fun s => .agg #[.int .i64 a2_0, .int .i64 a2_1, .int .i64 a2_2, .int .i64 a2_3, .bool a2_4, .int .i64 a2_5, .int .i64 a2_6]), evC 7 (some 17) [] (fun s x => .slice x.A ([(⟨⟨a2_0, a2_1, a2_2, a2_3⟩, a2_4, a2_5, a2_6⟩ : SimplLoan)] : List SimplLoan).length x.c) (fun s x => [rowR kimplLoan 30 w x.lo x.hi x.A x.c ([(⟨⟨a2_0, a2_1, a2_2, a2_3⟩, a2_4, a2_5, a2_6⟩ : SimplLoan)] : List SimplLoan)]), evC 8 (some 18) [7] (fun s x => .bool true) (fun s x => []), evP 9 19 [] (fun s => .bool false), evP 10 20 [] (fun s => .bool false)] [] [] false 11 rfl rfl (by kernel_rfl) rfl (mf0) ?aF ?nw HS1.out ?hs ?_
  rotate_left 2
  case aF => intro s; simp only [putE, EvT.val, Act.put, setIfInBounds_toArray, set_cons_zero, set_cons_succ]; rfl
  case nw => intro s; simp only [thA, bsA, List.nil_append, List.cons_append, List.append_nil, if_true, if_false, Nat.reduceLT, set_cons_zero, set_cons_succ]; rfl
  case hs => exact ⟨ld rfl 0 (fun s => rfl) (fun s w h => by have h0 := h 0 _ rfl; clear h; go_simp; try rfl), pu rfl, cl rfl (fun s => #[.agg #[.slice A0_0 l0_0.length c0_0], .slice A1_0 l1_0.length c1_0]) Try.func76 (fun s w1 h => (impl_areLoans.calls _ _ _ _ _ _ _ _ (Kd.C_below HR0_0.out h.hb) HC0_0.out (Kd.C_below HR1_0.out h.hb) HC1_0.out H1.out).mono (by rintro e w2 ⟨rfl, hb⟩; exact fin0 hb)), pu rfl, pu rfl, ld rfl 0 (fun s => rfl) (fun s w h => by have h0 := h 0 _ rfl; clear h; go_simp; try rfl), ld rfl 1 (fun s => rfl) (fun s w h => by have h0 := h 0 _ rfl; have h1 := h 1 _ rfl; have h2 := h 2 _ rfl; have h3 := h 3 _ rfl; have h4 := h 4 _ rfl; have h5 := h 5 _ rfl; have h6 := h 6 _ rfl; clear h; go_simp; try rfl), bl kimplLoan 30 rfl (fun s => ([(⟨⟨a2_0, a2_1, a2_2, a2_3⟩, a2_4, a2_5, a2_6⟩ : SimplLoan)] : List SimplLoan)) (fun s => [.int .i64 a2_0, .int .i64 a2_1, .int .i64 a2_2, .int .i64 a2_3, .bool a2_4, .int .i64 a2_5, .int .i64 a2_6]) (fun s w => by go_simp; try rfl) (fun s w => (Reps.c7 (show Kd.M kimplLoan _ _ _ (⟨⟨a2_0, a2_1, a2_2, a2_3⟩, a2_4, a2_5, a2_6⟩ : SimplLoan) [.int .i64 a2_0, .int .i64 a2_1, .int .i64 a2_2, .int .i64 a2_3, .bool a2_4, .int .i64 a2_5, .int .i64 a2_6] from (kimplLoan_mkM _ _ _ _)) (Reps.none _ _))), cl rfl (fun s => #[.agg #[.slice A0_0 l0_0.length c0_0], .slice (s 7).A ([(⟨⟨a2_0, a2_1, a2_2, a2_3⟩, a2_4, a2_5, a2_6⟩ : SimplLoan)] : List SimplLoan).length (s 7).c]) Try.func67 (fun s w1 h => (impl_areAnyLoans.calls _ _ _ _ _ _ _ _ (Kd.C_below HR0_0.out h.hb) HC0_0.out (Kd.R_reads' (h.get 0 rfl)).2.2 (Kd.R_reads' (h.get 0 rfl)).2.1 H2.out).mono (by rintro e w2 ⟨rfl, hb⟩; exact fin0 hb)), pu rfl, pu rfl, trivial⟩
  intro s2 w2 h; have HS2 := Aside0.mk h; clear h HS1
  refine tl0 ?_
  refine wp_cond_false rfl ?_
  refine wp_skip ?_
  refine thN ?_
  refine wp_seq ?_
  refine reg0 (aF := ?_) [] [0] false 1 rfl rfl (by kernel_rfl) rfl (fun _ => rfl) ?aF HS2.out ?hs ?_
  rotate_left 1
  case aF => intro s; simp only [putE, EvT.val, Act.put, setIfInBounds_toArray, set_cons_zero, set_cons_succ]; rfl
  case hs => exact trivial
  intro s3 w3 h; have HS3 := Aside0.mk h; clear h HS2
  refine tlP (v := .int .i64 0) 8 rfl ?_
  refine tl0 ?_
  -- things: rowR kimplLoan 30 w (s2 7).lo (s2 7).hi (s2 7).A (s2 7).c ([(⟨⟨a2_0, a2_1, a2_2, a2_3⟩, a2_4, a2_5, a2_6⟩ : SimplLoan)] : List SimplLoan) | boxT (s1 0).lo #[.slice A0_0 l0_0.length c0_0] 26 | boxT (s1 1).lo #[.int .i64 a2_0, .int .i64 a2_1, .int .i64 a2_2, .int .i64 a2_3, .bool a2_4, .int .i64 a2_5, .int .i64 a2_6] 30 ; HS3
  have hbx : ∀ j u, (cellsL (⟨⟨a2_0, a2_1, a2_2, a2_3⟩, a2_4, a2_5, a2_6⟩ : SimplLoan))[j]? = some u → w3.cell? ⟨(s1 1).lo, j, none⟩ = some u := fun j u hj => (blk_cell (HS3.out.get 2 rfl) j).trans hj
  have HBX := Aside0.mk hbx
  have HR3 := Aside0.mk (Kd.C_below HR1_0.out HS3.out.hb)
  have HB3 := Aside0.mk HS3.out.hb
  have HX := Aside0.mk F0
  have HL := Aside0.mk F1
  clear hbx HS3 H1 H2 F0 F1 HR0_0 HC0_0 HC1_0 HR1_0
  generalize (s1 1).lo = g5 at *
  generalize (s1 0).lo = g3 at *
  generalize (s2 7).A = A7 at *
  generalize (s2 7).c = c7 at *
  clear s1 s2 s3 w1 w2
  simp only [Act.put, setIfInBounds_toArray, set_cons_zero, set_cons_succ, List.length_cons, List.length_nil, Nat.zero_add]
  go_wp2
  go_loopw [8] (fun v8 wr => ∃ (n : Nat) (d : Int), 0 ≤ d ∧ a2_6 + d + n = 61 ∧ v8 = .int .i64 d ∧ Aside0 (delayGo l1_0 (⟨⟨a2_0, a2_1, a2_2, a2_3⟩, a2_4, a2_5, a2_6⟩ : SimplLoan) (61 - a2_6).toNat 0 = delayGo l1_0 (⟨⟨a2_0, a2_1, a2_2, a2_3⟩, a2_4, a2_5, a2_6⟩ : SimplLoan) n d) ∧ Aside0 (Below w3.heap.size w3 wr)) (fun v8 _ => (61 - a2_6 - intOf v8).toNat)
  case atStart => exact ⟨(61 - a2_6).toNat, 0, by omega, by omega, rfl, ⟨rfl⟩, ⟨Below.refl _ _⟩⟩
  case round =>
    obtain ⟨n, d, hd0, hdn, rfl, HD, HB⟩ := hrel
    have hy0 : wr.cell? ⟨g5, 0, none⟩ = some (.int .i64 a2_0) := (HB.out.cell (World.block_lt_of_cell? w3 _ (HBX.out 0 _ rfl))).trans (HBX.out 0 _ rfl)
    have hy1 : wr.cell? ⟨g5, 1, none⟩ = some (.int .i64 a2_1) := (HB.out.cell (World.block_lt_of_cell? w3 _ (HBX.out 1 _ rfl))).trans (HBX.out 1 _ rfl)
    have hy2 : wr.cell? ⟨g5, 2, none⟩ = some (.int .i64 a2_2) := (HB.out.cell (World.block_lt_of_cell? w3 _ (HBX.out 2 _ rfl))).trans (HBX.out 2 _ rfl)
    have hy3 : wr.cell? ⟨g5, 3, none⟩ = some (.int .i64 a2_3) := (HB.out.cell (World.block_lt_of_cell? w3 _ (HBX.out 3 _ rfl))).trans (HBX.out 3 _ rfl)
    have hy4 : wr.cell? ⟨g5, 4, none⟩ = some (.bool a2_4) := (HB.out.cell (World.block_lt_of_cell? w3 _ (HBX.out 4 _ rfl))).trans (HBX.out 4 _ rfl)
    have hy5 : wr.cell? ⟨g5, 5, none⟩ = some (.int .i64 a2_5) := (HB.out.cell (World.block_lt_of_cell? w3 _ (HBX.out 5 _ rfl))).trans (HBX.out 5 _ rfl)
    have hy6 : wr.cell? ⟨g5, 6, none⟩ = some (.int .i64 a2_6) := (HB.out.cell (World.block_lt_of_cell? w3 _ (HBX.out 6 _ rfl))).trans (HBX.out 6 _ rfl)
    have hy7 : g5 < wr.heap.size := World.block_lt_of_cell? wr _ hy0
    by_cases hlt : a2_6 + d ≤ 60
    · obtain ⟨n, rfl⟩ : ∃ q, n = q + 1 := ⟨n - 1, by omega⟩
      have hxr : rangeL (later (⟨⟨a2_0, a2_1, a2_2, a2_3⟩, a2_4, a2_5, a2_6⟩ : SimplLoan) d) := by
        have := HX.out
        unfold rangeL later at *
        simp only at *
        omega
      have HXR := Aside0.mk hxr
      clear hxr
      have HRr := Aside0.mk (Kd.C_below HR3.out HB.out)
      cases hc : l1_0.all (fun y => !confB (later (⟨⟨a2_0, a2_1, a2_2, a2_3⟩, a2_4, a2_5, a2_6⟩ : SimplLoan) d) y)
      · have HC := Aside0.mk hc
        clear hc
        go_wp2_with (go_at_call 87; refine (delayC_c _ (later (⟨⟨a2_0, a2_1, a2_2, a2_3⟩, a2_4, a2_5, a2_6⟩ : SimplLoan) d) _ _ l1_0 _ ?cfr HXR.out HL.out ?crr).mono ?_; (case cfr => refine cellsL_all ?_ ?_ ?_ ?_ ?_ ?_ ?_ <;> simp [later]); (case crr => repeat (first | exact HRr.out | (with_reducible refine Kd.C_setCell ?_ _ _ _) | (with_reducible refine Kd.C_alloc ?_ _))); rintro e w4 ⟨rfl, hB4⟩; rw [HC.out]; have HB4 := Aside0.mk hB4; clear hB4)
        go_roundw
        case rel => exact ⟨n, d + 1, by omega, by omega, by go_num, ⟨by rw [HD.out]; show (if _ then _ else _) = _; rw [HC.out]; rfl⟩, ⟨below_step HB.out (((Below.refl _ _).alloc (Nat.le_refl _) _).trans (HB4.out.mono (by simp)))⟩⟩
        case measure => simp [intOf]; omega
      · have HC := Aside0.mk hc
        clear hc
        go_wp2_with (go_at_call 87; refine (delayC_c _ (later (⟨⟨a2_0, a2_1, a2_2, a2_3⟩, a2_4, a2_5, a2_6⟩ : SimplLoan) d) _ _ l1_0 _ ?cfr HXR.out HL.out ?crr).mono ?_; (case cfr => refine cellsL_all ?_ ?_ ?_ ?_ ?_ ?_ ?_ <;> simp [later]); (case crr => repeat (first | exact HRr.out | (with_reducible refine Kd.C_setCell ?_ _ _ _) | (with_reducible refine Kd.C_alloc ?_ _))); rintro e w4 ⟨rfl, hB4⟩; rw [HC.out]; have HB4 := Aside0.mk hB4; clear hB4)
        go_ret2
        have hq : delayGo l1_0 (⟨⟨a2_0, a2_1, a2_2, a2_3⟩, a2_4, a2_5, a2_6⟩ : SimplLoan) (61 - a2_6).toNat 0 = (d, true) := by rw [HD.out]; show (if _ then _ else _) = _; rw [HC.out]; rfl
        exact ⟨by rw [hq]; rfl, HB3.out.trans ((below_step HB.out (((Below.refl _ _).alloc (Nat.le_refl _) _).trans (HB4.out.mono (by simp)))).mono HB3.out.size)⟩
    · obtain rfl : n = 0 := by omega
      go_wp2
      go_ret2
      exact ⟨by rw [HD.out]; rfl, HB3.out.trans (HB.out.mono HB3.out.size)⟩
end Go.Proofs.Ytpbboooeahmgpaa.P


/- impl.DelayOf, as a whole. -/
namespace Go.Proofs.Ytpbboooeahmgpaa.P
open Go.RowKit Go.Proofs.YtpbboooeahmgpaaW.PrintWords Go.Proofs.YtpbboooeahmgpaaW.Mine
set_option linter.unusedVariables false
theorem loansB_r {m : List (List Int)} {l : List SimplLoan} (h : loansB m l = true) : memB m = true ∧ (∀ x ∈ l, rangeL x) ∧ l.length ≤ 8 := by
  unfold loansB at h
  simp only [Bool.and_eq_true, decide_eq_true_eq, List.all_eq_true] at h
  exact ⟨h.1.1, fun x hx => rangeL_of h.1.1 (h.1.2 x hx), h.2⟩
def impl_DelayOf.f (m : List (List Int)) (l : List SimplLoan) (a b c d : Int) (o : Bool) (e f : Int) : Option (Int × Bool) := some (delayOf m l ⟨⟨a, b, c, d⟩, o, e, f⟩)
theorem impl_DelayOf.calls (A0_0 : Option Addr) (c0_0 : Nat) (l0_0 : List (List Int)) (A1 : Option Addr) (c1 : Nat) (l1 : List SimplLoan) (a2_0 : Int) (a2_1 : Int) (a2_2 : Int) (a2_3 : Int) (a2_4 : Bool) (a2_5 : Int) (a2_6 : Int) (r1 : Int) (r2 : Bool) (w : World) (hr0_0 : Kd.C (Kd.slice 5 (Kd.int .u8)) w A0_0 l0_0.length l0_0) (hc0_0 : l0_0.length ≤ c0_0) (hr1 : Kd.C kimplLoan w A1 l1.length l1) (hc1 : l1.length ≤ c1) (h : impl_DelayOf.f l0_0 l1 a2_0 a2_1 a2_2 a2_3 a2_4 a2_5 a2_6 = some (r1, r2)) :
    Calls Try.prog 30 #[.agg #[.slice A0_0 l0_0.length c0_0], .slice A1 l1.length c1, .agg #[.int .i64 a2_0, .int .i64 a2_1, .int .i64 a2_2, .int .i64 a2_3, .bool a2_4, .int .i64 a2_5, .int .i64 a2_6]] w fun e w' => e = .returned (.tuple #[.int .i64 r1, .bool r2]) ∧ Below w.heap.size w w' := by
  have h := Option.some.inj h
  unfold delayOf at h
  have hl := areLoans_f l0_0 l1
  cases h1 : loansB l0_0 l1
  · rw [h1, Bool.false_and, if_neg (by decide)] at h
    cases h
    rw [h1] at hl
    exact impl_DelayOf_w0 A0_0 c0_0 l0_0 A1 c1 l1 a2_0 a2_1 a2_2 a2_3 a2_4 a2_5 a2_6 w hr0_0 hc0_0 hr1 hc1 hl
  · obtain ⟨hm, hr, hn⟩ := loansB_r h1
    rw [h1] at hl
    have ha : impl_areAnyLoans.f l0_0 ([(⟨⟨a2_0, a2_1, a2_2, a2_3⟩, a2_4, a2_5, a2_6⟩ : SimplLoan)] : List SimplLoan) = some (loanB l0_0 ⟨⟨a2_0, a2_1, a2_2, a2_3⟩, a2_4, a2_5, a2_6⟩) := by
      unfold impl_areAnyLoans.f
      rw [hm]
      simp
    cases h2 : loanB l0_0 ⟨⟨a2_0, a2_1, a2_2, a2_3⟩, a2_4, a2_5, a2_6⟩
    · rw [h1, h2, Bool.true_and, if_neg (by decide)] at h
      cases h
      rw [h2] at ha
      exact impl_DelayOf_w1 (hr0_0 := hr0_0) (hc0_0 := hc0_0) (hr1_0 := hr1) (hc1_0 := hc1) (H1 := hl) (H2 := ha)
    · rw [h1, h2, Bool.true_and, if_pos rfl] at h
      rw [h2] at ha
      have hb : (0 ≤ a2_6 ∧ a2_6 ≤ 60) ∧ 0 ≤ a2_5 ∧ a2_5 ≤ a2_6 := by
        unfold loanB at h2
        simp only [Bool.and_eq_true, decide_eq_true_eq] at h2
        exact h2.2
      have := impl_DelayOf_w2 (hr0_0 := hr0_0) (hc0_0 := hc0_0) (hr1_0 := hr1) (hc1_0 := hc1) (H1 := hl) (H2 := ha) (F0 := rangeL_of hm h2) (F1 := hr) (F2 := hb.2.1) (F3 := hb.2.2) (F4 := hb.1.2)
      simp only at h
      rw [h] at this
      exact this
end Go.Proofs.Ytpbboooeahmgpaa.P


namespace Go.Proofs.Ytpbboooeahmgpaa.P
open Go.RowKit Go.Proofs.YtpbboooeahmgpaaW.PrintWords Go.Proofs.YtpbboooeahmgpaaW.PrintLast Go.Proofs.YtpbboooeahmgpaaW.PrintMore
attribute [local go_sem] max2_int min2_int max_two min_two max_three min_three max_four min_four   -- for this text's walks alone
set_option linter.unusedVariables false
set_option linter.unusedSimpArgs false

/-! ### spec_DelayOf: function 26 -/
mutual
def spec_DelayOf.j0 : Nat → List (SimplLoan) → Bool → Int → Int → Int → Int → Bool → Int → Int → Option (Int × Bool)
  | 0, _, _, _, _, _, _, _, _, _ => none
  | k + 1, x1, x18, x560000, x560001, x560002, x560003, x560004, x560005, x560006 => if x18 = true then (some (0, false)) else (spec_DelayOf.l0 k x1 0 x560000 x560001 x560002 x560003 x560004 x560005 x560006)
def spec_DelayOf.l0 : Nat → List (SimplLoan) → Int → Int → Int → Int → Int → Bool → Int → Int → Option (Int × Bool)
  | 0, _, _, _, _, _, _, _, _, _ => none
  | k + 1, x1, x8, x560000, x560001, x560002, x560003, x560004, x560005, x560006 => if (wrap64 (x560006 + x8)) ≤ 60 then ((spec_l10Alone.f k x1 x560000 x560001 x560002 x560003 x560004 (wrap64 (x560005 + x8)) (wrap64 (x560006 + x8))).bind fun t562 => (if t562 = true then (some (x8, true)) else (spec_DelayOf.l0 k x1 (wrap64 (x8 + 1)) x560000 x560001 x560002 x560003 x560004 x560005 x560006))) else (some (0, false))
end
def spec_DelayOf.f (k : Nat) (l0_0 : List (List Int)) (l1 : List (SimplLoan)) (a2_0 : Int) (a2_1 : Int) (a2_2 : Int) (a2_3 : Int) (a2_4 : Bool) (a2_5 : Int) (a2_6 : Int) : Option (Int × Bool) := (spec_l10Loans.f k l0_0 l1).bind fun t560 => (if t560 = true then ((spec_l10Loan.f k l0_0 a2_0 a2_1 a2_2 a2_3 a2_4 a2_5 a2_6).bind fun t561 => (spec_DelayOf.j0 k l1 (!t561) a2_0 a2_1 a2_2 a2_3 a2_4 a2_5 a2_6)) else (spec_DelayOf.j0 k l1 true a2_0 a2_1 a2_2 a2_3 a2_4 a2_5 a2_6))
set_option maxHeartbeats 8000000 in
set_option maxRecDepth 100000 in
theorem spec_DelayOf.calls (k : Nat) (A0_0 : Option Addr) (c0_0 : Nat) (l0_0 : List (List Int)) (A1 : Option Addr) (c1 : Nat) (l1 : List (SimplLoan)) (a2_0 : Int) (a2_1 : Int) (a2_2 : Int) (a2_3 : Int) (a2_4 : Bool) (a2_5 : Int) (a2_6 : Int) (r1 : Int) (r2 : Bool) (w : World) (hr0_0 : Kd.C (Kd.slice 5 (Kd.int .u8)) w A0_0 l0_0.length l0_0) (hc0_0 : l0_0.length ≤ c0_0) (hr1 : Kd.C kimplLoan w A1 l1.length l1) (hc1 : l1.length ≤ c1) (h : spec_DelayOf.f k l0_0 l1 a2_0 a2_1 a2_2 a2_3 a2_4 a2_5 a2_6 = some (r1, r2)) :
    Calls Try.prog 26 #[.agg #[.slice A0_0 l0_0.length c0_0], .slice A1 l1.length c1, .agg #[.int .i64 a2_0, .int .i64 a2_1, .int .i64 a2_2, .int .i64 a2_3, .bool a2_4, .int .i64 a2_5, .int .i64 a2_6]] w fun e w' => e = .returned (.tuple #[.int .i64 r1, .bool r2]) ∧ Below w.heap.size w w' := by
  have hu26 := Try.underlying26
  have hu30 := Try.underlying30
  have hu28 := Try.underlying28
  have HR0_0 := Aside0.mk hr0_0
  have HC0_0 := Aside0.mk hc0_0
  clear hr0_0 hc0_0
  have HR1 := Aside0.mk hr1
  have HC1 := Aside0.mk hc1
  clear hr1 hc1
  have HB := Aside0.mk (Below.refl w.heap.size w)
  have H : ((spec_l10Loans.f k l0_0 l1).bind fun t560 => (if t560 = true then ((spec_l10Loan.f k l0_0 a2_0 a2_1 a2_2 a2_3 a2_4 a2_5 a2_6).bind fun t561 => (spec_DelayOf.j0 k l1 (!t561) a2_0 a2_1 a2_2 a2_3 a2_4 a2_5 a2_6)) else (spec_DelayOf.j0 k l1 true a2_0 a2_1 a2_2 a2_3 a2_4 a2_5 a2_6))) = some (r1, r2) := h
  clear h
  have HC4 := Aside0.mk H
  clear H
  go_enter Try.func26, Try.ntmps26
  go_upto_region 1 with (first | ((with_reducible refine gate_dst (N := 3) rfl ?_); refine box_event ?hg (N := 3) ?hd (cs := #[.slice A0_0 l0_0.length c0_0]) (t := 26) ?hr ?_; (case hd => rfl); (case hg => rfl); (case hr => first | (go_simp; done) | (go_simp; rfl)); intro gb558 hg w5 hbox hb; have n0_ := Aside0.mk (below_step (by repeat (first | (with_reducible first | exact HB.out | apply below_alloc | apply pw_below_drewN | apply below_drew1) | exact HB.out)) hb); have n1_ := Aside0.mk (hbox); have n2_ := Aside0.mk ((by rw [hg]; exact (below_size (by repeat (first | (with_reducible first | exact HB.out | apply below_alloc | apply pw_below_drewN | apply below_drew1) | exact HB.out))) : w.heap.size ≤ gb558)); have n3_ := Aside0.mk ((by rw [hg]; exact (below_size (by repeat (first | (with_reducible first | exact HB.out | apply below_alloc | apply pw_below_drewN | apply below_drew1) | exact HB.out))) : w.heap.size ≤ gb558)); clear HB; have HB := n0_; have BK558 := n1_; have GW558 := n2_; have GE558 := n3_; clear n0_ n1_ n2_ n3_; clear hb hbox hg) | ((with_reducible refine gate_dst (N := 5) rfl ?_); refine box_event ?hg (N := 5) ?hd (cs := #[.int .i64 a2_0, .int .i64 a2_1, .int .i64 a2_2, .int .i64 a2_3, .bool a2_4, .int .i64 a2_5, .int .i64 a2_6]) (t := 30) ?hr ?_; (case hd => rfl); (case hg => rfl); (case hr => first | (go_simp; done) | (go_simp; rfl)); intro gb559 hg w6 hbox hb; have n0_ := Aside0.mk (blk_below (g := gb558) (o := .cells #[.slice A0_0 l0_0.length c0_0] 26 (0, 0)) (by (with_reducible repeat (first | refine blk_drewN ?_ _ | refine blk_drew ?_ | refine blk_alloc ?_ _)); exact BK558.out) hb); have n1_ := Aside0.mk (below_step (by repeat (first | (with_reducible first | exact HB.out | apply below_alloc | apply pw_below_drewN | apply below_drew1 | refine below_set ?_ GE558.out) | exact HB.out)) hb); have n2_ := Aside0.mk (hbox); have n3_ := Aside0.mk ((by rw [hg]; exact (below_size (by repeat (first | (with_reducible first | exact HB.out | apply below_alloc | apply pw_below_drewN | apply below_drew1 | refine below_set ?_ GE558.out) | exact HB.out))) : w.heap.size ≤ gb559)); have n4_ := Aside0.mk ((by rw [hg]; exact (below_size (by repeat (first | (with_reducible first | exact HB.out | apply below_alloc | apply pw_below_drewN | apply below_drew1 | refine below_set ?_ GE558.out) | exact HB.out))) : w.heap.size ≤ gb559)); have n5_ := Aside0.mk ((by rw [hg]; exact Nat.ne_of_lt (blk_lt (g := gb558) (o := .cells #[.slice A0_0 l0_0.length c0_0] 26 (0, 0)) (by (with_reducible repeat (first | refine blk_drewN ?_ _ | refine blk_drew ?_ | refine blk_alloc ?_ _)); exact BK558.out)) : gb558 ≠ gb559)); have n6_ := Aside0.mk ((by rw [hg]; exact Nat.ne_of_gt (blk_lt (g := gb558) (o := .cells #[.slice A0_0 l0_0.length c0_0] 26 (0, 0)) (by (with_reducible repeat (first | refine blk_drewN ?_ _ | refine blk_drew ?_ | refine blk_alloc ?_ _)); exact BK558.out)) : gb559 ≠ gb558)); clear BK558; clear HB; have BK558 := n0_; have HB := n1_; have BK559 := n2_; have GW559 := n3_; have GE559 := n4_; have NB558_559 := n5_; have NB559_558 := n6_; clear n0_ n1_ n2_ n3_ n4_ n5_ n6_; clear hb hbox hg))
  (try simp only [Act.put, List.setIfInBounds_toArray, List.set_cons_zero, List.set_cons_succ])
  go_cut [18] (fun v18 wc => ∃ (kq : Nat) (x18_3 : Bool), v18 = .bool x18_3 ∧ Aside0 (spec_DelayOf.j0 kq l1 x18_3 a2_0 a2_1 a2_2 a2_3 a2_4 a2_5 a2_6 = some (r1, r2)) ∧ Aside0 (kq ≤ k) ∧ Aside0 (wc.heap[gb558]? = some (.cells #[(.slice A0_0 l0_0.length c0_0)] 26 (0, 0))) ∧ Aside0 (wc.heap[gb559]? = some (.cells #[.int .i64 a2_0, .int .i64 a2_1, .int .i64 a2_2, .int .i64 a2_3, .bool a2_4, .int .i64 a2_5, .int .i64 a2_6] 30 (0, 0))) ∧ Aside0 (Below w.heap.size w wc))
  case first =>
    have H := HC4.out
    clear HC4
    replace H := Option.bind_eq_some_iff.mp H
    obtain ⟨t560, A70, H⟩ := H
    replace H : (if t560 = true then ((spec_l10Loan.f k l0_0 a2_0 a2_1 a2_2 a2_3 a2_4 a2_5 a2_6).bind fun t561 => (spec_DelayOf.j0 k l1 (!t561) a2_0 a2_1 a2_2 a2_3 a2_4 a2_5 a2_6)) else (spec_DelayOf.j0 k l1 true a2_0 a2_1 a2_2 a2_3 a2_4 a2_5 a2_6)) = some (r1, r2) := H
    have A7 := Aside0.mk A70
    clear A70
    by_cases c8 : t560 = true
    · subst c8
      have H1 : ((spec_l10Loan.f k l0_0 a2_0 a2_1 a2_2 a2_3 a2_4 a2_5 a2_6).bind fun t561 => (spec_DelayOf.j0 k l1 (!t561) a2_0 a2_1 a2_2 a2_3 a2_4 a2_5 a2_6)) = some (r1, r2) := by rw [if_pos rfl] at H; exact H
      clear H
      have H := H1
      clear H1
      replace H := Option.bind_eq_some_iff.mp H
      obtain ⟨t561, A90, H⟩ := H
      replace H : (spec_DelayOf.j0 k l1 (!t561) a2_0 a2_1 a2_2 a2_3 a2_4 a2_5 a2_6) = some (r1, r2) := H
      have A9 := Aside0.mk A90
      clear A90
      have H' := Aside0.mk H
      clear H
      have hnb10 := NB558_559.out
      have hnc10 := NB559_558.out
      have hcz11_0 : w6.cell? ⟨gb558, 0, none⟩ = some (.slice A0_0 l0_0.length c0_0) := (blk_cell BK558.out 0).trans rfl
      have hfz11_0 := blk_frozen BK558.out 0
      go_wp2_with (first | ((with_reducible refine gate_callee (f := 83) rfl ?_); refine goesL_ (some 11) rfl rfl Try.func83 (by kernel_rfl) rfl #[.agg #[.slice A0_0 l0_0.length c0_0], .slice A1 l1.length c1] rfl (by (try simp only [List.map_toArray, List.map_cons, List.map_nil]); first | done | rfl | (simp only [List.length_drop, List.length_take]; rfl)) ?_; (with_reducible refine (spec_l10Loans.calls k _ _ l0_0 _ _ l1 true _ ?side1 ?side2 ?side3 ?side4 A7.out).mono ?_); (case side1 => repeat (first | exact (Kd.C_below HR0_0.out HB.out) | (with_reducible refine Kd.C_alloc ?_ _) | (with_reducible refine Kd.C_drewN ?_ _) | (with_reducible refine Kd.C_drew ?_))); (case side2 => exact HC0_0.out); (case side3 => repeat (first | exact (Kd.C_below HR1.out HB.out) | (with_reducible refine Kd.C_alloc ?_ _) | (with_reducible refine Kd.C_drewN ?_ _) | (with_reducible refine Kd.C_drew ?_))); (case side4 => exact HC1.out); rintro e w12 ⟨rfl, hb⟩; refine ⟨_, rfl, ?_⟩; have n0_ := Aside0.mk (blk_below (g := gb558) (o := .cells #[.slice A0_0 l0_0.length c0_0] 26 (0, 0)) (by (with_reducible repeat (first | refine blk_drewN ?_ _ | refine blk_drew ?_ | refine blk_alloc ?_ _)); exact BK558.out) hb); have n1_ := Aside0.mk (blk_below (g := gb559) (o := .cells #[.int .i64 a2_0, .int .i64 a2_1, .int .i64 a2_2, .int .i64 a2_3, .bool a2_4, .int .i64 a2_5, .int .i64 a2_6] 30 (0, 0)) (by (with_reducible repeat (first | refine blk_drewN ?_ _ | refine blk_drew ?_ | refine blk_alloc ?_ _)); exact BK559.out) hb); have n2_ := Aside0.mk (below_step (by repeat (first | (with_reducible first | exact HB.out | apply below_alloc | apply pw_below_drewN | apply below_drew1 | refine below_set ?_ GE558.out | refine below_set ?_ GE559.out) | exact HB.out)) hb); clear BK558; clear BK559; clear HB; have BK558 := n0_; have BK559 := n1_; have HB := n2_; clear n0_ n1_ n2_; (try clear hb); (try clear hb2); (try clear hk); (try clear hi); have hcz13_0 : w12.cell? ⟨gb558, 0, none⟩ = some (.slice A0_0 l0_0.length c0_0) := (blk_cell BK558.out 0).trans rfl; have hfz13_0 := blk_frozen BK558.out 0; have hcz14_0 : w12.cell? ⟨gb559, 0, none⟩ = some (.int .i64 a2_0) := (blk_cell BK559.out 0).trans rfl; have hcz14_1 : w12.cell? ⟨gb559, 1, none⟩ = some (.int .i64 a2_1) := (blk_cell BK559.out 1).trans rfl; have hcz14_2 : w12.cell? ⟨gb559, 2, none⟩ = some (.int .i64 a2_2) := (blk_cell BK559.out 2).trans rfl; have hcz14_3 : w12.cell? ⟨gb559, 3, none⟩ = some (.int .i64 a2_3) := (blk_cell BK559.out 3).trans rfl; have hcz14_4 : w12.cell? ⟨gb559, 4, none⟩ = some (.bool a2_4) := (blk_cell BK559.out 4).trans rfl; have hcz14_5 : w12.cell? ⟨gb559, 5, none⟩ = some (.int .i64 a2_5) := (blk_cell BK559.out 5).trans rfl; have hcz14_6 : w12.cell? ⟨gb559, 6, none⟩ = some (.int .i64 a2_6) := (blk_cell BK559.out 6).trans rfl; have hfz14_0 := blk_frozen BK559.out 0; have hfz14_1 := blk_frozen BK559.out 1; have hfz14_2 := blk_frozen BK559.out 2; have hfz14_3 := blk_frozen BK559.out 3; have hfz14_4 := blk_frozen BK559.out 4; have hfz14_5 := blk_frozen BK559.out 5; have hfz14_6 := blk_frozen BK559.out 6) | (go_at_call 70; (with_reducible refine (spec_l10Loan.calls k _ _ l0_0 a2_0 a2_1 a2_2 a2_3 a2_4 a2_5 a2_6 t561 _ ?side1 ?side2 A9.out).mono ?_); (case side1 => repeat (first | exact (Kd.C_below HR0_0.out HB.out) | (with_reducible refine Kd.C_alloc ?_ _) | (with_reducible refine Kd.C_drewN ?_ _) | (with_reducible refine Kd.C_drew ?_))); (case side2 => exact HC0_0.out); rintro e w15 ⟨rfl, hb⟩; have n0_ := Aside0.mk (blk_below (g := gb558) (o := .cells #[.slice A0_0 l0_0.length c0_0] 26 (0, 0)) (by (with_reducible repeat (first | refine blk_drewN ?_ _ | refine blk_drew ?_ | refine blk_alloc ?_ _)); exact BK558.out) hb); have n1_ := Aside0.mk (blk_below (g := gb559) (o := .cells #[.int .i64 a2_0, .int .i64 a2_1, .int .i64 a2_2, .int .i64 a2_3, .bool a2_4, .int .i64 a2_5, .int .i64 a2_6] 30 (0, 0)) (by (with_reducible repeat (first | refine blk_drewN ?_ _ | refine blk_drew ?_ | refine blk_alloc ?_ _)); exact BK559.out) hb); have n2_ := Aside0.mk (below_step (by repeat (first | (with_reducible first | exact HB.out | apply below_alloc | apply pw_below_drewN | apply below_drew1 | refine below_set ?_ GE558.out | refine below_set ?_ GE559.out) | exact HB.out)) hb); clear BK558; clear BK559; clear HB; have BK558 := n0_; have BK559 := n1_; have HB := n2_; clear n0_ n1_ n2_; (try clear hb); (try clear hb2); (try clear hk); (try clear hi)))
      go_meet
      case rel => exact ⟨_, (!t561), (by first | rfl | (simp; done) | (simp [*]; done)), H', ⟨by first | omega | exact Nat.le_refl _⟩, ⟨by (with_reducible repeat (first | refine blk_drewN ?_ _ | refine blk_drew ?_ | refine blk_alloc ?_ _)); exact BK558.out⟩, ⟨by (with_reducible repeat (first | refine blk_drewN ?_ _ | refine blk_drew ?_ | refine blk_alloc ?_ _)); exact BK559.out⟩, ⟨by repeat (first | (with_reducible first | exact HB.out | apply below_alloc | apply pw_below_drewN | apply below_drew1 | refine below_set ?_ GE558.out | refine below_set ?_ GE559.out) | exact HB.out)⟩⟩
    · replace c8 := Bool.eq_false_iff.mpr c8
      subst c8
      have H1 : (spec_DelayOf.j0 k l1 true a2_0 a2_1 a2_2 a2_3 a2_4 a2_5 a2_6) = some (r1, r2) := by rw [if_neg (show ¬ (false = true) by decide)] at H; exact H
      clear H
      have H := H1
      clear H1
      have H' := Aside0.mk H
      clear H
      have hnb16 := NB558_559.out
      have hnc16 := NB559_558.out
      have hcz17_0 : w6.cell? ⟨gb558, 0, none⟩ = some (.slice A0_0 l0_0.length c0_0) := (blk_cell BK558.out 0).trans rfl
      have hfz17_0 := blk_frozen BK558.out 0
      go_wp2_with (first | ((with_reducible refine gate_callee (f := 83) rfl ?_); refine goesL_ (some 11) rfl rfl Try.func83 (by kernel_rfl) rfl #[.agg #[.slice A0_0 l0_0.length c0_0], .slice A1 l1.length c1] rfl (by (try simp only [List.map_toArray, List.map_cons, List.map_nil]); first | done | rfl | (simp only [List.length_drop, List.length_take]; rfl)) ?_; (with_reducible refine (spec_l10Loans.calls k _ _ l0_0 _ _ l1 false _ ?side1 ?side2 ?side3 ?side4 A7.out).mono ?_); (case side1 => repeat (first | exact (Kd.C_below HR0_0.out HB.out) | (with_reducible refine Kd.C_alloc ?_ _) | (with_reducible refine Kd.C_drewN ?_ _) | (with_reducible refine Kd.C_drew ?_))); (case side2 => exact HC0_0.out); (case side3 => repeat (first | exact (Kd.C_below HR1.out HB.out) | (with_reducible refine Kd.C_alloc ?_ _) | (with_reducible refine Kd.C_drewN ?_ _) | (with_reducible refine Kd.C_drew ?_))); (case side4 => exact HC1.out); rintro e w18 ⟨rfl, hb⟩; refine ⟨_, rfl, ?_⟩; have n0_ := Aside0.mk (blk_below (g := gb558) (o := .cells #[.slice A0_0 l0_0.length c0_0] 26 (0, 0)) (by (with_reducible repeat (first | refine blk_drewN ?_ _ | refine blk_drew ?_ | refine blk_alloc ?_ _)); exact BK558.out) hb); have n1_ := Aside0.mk (blk_below (g := gb559) (o := .cells #[.int .i64 a2_0, .int .i64 a2_1, .int .i64 a2_2, .int .i64 a2_3, .bool a2_4, .int .i64 a2_5, .int .i64 a2_6] 30 (0, 0)) (by (with_reducible repeat (first | refine blk_drewN ?_ _ | refine blk_drew ?_ | refine blk_alloc ?_ _)); exact BK559.out) hb); have n2_ := Aside0.mk (below_step (by repeat (first | (with_reducible first | exact HB.out | apply below_alloc | apply pw_below_drewN | apply below_drew1 | refine below_set ?_ GE558.out | refine below_set ?_ GE559.out) | exact HB.out)) hb); clear BK558; clear BK559; clear HB; have BK558 := n0_; have BK559 := n1_; have HB := n2_; clear n0_ n1_ n2_; (try clear hb); (try clear hb2); (try clear hk); (try clear hi)))
      go_meet
      case rel => exact ⟨_, (true), (by first | rfl | (simp; done) | (simp [*]; done)), H', ⟨by first | omega | exact Nat.le_refl _⟩, ⟨by (with_reducible repeat (first | refine blk_drewN ?_ _ | refine blk_drew ?_ | refine blk_alloc ?_ _)); exact BK558.out⟩, ⟨by (with_reducible repeat (first | refine blk_drewN ?_ _ | refine blk_drew ?_ | refine blk_alloc ?_ _)); exact BK559.out⟩, ⟨by repeat (first | (with_reducible first | exact HB.out | apply below_alloc | apply pw_below_drewN | apply below_drew1 | refine below_set ?_ GE558.out | refine below_set ?_ GE559.out) | exact HB.out)⟩⟩
  case rest =>
    clear HC4
    try clear c1
    try clear c2
    try clear p2
    try clear c8
    try clear c10
    try clear c16
    try clear hcz11_0
    try clear hcz13_0
    try clear hcz14_0
    try clear hcz14_1
    try clear hcz14_2
    try clear hcz14_3
    try clear hcz14_4
    try clear hcz14_5
    try clear hcz14_6
    try clear hcz17_0
    try clear hfz11_0
    try clear hfz13_0
    try clear hfz14_0
    try clear hfz14_1
    try clear hfz14_2
    try clear hfz14_3
    try clear hfz14_4
    try clear hfz14_5
    try clear hfz14_6
    try clear hfz17_0
    obtain ⟨kq, x18_3, rfl, HA, HJ3, BK558, BK559, HB⟩ := hcut
    cases kq with
    | zero => exact absurd HA.out (by simp [spec_DelayOf.j0])
    | succ kj3 =>
      have H := HA.out
      clear HA
      simp only [spec_DelayOf.j0] at H
      by_cases c19 : x18_3 = true
      · subst c19
        have H1 : (some (0, false)) = some (r1, r2) := by rw [if_pos rfl] at H; exact H
        clear H
        have H := H1
        clear H1
        simp only [Option.some.injEq, Prod.mk.injEq] at H
        obtain ⟨rfl, rfl⟩ := H
        go_wp2
        go_ret2
        exact ⟨by first | rfl | (simp [errW_none, errW_some] <;> rfl) | (simp [*, errW_none, errW_some] <;> rfl), by repeat (first | (with_reducible first | exact HB.out | apply below_alloc | apply pw_below_drewN | apply below_drew1 | refine below_set ?_ GE558.out | refine below_set ?_ GE559.out) | exact HB.out)⟩
      · replace c19 := Bool.eq_false_iff.mpr c19
        subst c19
        have H1 : (spec_DelayOf.l0 kj3 l1 0 a2_0 a2_1 a2_2 a2_3 a2_4 a2_5 a2_6) = some (r1, r2) := by rw [if_neg (show ¬ (false = true) by decide)] at H; exact H
        clear H
        have H := H1
        clear H1
        have H' := Aside0.mk H
        clear H
        go_wp2
        go_loopg [8] kj3 (fun kq v8 w' => ∃ (x8_2 : Int), v8 = .int .i64 x8_2 ∧ Aside0 (spec_DelayOf.l0 kq l1 x8_2 a2_0 a2_1 a2_2 a2_3 a2_4 a2_5 a2_6 = some (r1, r2)) ∧ Aside0 (kq ≤ kj3) ∧ Aside0 (w'.heap[gb558]? = some (.cells #[(.slice A0_0 l0_0.length c0_0)] 26 (0, 0))) ∧ Aside0 (w'.heap[gb559]? = some (.cells #[.int .i64 a2_0, .int .i64 a2_1, .int .i64 a2_2, .int .i64 a2_3, .bool a2_4, .int .i64 a2_5, .int .i64 a2_6] 30 (0, 0))) ∧ Aside0 (Below w.heap.size w w'))
        case atStart => exact ⟨(0), (by first | rfl | (simp; done) | (simp [*]; done)), H', ⟨Nat.le_refl _⟩, ⟨by (with_reducible repeat (first | refine blk_drewN ?_ _ | refine blk_drew ?_ | refine blk_alloc ?_ _)); exact BK558.out⟩, ⟨by (with_reducible repeat (first | refine blk_drewN ?_ _ | refine blk_drew ?_ | refine blk_alloc ?_ _)); exact BK559.out⟩, ⟨by repeat (first | (with_reducible first | exact HB.out | apply below_alloc | apply pw_below_drewN | apply below_drew1 | refine below_set ?_ GE558.out | refine below_set ?_ GE559.out) | exact HB.out)⟩⟩
        case round =>
          clear H'
          try clear c1
          try clear c2
          try clear p2
          try clear c8
          try clear c10
          try clear c16
          try clear c19
          try clear hcz11_0
          try clear hcz13_0
          try clear hcz14_0
          try clear hcz14_1
          try clear hcz14_2
          try clear hcz14_3
          try clear hcz14_4
          try clear hcz14_5
          try clear hcz14_6
          try clear hcz17_0
          try clear hfz11_0
          try clear hfz13_0
          try clear hfz14_0
          try clear hfz14_1
          try clear hfz14_2
          try clear hfz14_3
          try clear hfz14_4
          try clear hfz14_5
          try clear hfz14_6
          try clear hfz17_0
          try clear p2
          obtain ⟨x8_2, rfl, HA, HK2, BK558, BK559, HB⟩ := hrel
          cases gk with
          | zero => exact absurd HA.out (by simp [spec_DelayOf.l0])
          | succ k2 =>
            have H := HA.out
            clear HA
            simp only [spec_DelayOf.l0] at H
            by_cases c20 : (wrap64 (a2_6 + x8_2)) ≤ 60
            · rw [if_pos c20] at H
              have c20b0 : decide ((wrap64 (a2_6 + x8_2)) ≤ 60) = true := decide_eq_true c20
              clear c20
              replace H := Option.bind_eq_some_iff.mp H
              obtain ⟨t562, A210, H⟩ := H
              replace H : (if t562 = true then (some (x8_2, true)) else (spec_DelayOf.l0 k2 l1 (wrap64 (x8_2 + 1)) a2_0 a2_1 a2_2 a2_3 a2_4 a2_5 a2_6)) = some (r1, r2) := H
              have A21 := Aside0.mk A210
              clear A210
              by_cases c22 : t562 = true
              · subst c22
                have H1 : (some (x8_2, true)) = some (r1, r2) := by rw [if_pos rfl] at H; exact H
                clear H
                have H := H1
                clear H1
                simp only [Option.some.injEq, Prod.mk.injEq] at H
                obtain ⟨rfl, rfl⟩ := H
                have hnb23 := NB559_558.out
                have hnc23 := NB558_559.out
                have hcz24_0 : wr.cell? ⟨gb559, 0, none⟩ = some (.int .i64 a2_0) := (blk_cell BK559.out 0).trans rfl
                have hcz24_1 : wr.cell? ⟨gb559, 1, none⟩ = some (.int .i64 a2_1) := (blk_cell BK559.out 1).trans rfl
                have hcz24_2 : wr.cell? ⟨gb559, 2, none⟩ = some (.int .i64 a2_2) := (blk_cell BK559.out 2).trans rfl
                have hcz24_3 : wr.cell? ⟨gb559, 3, none⟩ = some (.int .i64 a2_3) := (blk_cell BK559.out 3).trans rfl
                have hcz24_4 : wr.cell? ⟨gb559, 4, none⟩ = some (.bool a2_4) := (blk_cell BK559.out 4).trans rfl
                have hcz24_5 : wr.cell? ⟨gb559, 5, none⟩ = some (.int .i64 a2_5) := (blk_cell BK559.out 5).trans rfl
                have hcz24_6 : wr.cell? ⟨gb559, 6, none⟩ = some (.int .i64 a2_6) := (blk_cell BK559.out 6).trans rfl
                have hfz24_0 := blk_frozen BK559.out 0
                have hfz24_1 := blk_frozen BK559.out 1
                have hfz24_2 := blk_frozen BK559.out 2
                have hfz24_3 := blk_frozen BK559.out 3
                have hfz24_4 := blk_frozen BK559.out 4
                have hfz24_5 := blk_frozen BK559.out 5
                have hfz24_6 := blk_frozen BK559.out 6
                go_wp2_with (first | ((with_reducible refine gate_callee (f := 84) rfl ?_); refine goesL_ (some 40) rfl rfl Try.func84 (by kernel_rfl) rfl #[.slice A1 l1.length c1, .agg #[.int .i64 a2_0, .int .i64 a2_1, .int .i64 a2_2, .int .i64 a2_3, .bool a2_4, .int .i64 (wrap64 (a2_5 + x8_2)), .int .i64 (wrap64 (a2_6 + x8_2))]] rfl (by (try simp only [List.map_toArray, List.map_cons, List.map_nil]); first | done | rfl | (simp only [List.length_drop, List.length_take]; rfl)) ?_; (with_reducible refine (spec_l10Alone.calls k2 _ _ l1 a2_0 a2_1 a2_2 a2_3 a2_4 (wrap64 (a2_5 + x8_2)) (wrap64 (a2_6 + x8_2)) true _ ?side1 ?side2 A21.out).mono ?_); (case side1 => repeat (first | exact (Kd.C_below HR1.out HB.out) | (with_reducible refine Kd.C_alloc ?_ _) | (with_reducible refine Kd.C_drewN ?_ _) | (with_reducible refine Kd.C_drew ?_))); (case side2 => exact HC1.out); rintro e w25 ⟨rfl, hb⟩; refine ⟨_, rfl, ?_⟩; have n0_ := Aside0.mk (blk_below (g := gb558) (o := .cells #[.slice A0_0 l0_0.length c0_0] 26 (0, 0)) (by (with_reducible repeat (first | refine blk_drewN ?_ _ | refine blk_drew ?_ | refine blk_alloc ?_ _)); exact BK558.out) hb); have n1_ := Aside0.mk (blk_below (g := gb559) (o := .cells #[.int .i64 a2_0, .int .i64 a2_1, .int .i64 a2_2, .int .i64 a2_3, .bool a2_4, .int .i64 a2_5, .int .i64 a2_6] 30 (0, 0)) (by (with_reducible repeat (first | refine blk_drewN ?_ _ | refine blk_drew ?_ | refine blk_alloc ?_ _)); exact BK559.out) hb); have n2_ := Aside0.mk (below_step (by repeat (first | (with_reducible first | exact HB.out | apply below_alloc | apply pw_below_drewN | apply below_drew1 | refine below_set ?_ GE558.out | refine below_set ?_ GE559.out) | exact HB.out)) hb); clear BK558; clear BK559; clear HB; have BK558 := n0_; have BK559 := n1_; have HB := n2_; clear n0_ n1_ n2_; (try clear hb); (try clear hb2); (try clear hk); (try clear hi)))
                go_ret2
                exact ⟨by first | rfl | (simp [errW_none, errW_some] <;> rfl) | (simp [*, errW_none, errW_some] <;> rfl), by repeat (first | (with_reducible first | exact HB.out | apply below_alloc | apply pw_below_drewN | apply below_drew1 | refine below_set ?_ GE558.out | refine below_set ?_ GE559.out) | exact HB.out)⟩
              · replace c22 := Bool.eq_false_iff.mpr c22
                subst c22
                have H1 : (spec_DelayOf.l0 k2 l1 (wrap64 (x8_2 + 1)) a2_0 a2_1 a2_2 a2_3 a2_4 a2_5 a2_6) = some (r1, r2) := by rw [if_neg (show ¬ (false = true) by decide)] at H; exact H
                clear H
                have H := H1
                clear H1
                have H' := Aside0.mk H
                clear H
                have hnb26 := NB559_558.out
                have hnc26 := NB558_559.out
                have hcz27_0 : wr.cell? ⟨gb559, 0, none⟩ = some (.int .i64 a2_0) := (blk_cell BK559.out 0).trans rfl
                have hcz27_1 : wr.cell? ⟨gb559, 1, none⟩ = some (.int .i64 a2_1) := (blk_cell BK559.out 1).trans rfl
                have hcz27_2 : wr.cell? ⟨gb559, 2, none⟩ = some (.int .i64 a2_2) := (blk_cell BK559.out 2).trans rfl
                have hcz27_3 : wr.cell? ⟨gb559, 3, none⟩ = some (.int .i64 a2_3) := (blk_cell BK559.out 3).trans rfl
                have hcz27_4 : wr.cell? ⟨gb559, 4, none⟩ = some (.bool a2_4) := (blk_cell BK559.out 4).trans rfl
                have hcz27_5 : wr.cell? ⟨gb559, 5, none⟩ = some (.int .i64 a2_5) := (blk_cell BK559.out 5).trans rfl
                have hcz27_6 : wr.cell? ⟨gb559, 6, none⟩ = some (.int .i64 a2_6) := (blk_cell BK559.out 6).trans rfl
                have hfz27_0 := blk_frozen BK559.out 0
                have hfz27_1 := blk_frozen BK559.out 1
                have hfz27_2 := blk_frozen BK559.out 2
                have hfz27_3 := blk_frozen BK559.out 3
                have hfz27_4 := blk_frozen BK559.out 4
                have hfz27_5 := blk_frozen BK559.out 5
                have hfz27_6 := blk_frozen BK559.out 6
                go_wp2_with (first | ((with_reducible refine gate_callee (f := 84) rfl ?_); refine goesL_ (some 40) rfl rfl Try.func84 (by kernel_rfl) rfl #[.slice A1 l1.length c1, .agg #[.int .i64 a2_0, .int .i64 a2_1, .int .i64 a2_2, .int .i64 a2_3, .bool a2_4, .int .i64 (wrap64 (a2_5 + x8_2)), .int .i64 (wrap64 (a2_6 + x8_2))]] rfl (by (try simp only [List.map_toArray, List.map_cons, List.map_nil]); first | done | rfl | (simp only [List.length_drop, List.length_take]; rfl)) ?_; (with_reducible refine (spec_l10Alone.calls k2 _ _ l1 a2_0 a2_1 a2_2 a2_3 a2_4 (wrap64 (a2_5 + x8_2)) (wrap64 (a2_6 + x8_2)) false _ ?side1 ?side2 A21.out).mono ?_); (case side1 => repeat (first | exact (Kd.C_below HR1.out HB.out) | (with_reducible refine Kd.C_alloc ?_ _) | (with_reducible refine Kd.C_drewN ?_ _) | (with_reducible refine Kd.C_drew ?_))); (case side2 => exact HC1.out); rintro e w28 ⟨rfl, hb⟩; refine ⟨_, rfl, ?_⟩; have n0_ := Aside0.mk (blk_below (g := gb558) (o := .cells #[.slice A0_0 l0_0.length c0_0] 26 (0, 0)) (by (with_reducible repeat (first | refine blk_drewN ?_ _ | refine blk_drew ?_ | refine blk_alloc ?_ _)); exact BK558.out) hb); have n1_ := Aside0.mk (blk_below (g := gb559) (o := .cells #[.int .i64 a2_0, .int .i64 a2_1, .int .i64 a2_2, .int .i64 a2_3, .bool a2_4, .int .i64 a2_5, .int .i64 a2_6] 30 (0, 0)) (by (with_reducible repeat (first | refine blk_drewN ?_ _ | refine blk_drew ?_ | refine blk_alloc ?_ _)); exact BK559.out) hb); have n2_ := Aside0.mk (below_step (by repeat (first | (with_reducible first | exact HB.out | apply below_alloc | apply pw_below_drewN | apply below_drew1 | refine below_set ?_ GE558.out | refine below_set ?_ GE559.out) | exact HB.out)) hb); clear BK558; clear BK559; clear HB; have BK558 := n0_; have BK559 := n1_; have HB := n2_; clear n0_ n1_ n2_; (try clear hb); (try clear hb2); (try clear hk); (try clear hi)))
                go_roundg k2
                case measure => have := HJ3.out; have := HK2.out; omega
                case rel => exact ⟨(wrap64 (x8_2 + 1)), (by first | rfl | (simp; done) | (simp [*]; done)), H', ⟨by have := HJ3.out; have := HK2.out; omega⟩, ⟨by (with_reducible repeat (first | refine blk_drewN ?_ _ | refine blk_drew ?_ | refine blk_alloc ?_ _)); exact BK558.out⟩, ⟨by (with_reducible repeat (first | refine blk_drewN ?_ _ | refine blk_drew ?_ | refine blk_alloc ?_ _)); exact BK559.out⟩, ⟨by repeat (first | (with_reducible first | exact HB.out | apply below_alloc | apply pw_below_drewN | apply below_drew1 | refine below_set ?_ GE558.out | refine below_set ?_ GE559.out) | exact HB.out)⟩⟩
            · rw [if_neg c20] at H
              have c20b0 : decide ((wrap64 (a2_6 + x8_2)) ≤ 60) = false := decide_eq_false c20
              clear c20
              simp only [Option.some.injEq, Prod.mk.injEq] at H
              obtain ⟨rfl, rfl⟩ := H
              have hnb29 := NB559_558.out
              have hnc29 := NB558_559.out
              have hcz30_0 : wr.cell? ⟨gb559, 0, none⟩ = some (.int .i64 a2_0) := (blk_cell BK559.out 0).trans rfl
              have hcz30_1 : wr.cell? ⟨gb559, 1, none⟩ = some (.int .i64 a2_1) := (blk_cell BK559.out 1).trans rfl
              have hcz30_2 : wr.cell? ⟨gb559, 2, none⟩ = some (.int .i64 a2_2) := (blk_cell BK559.out 2).trans rfl
              have hcz30_3 : wr.cell? ⟨gb559, 3, none⟩ = some (.int .i64 a2_3) := (blk_cell BK559.out 3).trans rfl
              have hcz30_4 : wr.cell? ⟨gb559, 4, none⟩ = some (.bool a2_4) := (blk_cell BK559.out 4).trans rfl
              have hcz30_5 : wr.cell? ⟨gb559, 5, none⟩ = some (.int .i64 a2_5) := (blk_cell BK559.out 5).trans rfl
              have hcz30_6 : wr.cell? ⟨gb559, 6, none⟩ = some (.int .i64 a2_6) := (blk_cell BK559.out 6).trans rfl
              have hfz30_0 := blk_frozen BK559.out 0
              have hfz30_1 := blk_frozen BK559.out 1
              have hfz30_2 := blk_frozen BK559.out 2
              have hfz30_3 := blk_frozen BK559.out 3
              have hfz30_4 := blk_frozen BK559.out 4
              have hfz30_5 := blk_frozen BK559.out 5
              have hfz30_6 := blk_frozen BK559.out 6
              go_wp2
              go_ret2
              exact ⟨by first | rfl | (simp [errW_none, errW_some] <;> rfl) | (simp [*, errW_none, errW_some] <;> rfl), by repeat (first | (with_reducible first | exact HB.out | apply below_alloc | apply pw_below_drewN | apply below_drew1 | refine below_set ?_ GE558.out | refine below_set ?_ GE559.out) | exact HB.out)⟩

end Go.Proofs.Ytpbboooeahmgpaa.P


namespace Go.Proofs.Ytpbboooeahmgpaa.P
open Go.RowKit Go.Proofs.YtpbboooeahmgpaaW.PrintWords Go.Proofs.YtpbboooeahmgpaaW.PrintLast Go.Proofs.YtpbboooeahmgpaaW.PrintMore
attribute [local go_sem] max2_int min2_int max_two min_two max_three min_three max_four min_four   -- for this text's walks alone
set_option linter.unusedVariables false
set_option linter.unusedSimpArgs false

/-! ### laws_FnExactDelayOf: function 4 -/
def laws_FnExactDelayOf.j0 : Nat → List (SlawsLoan) → List (SimplLoan) → Bool → List (List Int) → List (List Int) → Option (Bool)
  | 0, _, _, _, _, _ => none
  | k + 1, x1, x11, x53, x611000, x633000 => if x53 = true then (some false) else ((laws_toMemory.f x611000).bind fun t645 => ((laws_eqMemory.f k x633000 t645).bind fun t648 => (if t648 = true then ((laws_toLoanS.f k x1).bind fun t649 => ((laws_eqLoanS.f k x11 t649).bind fun t652 => (if t652 = true then (some true) else (some false)))) else (some false))))
def laws_FnExactDelayOf.f (k : Nat) (l0_0 : List (List Int)) (l1 : List (SlawsLoan)) (a2_0 : Int) (a2_1 : Int) (a2_2 : Int) (a2_3 : Int) (a2_4 : Bool) (a2_5 : Int) (a2_6 : Int) : Option (Bool) := (laws_szMemory.f k l0_0 1048576).bind fun t612 => (if t612 < 0 then (some true) else ((laws_szLoanS.f l1 t612).bind fun t613 => (if t613 < 0 then (some true) else ((laws_toMemory.f l0_0).bind fun t614 => ((laws_toLoanS.f k l1).bind fun t617 => ((laws_toLoan.f a2_0 a2_1 a2_2 a2_3 a2_4 a2_5 a2_6).bind fun bt620 => ((spec_DelayOf.f k t614 t617 bt620.1 bt620.2.1 bt620.2.2.1 bt620.2.2.2.1 bt620.2.2.2.2.1 bt620.2.2.2.2.2.1 bt620.2.2.2.2.2.2).bind fun bt627 => ((laws_toMemory.f l0_0).bind fun t629 => ((laws_toLoanS.f k l1).bind fun t633 => ((laws_toLoan.f a2_0 a2_1 a2_2 a2_3 a2_4 a2_5 a2_6).bind fun bt636 => ((impl_DelayOf.f t629 t633 bt636.1 bt636.2.1 bt636.2.2.1 bt636.2.2.2.1 bt636.2.2.2.2.1 bt636.2.2.2.2.2.1 bt636.2.2.2.2.2.2).bind fun bt643 => (if bt643.1 = bt627.1 then (laws_FnExactDelayOf.j0 k l1 t633 (bt643.2 != bt627.2) l0_0 t629) else (laws_FnExactDelayOf.j0 k l1 t633 true l0_0 t629)))))))))))))
def laws_FnExactDelayOf.T8 : Bool × List (List Nat × List Nat) := (true, [([], []), ([0], [0]), ([], []), ([2, 1], [2]), ([], []), ([4, 3], [4]), ([1, 3, 5, 5], [1, 3, 5]), ([6], [6]), ([7], [7]), ([7], [7]), ([8, 6, 0, 1, 2, 3, 4, 5, 6, 7, 8], [8]), ([9, 10, 0, 1, 2, 3, 4, 5, 6, 7, 8, 9, 10], [9])])
def laws_FnExactDelayOf.B8 : List Nat := [0, 1, 0, 7, 0, 31, 63, 127, 255, 255, 511, 2047]
theorem laws_FnExactDelayOf.tab8 : rtab .any (opsOf Try.f4 8) = laws_FnExactDelayOf.T8 := by kernel_rfl
theorem laws_FnExactDelayOf.bits8 : waitsOk laws_FnExactDelayOf.T8.2 laws_FnExactDelayOf.B8 = true := by kernel_rfl
def laws_FnExactDelayOf.T11 : Bool × List (List Nat × List Nat) := (true, [([], []), ([], []), ([], []), ([2], [2]), ([0, 1, 3, 3], [0, 1, 3]), ([4], [4]), ([5], [5]), ([5], [5]), ([6, 4, 0, 1, 2, 3, 4, 5, 6], [6]), ([7, 8, 0, 1, 2, 3, 4, 5, 6, 7, 8], [7])])
def laws_FnExactDelayOf.B11 : List Nat := [0, 0, 0, 4, 15, 31, 63, 63, 127, 511]
theorem laws_FnExactDelayOf.tab11 : rtab .any (opsOf Try.f4 11) = laws_FnExactDelayOf.T11 := by kernel_rfl
theorem laws_FnExactDelayOf.bits11 : waitsOk laws_FnExactDelayOf.T11.2 laws_FnExactDelayOf.B11 = true := by kernel_rfl
set_option maxHeartbeats 8000000 in
set_option maxRecDepth 100000 in
theorem laws_FnExactDelayOf.calls (k : Nat) (A0_0 : Option Addr) (c0_0 : Nat) (l0_0 : List (List Int)) (A1 : Option Addr) (c1 : Nat) (l1 : List (SlawsLoan)) (a2_0 : Int) (a2_1 : Int) (a2_2 : Int) (a2_3 : Int) (a2_4 : Bool) (a2_5 : Int) (a2_6 : Int) (r : Bool) (w : World) (hr0_0 : Kd.C (Kd.slice 5 (Kd.int .u8)) w A0_0 l0_0.length l0_0) (hc0_0 : l0_0.length ≤ c0_0) (hr1 : Kd.C klawsLoan w A1 l1.length l1) (hc1 : l1.length ≤ c1) (h : laws_FnExactDelayOf.f k l0_0 l1 a2_0 a2_1 a2_2 a2_3 a2_4 a2_5 a2_6 = some r) :
    Calls Try.prog 4 #[.agg #[.slice A0_0 l0_0.length c0_0], .slice A1 l1.length c1, .agg #[.int .i64 a2_0, .int .i64 a2_1, .int .i64 a2_2, .int .i64 a2_3, .bool a2_4, .int .i64 a2_5, .int .i64 a2_6]] w fun e w' => e = .returned (.bool r) ∧ Below w.heap.size w w' := by
  have hu49 := Try.underlying49
  have hu53 := Try.underlying53
  have hu26 := Try.underlying26
  have HR0_0 := Aside0.mk hr0_0
  have HC0_0 := Aside0.mk hc0_0
  clear hr0_0 hc0_0
  have HR1 := Aside0.mk hr1
  have HC1 := Aside0.mk hc1
  clear hr1 hc1
  have HB := Aside0.mk (Below.refl w.heap.size w)
  have H : ((laws_szMemory.f k l0_0 1048576).bind fun t612 => (if t612 < 0 then (some true) else ((laws_szLoanS.f l1 t612).bind fun t613 => (if t613 < 0 then (some true) else ((laws_toMemory.f l0_0).bind fun t614 => ((laws_toLoanS.f k l1).bind fun t617 => ((laws_toLoan.f a2_0 a2_1 a2_2 a2_3 a2_4 a2_5 a2_6).bind fun bt620 => ((spec_DelayOf.f k t614 t617 bt620.1 bt620.2.1 bt620.2.2.1 bt620.2.2.2.1 bt620.2.2.2.2.1 bt620.2.2.2.2.2.1 bt620.2.2.2.2.2.2).bind fun bt627 => ((laws_toMemory.f l0_0).bind fun t629 => ((laws_toLoanS.f k l1).bind fun t633 => ((laws_toLoan.f a2_0 a2_1 a2_2 a2_3 a2_4 a2_5 a2_6).bind fun bt636 => ((impl_DelayOf.f t629 t633 bt636.1 bt636.2.1 bt636.2.2.1 bt636.2.2.2.1 bt636.2.2.2.2.1 bt636.2.2.2.2.2.1 bt636.2.2.2.2.2.2).bind fun bt643 => (if bt643.1 = bt627.1 then (laws_FnExactDelayOf.j0 k l1 t633 (bt643.2 != bt627.2) l0_0 t629) else (laws_FnExactDelayOf.j0 k l1 t633 true l0_0 t629)))))))))))))) = some r := h
  clear h
  replace H := Option.bind_eq_some_iff.mp H
  obtain ⟨t612, A40, H⟩ := H
  replace H : (if t612 < 0 then (some true) else ((laws_szLoanS.f l1 t612).bind fun t613 => (if t613 < 0 then (some true) else ((laws_toMemory.f l0_0).bind fun t614 => ((laws_toLoanS.f k l1).bind fun t617 => ((laws_toLoan.f a2_0 a2_1 a2_2 a2_3 a2_4 a2_5 a2_6).bind fun bt620 => ((spec_DelayOf.f k t614 t617 bt620.1 bt620.2.1 bt620.2.2.1 bt620.2.2.2.1 bt620.2.2.2.2.1 bt620.2.2.2.2.2.1 bt620.2.2.2.2.2.2).bind fun bt627 => ((laws_toMemory.f l0_0).bind fun t629 => ((laws_toLoanS.f k l1).bind fun t633 => ((laws_toLoan.f a2_0 a2_1 a2_2 a2_3 a2_4 a2_5 a2_6).bind fun bt636 => ((impl_DelayOf.f t629 t633 bt636.1 bt636.2.1 bt636.2.2.1 bt636.2.2.2.1 bt636.2.2.2.2.1 bt636.2.2.2.2.2.1 bt636.2.2.2.2.2.2).bind fun bt643 => (if bt643.1 = bt627.1 then (laws_FnExactDelayOf.j0 k l1 t633 (bt643.2 != bt627.2) l0_0 t629) else (laws_FnExactDelayOf.j0 k l1 t633 true l0_0 t629))))))))))))) = some r := H
  have A4 := Aside0.mk A40
  clear A40
  by_cases c5 : t612 < 0
  · rw [if_pos c5] at H
    have c5b0 : decide (t612 < 0) = true := decide_eq_true c5
    clear c5
    obtain rfl := Option.some.inj H
    go_enter Try.func4, Try.ntmps4
    go_wp2_with (first | ((with_reducible refine gate_dst (N := 3) rfl ?_); refine box_event ?hg (N := 3) ?hd (cs := #[.slice A0_0 l0_0.length c0_0]) (t := 49) ?hr ?_; (case hd => rfl); (case hg => rfl); (case hr => first | (go_simp; done) | (go_simp; rfl)); intro gb610 hg w6 hbox hb; have n0_ := Aside0.mk (below_step (by repeat (first | (with_reducible first | exact HB.out | apply below_alloc | apply pw_below_drewN | apply below_drew1) | exact HB.out)) hb); have n1_ := Aside0.mk (hbox); have n2_ := Aside0.mk ((by rw [hg]; exact (below_size (by repeat (first | (with_reducible first | exact HB.out | apply below_alloc | apply pw_below_drewN | apply below_drew1) | exact HB.out))) : w.heap.size ≤ gb610)); have n3_ := Aside0.mk ((by rw [hg]; exact (below_size (by repeat (first | (with_reducible first | exact HB.out | apply below_alloc | apply pw_below_drewN | apply below_drew1) | exact HB.out))) : w.heap.size ≤ gb610)); clear HB; have HB := n0_; have BK610 := n1_; have GW610 := n2_; have GE610 := n3_; clear n0_ n1_ n2_ n3_; clear hb hbox hg) | ((with_reducible refine gate_dst (N := 5) rfl ?_); refine box_event ?hg (N := 5) ?hd (cs := #[.int .i64 a2_0, .int .i64 a2_1, .int .i64 a2_2, .int .i64 a2_3, .bool a2_4, .int .i64 a2_5, .int .i64 a2_6]) (t := 53) ?hr ?_; (case hd => rfl); (case hg => rfl); (case hr => first | (go_simp; done) | (go_simp; rfl)); intro gb611 hg w7 hbox hb; have n0_ := Aside0.mk (blk_below (g := gb610) (o := .cells #[.slice A0_0 l0_0.length c0_0] 49 (0, 0)) (by (with_reducible repeat (first | refine blk_drewN ?_ _ | refine blk_drew ?_ | refine blk_alloc ?_ _)); exact BK610.out) hb); have n1_ := Aside0.mk (below_step (by repeat (first | (with_reducible first | exact HB.out | apply below_alloc | apply pw_below_drewN | apply below_drew1 | refine below_set ?_ GE610.out) | exact HB.out)) hb); have n2_ := Aside0.mk (hbox); have n3_ := Aside0.mk ((by rw [hg]; exact (below_size (by repeat (first | (with_reducible first | exact HB.out | apply below_alloc | apply pw_below_drewN | apply below_drew1 | refine below_set ?_ GE610.out) | exact HB.out))) : w.heap.size ≤ gb611)); have n4_ := Aside0.mk ((by rw [hg]; exact (below_size (by repeat (first | (with_reducible first | exact HB.out | apply below_alloc | apply pw_below_drewN | apply below_drew1 | refine below_set ?_ GE610.out) | exact HB.out))) : w.heap.size ≤ gb611)); have n5_ := Aside0.mk ((by rw [hg]; exact Nat.ne_of_lt (blk_lt (g := gb610) (o := .cells #[.slice A0_0 l0_0.length c0_0] 49 (0, 0)) (by (with_reducible repeat (first | refine blk_drewN ?_ _ | refine blk_drew ?_ | refine blk_alloc ?_ _)); exact BK610.out)) : gb610 ≠ gb611)); have n6_ := Aside0.mk ((by rw [hg]; exact Nat.ne_of_gt (blk_lt (g := gb610) (o := .cells #[.slice A0_0 l0_0.length c0_0] 49 (0, 0)) (by (with_reducible repeat (first | refine blk_drewN ?_ _ | refine blk_drew ?_ | refine blk_alloc ?_ _)); exact BK610.out)) : gb611 ≠ gb610)); clear BK610; clear HB; have BK610 := n0_; have HB := n1_; have BK611 := n2_; have GW611 := n3_; have GE611 := n4_; have NB610_611 := n5_; have NB611_610 := n6_; clear n0_ n1_ n2_ n3_ n4_ n5_ n6_; clear hb hbox hg; have hnb8 := NB610_611.out; have hnc8 := NB611_610.out; have hcz9_0 : w7.cell? ⟨gb610, 0, none⟩ = some (.slice A0_0 l0_0.length c0_0) := (blk_cell BK610.out 0).trans rfl; have hfz9_0 := blk_frozen BK610.out 0) | ((with_reducible refine gate_callee (f := 24) rfl ?_); refine goesL_ (some 16) rfl rfl Try.func24 (by kernel_rfl) rfl #[.agg #[.slice A0_0 l0_0.length c0_0], .int .i64 1048576] rfl (by (try simp only [List.map_toArray, List.map_cons, List.map_nil]); first | done | rfl | (simp only [List.length_drop, List.length_take]; rfl)) ?_; (with_reducible refine (laws_szMemory.calls k _ _ l0_0 1048576 t612 _ ?side1 ?side2 A4.out).mono ?_); (case side1 => repeat (first | exact (Kd.C_below HR0_0.out HB.out) | (with_reducible refine Kd.C_alloc ?_ _) | (with_reducible refine Kd.C_drewN ?_ _) | (with_reducible refine Kd.C_drew ?_))); (case side2 => exact HC0_0.out); rintro e w10 ⟨rfl, hb⟩; refine ⟨_, rfl, ?_⟩; have n0_ := Aside0.mk (blk_below (g := gb610) (o := .cells #[.slice A0_0 l0_0.length c0_0] 49 (0, 0)) (by (with_reducible repeat (first | refine blk_drewN ?_ _ | refine blk_drew ?_ | refine blk_alloc ?_ _)); exact BK610.out) hb); have n1_ := Aside0.mk (blk_below (g := gb611) (o := .cells #[.int .i64 a2_0, .int .i64 a2_1, .int .i64 a2_2, .int .i64 a2_3, .bool a2_4, .int .i64 a2_5, .int .i64 a2_6] 53 (0, 0)) (by (with_reducible repeat (first | refine blk_drewN ?_ _ | refine blk_drew ?_ | refine blk_alloc ?_ _)); exact BK611.out) hb); have n2_ := Aside0.mk (below_step (by repeat (first | (with_reducible first | exact HB.out | apply below_alloc | apply pw_below_drewN | apply below_drew1 | refine below_set ?_ GE610.out | refine below_set ?_ GE611.out) | exact HB.out)) hb); clear BK610; clear BK611; clear HB; have BK610 := n0_; have BK611 := n1_; have HB := n2_; clear n0_ n1_ n2_; (try clear hb); (try clear hb2); (try clear hk); (try clear hi)))
    go_ret
    exact ⟨by first | rfl | (simp [errW_none, errW_some] <;> rfl) | (simp [*, errW_none, errW_some] <;> rfl), by repeat (first | (with_reducible first | exact HB.out | apply below_alloc | apply pw_below_drewN | apply below_drew1 | refine below_set ?_ GE610.out | refine below_set ?_ GE611.out) | exact HB.out)⟩
  · rw [if_neg c5] at H
    have c5b0 : decide (t612 < 0) = false := decide_eq_false c5
    clear c5
    replace H := Option.bind_eq_some_iff.mp H
    obtain ⟨t613, A110, H⟩ := H
    replace H : (if t613 < 0 then (some true) else ((laws_toMemory.f l0_0).bind fun t614 => ((laws_toLoanS.f k l1).bind fun t617 => ((laws_toLoan.f a2_0 a2_1 a2_2 a2_3 a2_4 a2_5 a2_6).bind fun bt620 => ((spec_DelayOf.f k t614 t617 bt620.1 bt620.2.1 bt620.2.2.1 bt620.2.2.2.1 bt620.2.2.2.2.1 bt620.2.2.2.2.2.1 bt620.2.2.2.2.2.2).bind fun bt627 => ((laws_toMemory.f l0_0).bind fun t629 => ((laws_toLoanS.f k l1).bind fun t633 => ((laws_toLoan.f a2_0 a2_1 a2_2 a2_3 a2_4 a2_5 a2_6).bind fun bt636 => ((impl_DelayOf.f t629 t633 bt636.1 bt636.2.1 bt636.2.2.1 bt636.2.2.2.1 bt636.2.2.2.2.1 bt636.2.2.2.2.2.1 bt636.2.2.2.2.2.2).bind fun bt643 => (if bt643.1 = bt627.1 then (laws_FnExactDelayOf.j0 k l1 t633 (bt643.2 != bt627.2) l0_0 t629) else (laws_FnExactDelayOf.j0 k l1 t633 true l0_0 t629))))))))))) = some r := H
    have A11 := Aside0.mk A110
    clear A110
    by_cases c12 : t613 < 0
    · rw [if_pos c12] at H
      have c12b0 : decide (t613 < 0) = true := decide_eq_true c12
      clear c12
      obtain rfl := Option.some.inj H
      go_enter Try.func4, Try.ntmps4
      go_wp2_with (first | ((with_reducible refine gate_dst (N := 3) rfl ?_); refine box_event ?hg (N := 3) ?hd (cs := #[.slice A0_0 l0_0.length c0_0]) (t := 49) ?hr ?_; (case hd => rfl); (case hg => rfl); (case hr => first | (go_simp; done) | (go_simp; rfl)); intro gb610 hg w13 hbox hb; have n0_ := Aside0.mk (below_step (by repeat (first | (with_reducible first | exact HB.out | apply below_alloc | apply pw_below_drewN | apply below_drew1) | exact HB.out)) hb); have n1_ := Aside0.mk (hbox); have n2_ := Aside0.mk ((by rw [hg]; exact (below_size (by repeat (first | (with_reducible first | exact HB.out | apply below_alloc | apply pw_below_drewN | apply below_drew1) | exact HB.out))) : w.heap.size ≤ gb610)); have n3_ := Aside0.mk ((by rw [hg]; exact (below_size (by repeat (first | (with_reducible first | exact HB.out | apply below_alloc | apply pw_below_drewN | apply below_drew1) | exact HB.out))) : w.heap.size ≤ gb610)); clear HB; have HB := n0_; have BK610 := n1_; have GW610 := n2_; have GE610 := n3_; clear n0_ n1_ n2_ n3_; clear hb hbox hg) | ((with_reducible refine gate_dst (N := 5) rfl ?_); refine box_event ?hg (N := 5) ?hd (cs := #[.int .i64 a2_0, .int .i64 a2_1, .int .i64 a2_2, .int .i64 a2_3, .bool a2_4, .int .i64 a2_5, .int .i64 a2_6]) (t := 53) ?hr ?_; (case hd => rfl); (case hg => rfl); (case hr => first | (go_simp; done) | (go_simp; rfl)); intro gb611 hg w14 hbox hb; have n0_ := Aside0.mk (blk_below (g := gb610) (o := .cells #[.slice A0_0 l0_0.length c0_0] 49 (0, 0)) (by (with_reducible repeat (first | refine blk_drewN ?_ _ | refine blk_drew ?_ | refine blk_alloc ?_ _)); exact BK610.out) hb); have n1_ := Aside0.mk (below_step (by repeat (first | (with_reducible first | exact HB.out | apply below_alloc | apply pw_below_drewN | apply below_drew1 | refine below_set ?_ GE610.out) | exact HB.out)) hb); have n2_ := Aside0.mk (hbox); have n3_ := Aside0.mk ((by rw [hg]; exact (below_size (by repeat (first | (with_reducible first | exact HB.out | apply below_alloc | apply pw_below_drewN | apply below_drew1 | refine below_set ?_ GE610.out) | exact HB.out))) : w.heap.size ≤ gb611)); have n4_ := Aside0.mk ((by rw [hg]; exact (below_size (by repeat (first | (with_reducible first | exact HB.out | apply below_alloc | apply pw_below_drewN | apply below_drew1 | refine below_set ?_ GE610.out) | exact HB.out))) : w.heap.size ≤ gb611)); have n5_ := Aside0.mk ((by rw [hg]; exact Nat.ne_of_lt (blk_lt (g := gb610) (o := .cells #[.slice A0_0 l0_0.length c0_0] 49 (0, 0)) (by (with_reducible repeat (first | refine blk_drewN ?_ _ | refine blk_drew ?_ | refine blk_alloc ?_ _)); exact BK610.out)) : gb610 ≠ gb611)); have n6_ := Aside0.mk ((by rw [hg]; exact Nat.ne_of_gt (blk_lt (g := gb610) (o := .cells #[.slice A0_0 l0_0.length c0_0] 49 (0, 0)) (by (with_reducible repeat (first | refine blk_drewN ?_ _ | refine blk_drew ?_ | refine blk_alloc ?_ _)); exact BK610.out)) : gb611 ≠ gb610)); clear BK610; clear HB; have BK610 := n0_; have HB := n1_; have BK611 := n2_; have GW611 := n3_; have GE611 := n4_; have NB610_611 := n5_; have NB611_610 := n6_; clear n0_ n1_ n2_ n3_ n4_ n5_ n6_; clear hb hbox hg; have hnb15 := NB610_611.out; have hnc15 := NB611_610.out; have hcz16_0 : w14.cell? ⟨gb610, 0, none⟩ = some (.slice A0_0 l0_0.length c0_0) := (blk_cell BK610.out 0).trans rfl; have hfz16_0 := blk_frozen BK610.out 0) | ((with_reducible refine gate_callee (f := 24) rfl ?_); refine goesL_ (some 16) rfl rfl Try.func24 (by kernel_rfl) rfl #[.agg #[.slice A0_0 l0_0.length c0_0], .int .i64 1048576] rfl (by (try simp only [List.map_toArray, List.map_cons, List.map_nil]); first | done | rfl | (simp only [List.length_drop, List.length_take]; rfl)) ?_; (with_reducible refine (laws_szMemory.calls k _ _ l0_0 1048576 t612 _ ?side1 ?side2 A4.out).mono ?_); (case side1 => repeat (first | exact (Kd.C_below HR0_0.out HB.out) | (with_reducible refine Kd.C_alloc ?_ _) | (with_reducible refine Kd.C_drewN ?_ _) | (with_reducible refine Kd.C_drew ?_))); (case side2 => exact HC0_0.out); rintro e w17 ⟨rfl, hb⟩; refine ⟨_, rfl, ?_⟩; have n0_ := Aside0.mk (blk_below (g := gb610) (o := .cells #[.slice A0_0 l0_0.length c0_0] 49 (0, 0)) (by (with_reducible repeat (first | refine blk_drewN ?_ _ | refine blk_drew ?_ | refine blk_alloc ?_ _)); exact BK610.out) hb); have n1_ := Aside0.mk (blk_below (g := gb611) (o := .cells #[.int .i64 a2_0, .int .i64 a2_1, .int .i64 a2_2, .int .i64 a2_3, .bool a2_4, .int .i64 a2_5, .int .i64 a2_6] 53 (0, 0)) (by (with_reducible repeat (first | refine blk_drewN ?_ _ | refine blk_drew ?_ | refine blk_alloc ?_ _)); exact BK611.out) hb); have n2_ := Aside0.mk (below_step (by repeat (first | (with_reducible first | exact HB.out | apply below_alloc | apply pw_below_drewN | apply below_drew1 | refine below_set ?_ GE610.out | refine below_set ?_ GE611.out) | exact HB.out)) hb); clear BK610; clear BK611; clear HB; have BK610 := n0_; have BK611 := n1_; have HB := n2_; clear n0_ n1_ n2_; (try clear hb); (try clear hb2); (try clear hk); (try clear hi)) | ((with_reducible refine gate_callee (f := 25) rfl ?_); refine goesL_ (some 21) rfl rfl Try.func25 (by kernel_rfl) rfl #[.slice A1 l1.length c1, .int .i64 t612] rfl (by (try simp only [List.map_toArray, List.map_cons, List.map_nil]); first | done | rfl | (simp only [List.length_drop, List.length_take]; rfl)) ?_; (with_reducible refine (laws_szLoanS.calls _ _ l1 t612 t613 _ ?side1 ?side2 A11.out).mono ?_); (case side1 => repeat (first | exact (Kd.C_below HR1.out HB.out) | (with_reducible refine Kd.C_alloc ?_ _) | (with_reducible refine Kd.C_drewN ?_ _) | (with_reducible refine Kd.C_drew ?_))); (case side2 => exact HC1.out); rintro e w' ⟨rfl, ⟨nd, rfl⟩⟩; refine ⟨_, rfl, ?_⟩))
      go_ret
      exact ⟨by first | rfl | (simp [errW_none, errW_some] <;> rfl) | (simp [*, errW_none, errW_some] <;> rfl), by repeat (first | (with_reducible first | exact HB.out | apply below_alloc | apply pw_below_drewN | apply below_drew1 | refine below_set ?_ GE610.out | refine below_set ?_ GE611.out) | exact HB.out)⟩
    · rw [if_neg c12] at H
      have c12b0 : decide (t613 < 0) = false := decide_eq_false c12
      clear c12
      replace H := Option.bind_eq_some_iff.mp H
      obtain ⟨t614, A180, H⟩ := H
      replace H : ((laws_toLoanS.f k l1).bind fun t617 => ((laws_toLoan.f a2_0 a2_1 a2_2 a2_3 a2_4 a2_5 a2_6).bind fun bt620 => ((spec_DelayOf.f k t614 t617 bt620.1 bt620.2.1 bt620.2.2.1 bt620.2.2.2.1 bt620.2.2.2.2.1 bt620.2.2.2.2.2.1 bt620.2.2.2.2.2.2).bind fun bt627 => ((laws_toMemory.f l0_0).bind fun t629 => ((laws_toLoanS.f k l1).bind fun t633 => ((laws_toLoan.f a2_0 a2_1 a2_2 a2_3 a2_4 a2_5 a2_6).bind fun bt636 => ((impl_DelayOf.f t629 t633 bt636.1 bt636.2.1 bt636.2.2.1 bt636.2.2.2.1 bt636.2.2.2.2.1 bt636.2.2.2.2.2.1 bt636.2.2.2.2.2.2).bind fun bt643 => (if bt643.1 = bt627.1 then (laws_FnExactDelayOf.j0 k l1 t633 (bt643.2 != bt627.2) l0_0 t629) else (laws_FnExactDelayOf.j0 k l1 t633 true l0_0 t629))))))))) = some r := H
      have A18 := Aside0.mk A180
      clear A180
      replace H := Option.bind_eq_some_iff.mp H
      obtain ⟨t617, A190, H⟩ := H
      replace H : ((laws_toLoan.f a2_0 a2_1 a2_2 a2_3 a2_4 a2_5 a2_6).bind fun bt620 => ((spec_DelayOf.f k t614 t617 bt620.1 bt620.2.1 bt620.2.2.1 bt620.2.2.2.1 bt620.2.2.2.2.1 bt620.2.2.2.2.2.1 bt620.2.2.2.2.2.2).bind fun bt627 => ((laws_toMemory.f l0_0).bind fun t629 => ((laws_toLoanS.f k l1).bind fun t633 => ((laws_toLoan.f a2_0 a2_1 a2_2 a2_3 a2_4 a2_5 a2_6).bind fun bt636 => ((impl_DelayOf.f t629 t633 bt636.1 bt636.2.1 bt636.2.2.1 bt636.2.2.2.1 bt636.2.2.2.2.1 bt636.2.2.2.2.2.1 bt636.2.2.2.2.2.2).bind fun bt643 => (if bt643.1 = bt627.1 then (laws_FnExactDelayOf.j0 k l1 t633 (bt643.2 != bt627.2) l0_0 t629) else (laws_FnExactDelayOf.j0 k l1 t633 true l0_0 t629)))))))) = some r := H
      have A19 := Aside0.mk A190
      clear A190
      replace H := Option.bind_eq_some_iff.mp H
      obtain ⟨⟨t620, t621, t622, t623, t624, t625, t626⟩, A200, H⟩ := H
      replace H : ((spec_DelayOf.f k t614 t617 t620 t621 t622 t623 t624 t625 t626).bind fun bt627 => ((laws_toMemory.f l0_0).bind fun t629 => ((laws_toLoanS.f k l1).bind fun t633 => ((laws_toLoan.f a2_0 a2_1 a2_2 a2_3 a2_4 a2_5 a2_6).bind fun bt636 => ((impl_DelayOf.f t629 t633 bt636.1 bt636.2.1 bt636.2.2.1 bt636.2.2.2.1 bt636.2.2.2.2.1 bt636.2.2.2.2.2.1 bt636.2.2.2.2.2.2).bind fun bt643 => (if bt643.1 = bt627.1 then (laws_FnExactDelayOf.j0 k l1 t633 (bt643.2 != bt627.2) l0_0 t629) else (laws_FnExactDelayOf.j0 k l1 t633 true l0_0 t629))))))) = some r := H
      have A20 := Aside0.mk A200
      clear A200
      replace H := Option.bind_eq_some_iff.mp H
      obtain ⟨⟨t627, t628⟩, A210, H⟩ := H
      replace H : ((laws_toMemory.f l0_0).bind fun t629 => ((laws_toLoanS.f k l1).bind fun t633 => ((laws_toLoan.f a2_0 a2_1 a2_2 a2_3 a2_4 a2_5 a2_6).bind fun bt636 => ((impl_DelayOf.f t629 t633 bt636.1 bt636.2.1 bt636.2.2.1 bt636.2.2.2.1 bt636.2.2.2.2.1 bt636.2.2.2.2.2.1 bt636.2.2.2.2.2.2).bind fun bt643 => (if bt643.1 = t627 then (laws_FnExactDelayOf.j0 k l1 t633 (bt643.2 != t628) l0_0 t629) else (laws_FnExactDelayOf.j0 k l1 t633 true l0_0 t629)))))) = some r := H
      have A21 := Aside0.mk A210
      clear A210
      replace H := Option.bind_eq_some_iff.mp H
      obtain ⟨t629, A220, H⟩ := H
      replace H : ((laws_toLoanS.f k l1).bind fun t633 => ((laws_toLoan.f a2_0 a2_1 a2_2 a2_3 a2_4 a2_5 a2_6).bind fun bt636 => ((impl_DelayOf.f t629 t633 bt636.1 bt636.2.1 bt636.2.2.1 bt636.2.2.2.1 bt636.2.2.2.2.1 bt636.2.2.2.2.2.1 bt636.2.2.2.2.2.2).bind fun bt643 => (if bt643.1 = t627 then (laws_FnExactDelayOf.j0 k l1 t633 (bt643.2 != t628) l0_0 t629) else (laws_FnExactDelayOf.j0 k l1 t633 true l0_0 t629))))) = some r := H
      have A22 := Aside0.mk A220
      clear A220
      replace H := Option.bind_eq_some_iff.mp H
      obtain ⟨t633, A230, H⟩ := H
      replace H : ((laws_toLoan.f a2_0 a2_1 a2_2 a2_3 a2_4 a2_5 a2_6).bind fun bt636 => ((impl_DelayOf.f t629 t633 bt636.1 bt636.2.1 bt636.2.2.1 bt636.2.2.2.1 bt636.2.2.2.2.1 bt636.2.2.2.2.2.1 bt636.2.2.2.2.2.2).bind fun bt643 => (if bt643.1 = t627 then (laws_FnExactDelayOf.j0 k l1 t633 (bt643.2 != t628) l0_0 t629) else (laws_FnExactDelayOf.j0 k l1 t633 true l0_0 t629)))) = some r := H
      have A23 := Aside0.mk A230
      clear A230
      replace H := Option.bind_eq_some_iff.mp H
      obtain ⟨⟨t636, t637, t638, t639, t640, t641, t642⟩, A240, H⟩ := H
      replace H : ((impl_DelayOf.f t629 t633 t636 t637 t638 t639 t640 t641 t642).bind fun bt643 => (if bt643.1 = t627 then (laws_FnExactDelayOf.j0 k l1 t633 (bt643.2 != t628) l0_0 t629) else (laws_FnExactDelayOf.j0 k l1 t633 true l0_0 t629))) = some r := H
      have A24 := Aside0.mk A240
      clear A240
      replace H := Option.bind_eq_some_iff.mp H
      obtain ⟨⟨t643, t644⟩, A250, H⟩ := H
      replace H : (if t643 = t627 then (laws_FnExactDelayOf.j0 k l1 t633 (t644 != t628) l0_0 t629) else (laws_FnExactDelayOf.j0 k l1 t633 true l0_0 t629)) = some r := H
      have A25 := Aside0.mk A250
      clear A250
      have HC26 := Aside0.mk H
      clear H
      go_enter Try.func4, Try.ntmps4
      try go_wp2_with (first | ((with_reducible refine gate_dst (N := 3) rfl ?_); refine box_event ?hg (N := 3) ?hd (cs := #[.slice A0_0 l0_0.length c0_0]) (t := 49) ?hr ?_; (case hd => rfl); (case hg => rfl); (case hr => first | (go_simp; done) | (go_simp; rfl)); intro gb610 hg w27 hbox hb; have n0_ := Aside0.mk (below_step (by repeat (first | (with_reducible first | exact HB.out | apply below_alloc | apply pw_below_drewN | apply below_drew1) | exact HB.out)) hb); have n1_ := Aside0.mk (hbox); have n2_ := Aside0.mk ((by rw [hg]; exact (below_size (by repeat (first | (with_reducible first | exact HB.out | apply below_alloc | apply pw_below_drewN | apply below_drew1) | exact HB.out))) : w.heap.size ≤ gb610)); have n3_ := Aside0.mk ((by rw [hg]; exact (below_size (by repeat (first | (with_reducible first | exact HB.out | apply below_alloc | apply pw_below_drewN | apply below_drew1) | exact HB.out))) : w.heap.size ≤ gb610)); clear HB; have HB := n0_; have BK610 := n1_; have GW610 := n2_; have GE610 := n3_; clear n0_ n1_ n2_ n3_; clear hb hbox hg) | ((with_reducible refine gate_dst (N := 5) rfl ?_); refine box_event ?hg (N := 5) ?hd (cs := #[.int .i64 a2_0, .int .i64 a2_1, .int .i64 a2_2, .int .i64 a2_3, .bool a2_4, .int .i64 a2_5, .int .i64 a2_6]) (t := 53) ?hr ?_; (case hd => rfl); (case hg => rfl); (case hr => first | (go_simp; done) | (go_simp; rfl)); intro gb611 hg w28 hbox hb; have n0_ := Aside0.mk (blk_below (g := gb610) (o := .cells #[.slice A0_0 l0_0.length c0_0] 49 (0, 0)) (by (with_reducible repeat (first | refine blk_drewN ?_ _ | refine blk_drew ?_ | refine blk_alloc ?_ _)); exact BK610.out) hb); have n1_ := Aside0.mk (below_step (by repeat (first | (with_reducible first | exact HB.out | apply below_alloc | apply pw_below_drewN | apply below_drew1 | refine below_set ?_ GE610.out) | exact HB.out)) hb); have n2_ := Aside0.mk (hbox); have n3_ := Aside0.mk ((by rw [hg]; exact (below_size (by repeat (first | (with_reducible first | exact HB.out | apply below_alloc | apply pw_below_drewN | apply below_drew1 | refine below_set ?_ GE610.out) | exact HB.out))) : w.heap.size ≤ gb611)); have n4_ := Aside0.mk ((by rw [hg]; exact (below_size (by repeat (first | (with_reducible first | exact HB.out | apply below_alloc | apply pw_below_drewN | apply below_drew1 | refine below_set ?_ GE610.out) | exact HB.out))) : w.heap.size ≤ gb611)); have n5_ := Aside0.mk ((by rw [hg]; exact Nat.ne_of_lt (blk_lt (g := gb610) (o := .cells #[.slice A0_0 l0_0.length c0_0] 49 (0, 0)) (by (with_reducible repeat (first | refine blk_drewN ?_ _ | refine blk_drew ?_ | refine blk_alloc ?_ _)); exact BK610.out)) : gb610 ≠ gb611)); have n6_ := Aside0.mk ((by rw [hg]; exact Nat.ne_of_gt (blk_lt (g := gb610) (o := .cells #[.slice A0_0 l0_0.length c0_0] 49 (0, 0)) (by (with_reducible repeat (first | refine blk_drewN ?_ _ | refine blk_drew ?_ | refine blk_alloc ?_ _)); exact BK610.out)) : gb611 ≠ gb610)); clear BK610; clear HB; have BK610 := n0_; have HB := n1_; have BK611 := n2_; have GW611 := n3_; have GE611 := n4_; have NB610_611 := n5_; have NB611_610 := n6_; clear n0_ n1_ n2_ n3_ n4_ n5_ n6_; clear hb hbox hg; have hnb29 := NB610_611.out; have hnc29 := NB611_610.out; have hcz30_0 : w28.cell? ⟨gb610, 0, none⟩ = some (.slice A0_0 l0_0.length c0_0) := (blk_cell BK610.out 0).trans rfl; have hfz30_0 := blk_frozen BK610.out 0) | ((with_reducible refine gate_callee (f := 24) rfl ?_); refine goesL_ (some 16) rfl rfl Try.func24 (by kernel_rfl) rfl #[.agg #[.slice A0_0 l0_0.length c0_0], .int .i64 1048576] rfl (by (try simp only [List.map_toArray, List.map_cons, List.map_nil]); first | done | rfl | (simp only [List.length_drop, List.length_take]; rfl)) ?_; (with_reducible refine (laws_szMemory.calls k _ _ l0_0 1048576 t612 _ ?side1 ?side2 A4.out).mono ?_); (case side1 => repeat (first | exact (Kd.C_below HR0_0.out HB.out) | (with_reducible refine Kd.C_alloc ?_ _) | (with_reducible refine Kd.C_drewN ?_ _) | (with_reducible refine Kd.C_drew ?_))); (case side2 => exact HC0_0.out); rintro e w31 ⟨rfl, hb⟩; refine ⟨_, rfl, ?_⟩; have n0_ := Aside0.mk (blk_below (g := gb610) (o := .cells #[.slice A0_0 l0_0.length c0_0] 49 (0, 0)) (by (with_reducible repeat (first | refine blk_drewN ?_ _ | refine blk_drew ?_ | refine blk_alloc ?_ _)); exact BK610.out) hb); have n1_ := Aside0.mk (blk_below (g := gb611) (o := .cells #[.int .i64 a2_0, .int .i64 a2_1, .int .i64 a2_2, .int .i64 a2_3, .bool a2_4, .int .i64 a2_5, .int .i64 a2_6] 53 (0, 0)) (by (with_reducible repeat (first | refine blk_drewN ?_ _ | refine blk_drew ?_ | refine blk_alloc ?_ _)); exact BK611.out) hb); have n2_ := Aside0.mk (below_step (by repeat (first | (with_reducible first | exact HB.out | apply below_alloc | apply pw_below_drewN | apply below_drew1 | refine below_set ?_ GE610.out | refine below_set ?_ GE611.out) | exact HB.out)) hb); clear BK610; clear BK611; clear HB; have BK610 := n0_; have BK611 := n1_; have HB := n2_; clear n0_ n1_ n2_; (try clear hb); (try clear hb2); (try clear hk); (try clear hi)) | ((with_reducible refine gate_callee (f := 25) rfl ?_); refine goesL_ (some 21) rfl rfl Try.func25 (by kernel_rfl) rfl #[.slice A1 l1.length c1, .int .i64 t612] rfl (by (try simp only [List.map_toArray, List.map_cons, List.map_nil]); first | done | rfl | (simp only [List.length_drop, List.length_take]; rfl)) ?_; (with_reducible refine (laws_szLoanS.calls _ _ l1 t612 t613 _ ?side1 ?side2 A11.out).mono ?_); (case side1 => repeat (first | exact (Kd.C_below HR1.out HB.out) | (with_reducible refine Kd.C_alloc ?_ _) | (with_reducible refine Kd.C_drewN ?_ _) | (with_reducible refine Kd.C_drew ?_))); (case side2 => exact HC1.out); rintro e w' ⟨rfl, ⟨nd, rfl⟩⟩; refine ⟨_, rfl, ?_⟩; (try (rw [drewN_self w31]; generalize hq_ : World.drewN w31 _ = w31; have n0_ : Aside0 (w31.heap[gb610]? = some (.cells #[.slice A0_0 l0_0.length c0_0] 49 (0, 0))) := ⟨by rw [← hq_]; exact (by (with_reducible repeat (first | refine blk_drewN ?_ _ | refine blk_drew ?_ | refine blk_alloc ?_ _)); exact BK610.out)⟩; have n1_ : Aside0 (w31.heap[gb611]? = some (.cells #[.int .i64 a2_0, .int .i64 a2_1, .int .i64 a2_2, .int .i64 a2_3, .bool a2_4, .int .i64 a2_5, .int .i64 a2_6] 53 (0, 0))) := ⟨by rw [← hq_]; exact (by (with_reducible repeat (first | refine blk_drewN ?_ _ | refine blk_drew ?_ | refine blk_alloc ?_ _)); exact BK611.out)⟩; have n2_ : Aside0 (Below w.heap.size w w31) := ⟨by rw [← hq_]; exact (by repeat (first | (with_reducible first | exact HB.out | apply below_alloc | apply pw_below_drewN | apply below_drew1 | refine below_set ?_ GE610.out | refine below_set ?_ GE611.out) | exact HB.out))⟩; clear BK610 BK611 HB hq_; have BK610 := n0_; have BK611 := n1_; have HB := n2_; clear n0_ n1_ n2_))))
      have n0_ := Aside0.mk (blk_drew BK610.out)
      have n1_ := Aside0.mk (blk_drew BK611.out)
      have n2_ := Aside0.mk (below_drew1 HB.out)
      clear BK610
      clear BK611
      clear HB
      have BK610 := n0_
      have BK611 := n1_
      have HB := n2_
      clear n0_ n1_ n2_
      refine start_ (n := 12) (S := fun w' => w'.cell? ⟨gb610, 0, none⟩ = some (.slice A0_0 l0_0.length c0_0) ∧ w'.cell? ⟨gb611, 0, none⟩ = some (.int .i64 a2_0) ∧ w'.cell? ⟨gb611, 1, none⟩ = some (.int .i64 a2_1) ∧ w'.cell? ⟨gb611, 2, none⟩ = some (.int .i64 a2_2) ∧ w'.cell? ⟨gb611, 3, none⟩ = some (.int .i64 a2_3) ∧ w'.cell? ⟨gb611, 4, none⟩ = some (.bool a2_4) ∧ w'.cell? ⟨gb611, 5, none⟩ = some (.int .i64 a2_5) ∧ w'.cell? ⟨gb611, 6, none⟩ = some (.int .i64 a2_6)) (ds := []) #[false, false, false, false, false, false, false, false, false, false, false, false] (by kernel_rfl) rfl rfl ⟨(blk_cell BK610.out 0).trans rfl, (blk_cell BK611.out 0).trans rfl, (blk_cell BK611.out 1).trans rfl, (blk_cell BK611.out 2).trans rfl, (blk_cell BK611.out 3).trans rfl, (blk_cell BK611.out 4).trans rfl, (blk_cell BK611.out 5).trans rfl, (blk_cell BK611.out 6).trans rfl⟩ (fun hHeld => ?_); refine with_tabW laws_FnExactDelayOf.tab8 laws_FnExactDelayOf.bits8 (fun HT_ HW_ => ?_)
      generalize w31.drew = w32 at BK610 BK611 HB hHeld ⊢
      refine pure_ (i := 2) (N := some 27) (v := ?_) (a' := ?_) #[false, false, true, false, false, false, false, false, false, false, false, false] rfl rfl (any_of HT_.out (by kernel_rfl)) (fun _ _ _ h => h) (Or.inl ⟨by rfl, ?_⟩) ?_ ?_
      rotate_left
      · intro w'
        go_simp
        with_reducible rfl
      rotate_left
      · simp only [Act.put, List.setIfInBounds_toArray, List.set_cons_zero, List.set_cons_succ, i64_w, i32_w]
        rfl
      refine take_ (i := 0) (N := some 25) (v := ?_) (a' := ?_) #[true, false, true, false, false, false, false, false, false, false, false, false] rfl rfl (take_ofW HT_.out HW_.out (by kernel_rfl)) (fun _ _ _ h => h) (Or.inl ⟨by rfl, ?_⟩) hHeld ?_ ?_
      rotate_left
      · rintro w' ⟨s0, s1, s2, s3, s4, s5, s6, s7⟩
        go_simp
        with_reducible rfl
      rotate_left
      · simp only [Act.put, List.setIfInBounds_toArray, List.set_cons_zero, List.set_cons_succ, i64_w, i32_w]
        rfl
      refine take_ (i := 4) (N := some 29) (v := ?_) (a' := ?_) #[true, false, true, false, true, false, false, false, false, false, false, false] rfl rfl (take_ofW HT_.out HW_.out (by kernel_rfl)) (fun _ _ _ h => h) (Or.inl ⟨by rfl, ?_⟩) hHeld ?_ ?_
      rotate_left
      · rintro w' ⟨s0, s1, s2, s3, s4, s5, s6, s7⟩
        go_simp
        with_reducible rfl
      rotate_left
      · simp only [Act.put, List.setIfInBounds_toArray, List.set_cons_zero, List.set_cons_succ, i64_w, i32_w]
        rfl
      refine one_ (i := 1) (N := some 26) #[true, true, true, false, true, false, false, false, false, false, false, false] rfl rfl (one_of HT_.out (by kernel_rfl)) (by decide) (fun K hK => ?_)
      refine goes_ Try.func27 (by kernel_rfl) rfl #[.agg #[.slice A0_0 l0_0.length c0_0]] (by rfl) rfl rfl (by (try simp only [List.map_toArray, List.map_cons, List.map_nil]); first | done | rfl | (simp only [List.length_drop, List.length_take]; rfl)) ?_
      with_reducible refine (laws_toMemory.calls _ _ l0_0 t614 _ ?side1 ?side2 A18.out).mono ?_
      (case side1 => repeat (first | exact (Kd.C_below HR0_0.out HB.out) | (with_reducible refine Kd.C_alloc ?_ _) | (with_reducible refine Kd.C_drewN ?_ _) | (with_reducible refine Kd.C_drew ?_)))
      (case side2 => exact HC0_0.out)
      rintro e w33 ⟨v615, rfl, ho0, hb⟩
      refine ⟨_, rfl, ?_⟩
      have n0_ := Aside0.mk (Kd.S_lower ho0 (below_size (by repeat (first | (with_reducible first | exact HB.out | apply below_alloc | apply pw_below_drewN | apply below_drew1 | refine below_set ?_ GE610.out | refine below_set ?_ GE611.out) | exact HB.out))))
      have n1_ := Aside0.mk (blk_below (g := gb610) (o := .cells #[.slice A0_0 l0_0.length c0_0] 49 (0, 0)) (by (with_reducible repeat (first | refine blk_drewN ?_ _ | refine blk_drew ?_ | refine blk_alloc ?_ _)); exact BK610.out) hb)
      have n2_ := Aside0.mk (blk_below (g := gb611) (o := .cells #[.int .i64 a2_0, .int .i64 a2_1, .int .i64 a2_2, .int .i64 a2_3, .bool a2_4, .int .i64 a2_5, .int .i64 a2_6] 53 (0, 0)) (by (with_reducible repeat (first | refine blk_drewN ?_ _ | refine blk_drew ?_ | refine blk_alloc ?_ _)); exact BK611.out) hb)
      have n3_ := Aside0.mk (below_step (by repeat (first | (with_reducible first | exact HB.out | apply below_alloc | apply pw_below_drewN | apply below_drew1 | refine below_set ?_ GE610.out | refine below_set ?_ GE611.out) | exact HB.out)) hb)
      clear BK610
      clear BK611
      clear HB
      have HO616 := n0_
      have BK610 := n1_
      have BK611 := n2_
      have HB := n3_
      clear n0_ n1_ n2_ n3_
      (try clear hb)
      (try clear hb2)
      (try clear hk)
      (try clear hi)
      (try clear ho0)
      refine hK.out _ _ ⟨(blk_cell BK610.out 0).trans rfl, (blk_cell BK611.out 0).trans rfl, (blk_cell BK611.out 1).trans rfl, (blk_cell BK611.out 2).trans rfl, (blk_cell BK611.out 3).trans rfl, (blk_cell BK611.out 4).trans rfl, (blk_cell BK611.out 5).trans rfl, (blk_cell BK611.out 6).trans rfl⟩ (fun hHeld => ?_)
      clear hK K
      refine norm_ (a' := ?_) ?_ ?_
      rotate_left
      · show Act.put _ (some 26) _ = _
        simp only [Act.put, List.setIfInBounds_toArray, List.set_cons_zero, List.set_cons_succ, i64_w, i32_w]
        rfl
      refine one_ (i := 3) (N := some 28) #[true, true, true, true, true, false, false, false, false, false, false, false] rfl rfl (one_of HT_.out (by kernel_rfl)) (by decide) (fun K hK => ?_)
      refine goes_ Try.func28 (by kernel_rfl) rfl #[.slice A1 l1.length c1] (by rfl) rfl rfl (by (try simp only [List.map_toArray, List.map_cons, List.map_nil]); first | done | rfl | (simp only [List.length_drop, List.length_take]; rfl)) ?_
      with_reducible refine (laws_toLoanS.calls k _ _ l1 t617 _ ?side1 ?side2 A19.out).mono ?_
      (case side1 => repeat (first | exact (Kd.C_below HR1.out HB.out) | (with_reducible refine Kd.C_alloc ?_ _) | (with_reducible refine Kd.C_drewN ?_ _) | (with_reducible refine Kd.C_drew ?_)))
      (case side2 => exact HC1.out)
      rintro e w34 ⟨v618, rfl, ho0, hb⟩
      refine ⟨_, rfl, ?_⟩
      have n0_ := Aside0.mk (Kd.S_below (by (with_reducible repeat (first | apply Kd.S_alloc | apply Kd.S_drewN | apply Kd.S_drew)); exact HO616.out) hb)
      have n1_ := Aside0.mk (Kd.R_lower ho0 (below_size (by repeat (first | (with_reducible first | exact HB.out | apply below_alloc | apply pw_below_drewN | apply below_drew1 | refine below_set ?_ GE610.out | refine below_set ?_ GE611.out) | exact HB.out))))
      have n2_ := Aside0.mk (blk_below (g := gb610) (o := .cells #[.slice A0_0 l0_0.length c0_0] 49 (0, 0)) (by (with_reducible repeat (first | refine blk_drewN ?_ _ | refine blk_drew ?_ | refine blk_alloc ?_ _)); exact BK610.out) hb)
      have n3_ := Aside0.mk (blk_below (g := gb611) (o := .cells #[.int .i64 a2_0, .int .i64 a2_1, .int .i64 a2_2, .int .i64 a2_3, .bool a2_4, .int .i64 a2_5, .int .i64 a2_6] 53 (0, 0)) (by (with_reducible repeat (first | refine blk_drewN ?_ _ | refine blk_drew ?_ | refine blk_alloc ?_ _)); exact BK611.out) hb)
      have n4_ := Aside0.mk (below_step (by repeat (first | (with_reducible first | exact HB.out | apply below_alloc | apply pw_below_drewN | apply below_drew1 | refine below_set ?_ GE610.out | refine below_set ?_ GE611.out) | exact HB.out)) hb)
      clear HO616
      clear BK610
      clear BK611
      clear HB
      have HO616 := n0_
      have HO619 := n1_
      have BK610 := n2_
      have BK611 := n3_
      have HB := n4_
      clear n0_ n1_ n2_ n3_ n4_
      (try clear hb)
      (try clear hb2)
      (try clear hk)
      (try clear hi)
      (try clear ho0)
      refine hK.out _ _ ⟨(blk_cell BK610.out 0).trans rfl, (blk_cell BK611.out 0).trans rfl, (blk_cell BK611.out 1).trans rfl, (blk_cell BK611.out 2).trans rfl, (blk_cell BK611.out 3).trans rfl, (blk_cell BK611.out 4).trans rfl, (blk_cell BK611.out 5).trans rfl, (blk_cell BK611.out 6).trans rfl⟩ (fun hHeld => ?_)
      clear hK K
      refine norm_ (a' := ?_) ?_ ?_
      rotate_left
      · show Act.put _ (some 28) _ = _
        simp only [Act.put, List.setIfInBounds_toArray, List.set_cons_zero, List.set_cons_succ, i64_w, i32_w]
        rfl
      refine one_ (i := 5) (N := some 30) #[true, true, true, true, true, true, false, false, false, false, false, false] rfl rfl (one_of HT_.out (by kernel_rfl)) (by decide) (fun K hK => ?_)
      refine goes_ Try.func29 (by kernel_rfl) rfl #[.agg #[.int .i64 a2_0, .int .i64 a2_1, .int .i64 a2_2, .int .i64 a2_3, .bool a2_4, .int .i64 a2_5, .int .i64 a2_6]] (by rfl) rfl rfl (by (try simp only [List.map_toArray, List.map_cons, List.map_nil]); first | done | rfl | (simp only [List.length_drop, List.length_take]; rfl)) ?_
      with_reducible refine (laws_toLoan.calls a2_0 a2_1 a2_2 a2_3 a2_4 a2_5 a2_6 t620 t621 t622 t623 t624 t625 t626 _ A20.out).mono ?_
      rintro e w35 ⟨rfl, hb⟩
      refine ⟨_, rfl, ?_⟩
      have n0_ := Aside0.mk (Kd.S_below (by (with_reducible repeat (first | apply Kd.S_alloc | apply Kd.S_drewN | apply Kd.S_drew)); exact HO616.out) hb)
      have n1_ := Aside0.mk (Kd.R_below (by (with_reducible repeat (first | apply Kd.R_alloc | apply Kd.R_drewN | apply Kd.R_drew)); exact HO619.out) hb)
      have n2_ := Aside0.mk (blk_below (g := gb610) (o := .cells #[.slice A0_0 l0_0.length c0_0] 49 (0, 0)) (by (with_reducible repeat (first | refine blk_drewN ?_ _ | refine blk_drew ?_ | refine blk_alloc ?_ _)); exact BK610.out) hb)
      have n3_ := Aside0.mk (blk_below (g := gb611) (o := .cells #[.int .i64 a2_0, .int .i64 a2_1, .int .i64 a2_2, .int .i64 a2_3, .bool a2_4, .int .i64 a2_5, .int .i64 a2_6] 53 (0, 0)) (by (with_reducible repeat (first | refine blk_drewN ?_ _ | refine blk_drew ?_ | refine blk_alloc ?_ _)); exact BK611.out) hb)
      have n4_ := Aside0.mk (below_step (by repeat (first | (with_reducible first | exact HB.out | apply below_alloc | apply pw_below_drewN | apply below_drew1 | refine below_set ?_ GE610.out | refine below_set ?_ GE611.out) | exact HB.out)) hb)
      clear HO616
      clear HO619
      clear BK610
      clear BK611
      clear HB
      have HO616 := n0_
      have HO619 := n1_
      have BK610 := n2_
      have BK611 := n3_
      have HB := n4_
      clear n0_ n1_ n2_ n3_ n4_
      (try clear hb)
      (try clear hb2)
      (try clear hk)
      (try clear hi)
      obtain ⟨Ao36, co36, eo36⟩ := Kd.S_slice HO616.out
      (first | subst eo36 | (injection eo36 with f1_ f2_ f3_; have f4_ := f1_.symm; have f5_ := f3_.symm; clear f1_ f2_ f3_; subst f4_; subst f5_))
      obtain ⟨Ao37, co37, eo37⟩ := Kd.R_slice HO619.out
      (first | subst eo37 | (injection eo37 with f1_ f2_ f3_; have f4_ := f1_.symm; have f5_ := f3_.symm; clear f1_ f2_ f3_; subst f4_; subst f5_))
      refine hK.out _ _ ⟨(blk_cell BK610.out 0).trans rfl, (blk_cell BK611.out 0).trans rfl, (blk_cell BK611.out 1).trans rfl, (blk_cell BK611.out 2).trans rfl, (blk_cell BK611.out 3).trans rfl, (blk_cell BK611.out 4).trans rfl, (blk_cell BK611.out 5).trans rfl, (blk_cell BK611.out 6).trans rfl⟩ (fun hHeld => ?_)
      clear hK K
      refine norm_ (a' := ?_) ?_ ?_
      rotate_left
      · show Act.put _ (some 30) _ = _
        simp only [Act.put, List.setIfInBounds_toArray, List.set_cons_zero, List.set_cons_succ, i64_w, i32_w]
        rfl
      refine one_ (i := 6) (N := some 31) #[true, true, true, true, true, true, true, false, false, false, false, false] rfl rfl (one_of HT_.out (by kernel_rfl)) (by decide) (fun K hK => ?_)
      refine goes_ Try.func26 (by kernel_rfl) rfl #[.agg #[.slice Ao36 t614.length co36], .slice Ao37 t617.length co37, .agg #[.int .i64 t620, .int .i64 t621, .int .i64 t622, .int .i64 t623, .bool t624, .int .i64 t625, .int .i64 t626]] (by rfl) rfl rfl (by (try simp only [List.map_toArray, List.map_cons, List.map_nil]); first | done | rfl | (simp only [List.length_drop, List.length_take]; rfl)) ?_
      with_reducible refine (spec_DelayOf.calls k _ _ t614 _ _ t617 t620 t621 t622 t623 t624 t625 t626 t627 t628 _ ?side1 ?side2 ?side3 ?side4 A21.out).mono ?_
      (case side1 => repeat (first | exact (Kd.S_reads' HO616.out).2.2 | (with_reducible refine Kd.C_alloc ?_ _) | (with_reducible refine Kd.C_drewN ?_ _) | (with_reducible refine Kd.C_drew ?_)))
      (case side2 => exact (Kd.S_reads' HO616.out).2.1)
      (case side3 => repeat (first | exact (Kd.R_reads' HO619.out).2.2 | (with_reducible refine Kd.C_alloc ?_ _) | (with_reducible refine Kd.C_drewN ?_ _) | (with_reducible refine Kd.C_drew ?_)))
      (case side4 => exact (Kd.R_reads' HO619.out).2.1)
      rintro e w38 ⟨rfl, hb⟩
      refine ⟨_, rfl, ?_⟩
      have n0_ := Aside0.mk (Kd.S_below (by (with_reducible repeat (first | apply Kd.S_alloc | apply Kd.S_drewN | apply Kd.S_drew)); exact HO616.out) hb)
      have n1_ := Aside0.mk (Kd.R_below (by (with_reducible repeat (first | apply Kd.R_alloc | apply Kd.R_drewN | apply Kd.R_drew)); exact HO619.out) hb)
      have n2_ := Aside0.mk (blk_below (g := gb610) (o := .cells #[.slice A0_0 l0_0.length c0_0] 49 (0, 0)) (by (with_reducible repeat (first | refine blk_drewN ?_ _ | refine blk_drew ?_ | refine blk_alloc ?_ _)); exact BK610.out) hb)
      have n3_ := Aside0.mk (blk_below (g := gb611) (o := .cells #[.int .i64 a2_0, .int .i64 a2_1, .int .i64 a2_2, .int .i64 a2_3, .bool a2_4, .int .i64 a2_5, .int .i64 a2_6] 53 (0, 0)) (by (with_reducible repeat (first | refine blk_drewN ?_ _ | refine blk_drew ?_ | refine blk_alloc ?_ _)); exact BK611.out) hb)
      have n4_ := Aside0.mk (below_step (by repeat (first | (with_reducible first | exact HB.out | apply below_alloc | apply pw_below_drewN | apply below_drew1 | refine below_set ?_ GE610.out | refine below_set ?_ GE611.out) | exact HB.out)) hb)
      clear HO616
      clear HO619
      clear BK610
      clear BK611
      clear HB
      have HO616 := n0_
      have HO619 := n1_
      have BK610 := n2_
      have BK611 := n3_
      have HB := n4_
      clear n0_ n1_ n2_ n3_ n4_
      (try clear hb)
      (try clear hb2)
      (try clear hk)
      (try clear hi)
      refine hK.out _ _ ⟨(blk_cell BK610.out 0).trans rfl, (blk_cell BK611.out 0).trans rfl, (blk_cell BK611.out 1).trans rfl, (blk_cell BK611.out 2).trans rfl, (blk_cell BK611.out 3).trans rfl, (blk_cell BK611.out 4).trans rfl, (blk_cell BK611.out 5).trans rfl, (blk_cell BK611.out 6).trans rfl⟩ (fun hHeld => ?_)
      clear hK K
      refine norm_ (a' := ?_) ?_ ?_
      rotate_left
      · show Act.put _ (some 31) _ = _
        simp only [Act.put, List.setIfInBounds_toArray, List.set_cons_zero, List.set_cons_succ, i64_w, i32_w]
        rfl
      refine pure_ (i := 7) (N := some 24) (v := ?_) (a' := ?_) #[true, true, true, true, true, true, true, true, false, false, false, false] rfl rfl (any_of HT_.out (by kernel_rfl)) (fun _ _ _ h => h) (Or.inl ⟨by rfl, ?_⟩) ?_ ?_
      rotate_left
      · intro w'
        go_simp
        with_reducible rfl
      rotate_left
      · simp only [Act.put, List.setIfInBounds_toArray, List.set_cons_zero, List.set_cons_succ, i64_w, i32_w]
        rfl
      refine pure_ (i := 8) (N := some 32) (v := ?_) (a' := ?_) #[true, true, true, true, true, true, true, true, true, false, false, false] rfl rfl (any_of HT_.out (by kernel_rfl)) (fun _ _ _ h => h) (Or.inl ⟨by rfl, ?_⟩) ?_ ?_
      rotate_left
      · intro w'
        go_simp
        with_reducible rfl
      rotate_left
      · simp only [Act.put, List.setIfInBounds_toArray, List.set_cons_zero, List.set_cons_succ, i64_w, i32_w]
        rfl
      refine pure_ (i := 9) (N := some 33) (v := ?_) (a' := ?_) #[true, true, true, true, true, true, true, true, true, true, false, false] rfl rfl (any_of HT_.out (by kernel_rfl)) (fun _ _ _ h => h) (Or.inl ⟨by rfl, ?_⟩) ?_ ?_
      rotate_left
      · intro w'
        go_simp
        with_reducible rfl
      rotate_left
      · simp only [Act.put, List.setIfInBounds_toArray, List.set_cons_zero, List.set_cons_succ, i64_w, i32_w]
        rfl
      refine pure_ (i := 10) (N := some 8) (v := ?_) (a' := ?_) #[true, true, true, true, true, true, true, true, true, true, true, false] rfl rfl (any_of HT_.out (by kernel_rfl)) (fun _ _ _ h => h) (Or.inl ⟨by rfl, ?_⟩) ?_ ?_
      rotate_left
      · intro w'
        go_simp
        with_reducible rfl
      rotate_left
      · simp only [Act.put, List.setIfInBounds_toArray, List.set_cons_zero, List.set_cons_succ, i64_w, i32_w]
        rfl
      refine pure_ (i := 11) (N := some 9) (v := ?_) (a' := ?_) #[true, true, true, true, true, true, true, true, true, true, true, true] rfl rfl (any_of HT_.out (by kernel_rfl)) (fun _ _ _ h => h) (Or.inl ⟨by rfl, ?_⟩) ?_ ?_
      rotate_left
      · intro w'
        go_simp
        with_reducible rfl
      rotate_left
      · simp only [Act.put, List.setIfInBounds_toArray, List.set_cons_zero, List.set_cons_succ, i64_w, i32_w]
        rfl
      refine done_ (done_of HT_.out (by kernel_rfl)) ?_
      have hcz39_0 : w38.cell? ⟨gb610, 0, none⟩ = some (.slice A0_0 l0_0.length c0_0) := (blk_cell BK610.out 0).trans rfl
      have hfz39_0 := blk_frozen BK610.out 0
      try go_wp2_with (first | ((with_reducible refine gate_callee (f := 27) rfl ?_); refine goesL_ (some 35) rfl rfl Try.func27 (by kernel_rfl) rfl #[.agg #[.slice A0_0 l0_0.length c0_0]] rfl (by (try simp only [List.map_toArray, List.map_cons, List.map_nil]); first | done | rfl | (simp only [List.length_drop, List.length_take]; rfl)) ?_; (with_reducible refine (laws_toMemory.calls _ _ l0_0 t629 _ ?side1 ?side2 A22.out).mono ?_); (case side1 => repeat (first | exact (Kd.C_below HR0_0.out HB.out) | (with_reducible refine Kd.C_alloc ?_ _) | (with_reducible refine Kd.C_drewN ?_ _) | (with_reducible refine Kd.C_drew ?_))); (case side2 => exact HC0_0.out); rintro e w40 ⟨v630, rfl, ho0, hb⟩; refine ⟨_, rfl, ?_⟩; have n0_ := Aside0.mk (Kd.S_elder' (by (with_reducible repeat (first | apply Kd.S_alloc | apply Kd.S_drewN | apply Kd.S_drew)); exact HO616.out) (Kd.S_base ho0) hb); have n1_ := Aside0.mk (Kd.R_below (by (with_reducible repeat (first | apply Kd.R_alloc | apply Kd.R_drewN | apply Kd.R_drew)); exact HO619.out) hb); have n2_ := Aside0.mk (Kd.S_lower (Kd.S_new' ho0 (Kd.S_lt (by (with_reducible repeat (first | apply Kd.S_alloc | apply Kd.S_drewN | apply Kd.S_drew)); exact HO616.out))) (below_size (by repeat (first | (with_reducible first | exact HB.out | apply below_alloc | apply pw_below_drewN | apply below_drew1 | refine below_set ?_ GE610.out | refine below_set ?_ GE611.out) | exact HB.out)))); have n3_ := Aside0.mk (blk_below (g := gb610) (o := .cells #[.slice A0_0 l0_0.length c0_0] 49 (0, 0)) (by (with_reducible repeat (first | refine blk_drewN ?_ _ | refine blk_drew ?_ | refine blk_alloc ?_ _)); exact BK610.out) hb); have n4_ := Aside0.mk (blk_below (g := gb611) (o := .cells #[.int .i64 a2_0, .int .i64 a2_1, .int .i64 a2_2, .int .i64 a2_3, .bool a2_4, .int .i64 a2_5, .int .i64 a2_6] 53 (0, 0)) (by (with_reducible repeat (first | refine blk_drewN ?_ _ | refine blk_drew ?_ | refine blk_alloc ?_ _)); exact BK611.out) hb); have n5_ := Aside0.mk (below_step (by repeat (first | (with_reducible first | exact HB.out | apply below_alloc | apply pw_below_drewN | apply below_drew1 | refine below_set ?_ GE610.out | refine below_set ?_ GE611.out) | exact HB.out)) hb); clear HO616; clear HO619; clear BK610; clear BK611; clear HB; have HO616 := n0_; have HO619 := n1_; have HO631 := n2_; have BK610 := n3_; have BK611 := n4_; have HB := n5_; clear n0_ n1_ n2_ n3_ n4_ n5_; (try clear hb); (try clear hb2); (try clear hk); (try clear hi); (try clear ho0)) | ((with_reducible refine gate_dst (N := 10) rfl ?_); refine box_event ?hg (N := 10) ?hd (cs := #[.slice none 0 0]) (t := 26) ?hr ?_; (case hd => rfl); (case hg => rfl); (case hr => first | (go_simp; done) | (go_simp; rfl)); intro gb632 hg w41 hbox hb; have n0_ := Aside0.mk (Kd.S_below (by (with_reducible repeat (first | apply Kd.S_alloc | apply Kd.S_drewN | apply Kd.S_drew)); exact HO616.out) hb); have n1_ := Aside0.mk (Kd.R_below (by (with_reducible repeat (first | apply Kd.R_alloc | apply Kd.R_drewN | apply Kd.R_drew)); exact HO619.out) hb); have n2_ := Aside0.mk (Kd.S_below (by (with_reducible repeat (first | apply Kd.S_alloc | apply Kd.S_drewN | apply Kd.S_drew)); exact HO631.out) hb); have n3_ := Aside0.mk (blk_below (g := gb610) (o := .cells #[.slice A0_0 l0_0.length c0_0] 49 (0, 0)) (by (with_reducible repeat (first | refine blk_drewN ?_ _ | refine blk_drew ?_ | refine blk_alloc ?_ _)); exact BK610.out) hb); have n4_ := Aside0.mk (blk_below (g := gb611) (o := .cells #[.int .i64 a2_0, .int .i64 a2_1, .int .i64 a2_2, .int .i64 a2_3, .bool a2_4, .int .i64 a2_5, .int .i64 a2_6] 53 (0, 0)) (by (with_reducible repeat (first | refine blk_drewN ?_ _ | refine blk_drew ?_ | refine blk_alloc ?_ _)); exact BK611.out) hb); have n5_ := Aside0.mk (below_step (by repeat (first | (with_reducible first | exact HB.out | apply below_alloc | apply pw_below_drewN | apply below_drew1 | refine below_set ?_ GE610.out | refine below_set ?_ GE611.out) | exact HB.out)) hb); have n6_ := Aside0.mk (hbox); have n7_ := Aside0.mk ((by rw [hg]; exact (below_size (by repeat (first | (with_reducible first | exact HB.out | apply below_alloc | apply pw_below_drewN | apply below_drew1 | refine below_set ?_ GE610.out | refine below_set ?_ GE611.out) | exact HB.out))) : w.heap.size ≤ gb632)); have n8_ := Aside0.mk ((by rw [hg]; exact (below_size (by repeat (first | (with_reducible first | exact HB.out | apply below_alloc | apply pw_below_drewN | apply below_drew1 | refine below_set ?_ GE610.out | refine below_set ?_ GE611.out) | exact HB.out))) : w.heap.size ≤ gb632)); have n9_ := Aside0.mk ((by rw [hg]; exact Nat.ne_of_lt (blk_lt (g := gb610) (o := .cells #[.slice A0_0 l0_0.length c0_0] 49 (0, 0)) (by (with_reducible repeat (first | refine blk_drewN ?_ _ | refine blk_drew ?_ | refine blk_alloc ?_ _)); exact BK610.out)) : gb610 ≠ gb632)); have n10_ := Aside0.mk ((by rw [hg]; exact Nat.ne_of_gt (blk_lt (g := gb610) (o := .cells #[.slice A0_0 l0_0.length c0_0] 49 (0, 0)) (by (with_reducible repeat (first | refine blk_drewN ?_ _ | refine blk_drew ?_ | refine blk_alloc ?_ _)); exact BK610.out)) : gb632 ≠ gb610)); have n11_ := Aside0.mk ((by rw [hg]; exact Nat.ne_of_lt (blk_lt (g := gb611) (o := .cells #[.int .i64 a2_0, .int .i64 a2_1, .int .i64 a2_2, .int .i64 a2_3, .bool a2_4, .int .i64 a2_5, .int .i64 a2_6] 53 (0, 0)) (by (with_reducible repeat (first | refine blk_drewN ?_ _ | refine blk_drew ?_ | refine blk_alloc ?_ _)); exact BK611.out)) : gb611 ≠ gb632)); have n12_ := Aside0.mk ((by rw [hg]; exact Nat.ne_of_gt (blk_lt (g := gb611) (o := .cells #[.int .i64 a2_0, .int .i64 a2_1, .int .i64 a2_2, .int .i64 a2_3, .bool a2_4, .int .i64 a2_5, .int .i64 a2_6] 53 (0, 0)) (by (with_reducible repeat (first | refine blk_drewN ?_ _ | refine blk_drew ?_ | refine blk_alloc ?_ _)); exact BK611.out)) : gb632 ≠ gb611)); clear HO616; clear HO619; clear HO631; clear BK610; clear BK611; clear HB; have HO616 := n0_; have HO619 := n1_; have HO631 := n2_; have BK610 := n3_; have BK611 := n4_; have HB := n5_; have BK632 := n6_; have GW632 := n7_; have GE632 := n8_; have NB610_632 := n9_; have NB632_610 := n10_; have NB611_632 := n11_; have NB632_611 := n12_; clear n0_ n1_ n2_ n3_ n4_ n5_ n6_ n7_ n8_ n9_ n10_ n11_ n12_; clear hb hbox hg; obtain ⟨Ao42, co42, eo42⟩ := Kd.S_slice HO631.out; subst eo42; have hnb43 := NB632_610.out; have hnc43 := NB610_632.out; have hnb44 := NB632_611.out; have hnc44 := NB611_632.out; have hcz45_0 : w41.cell? ⟨gb632, 0, none⟩ = some (.slice none 0 0) := (blk_cell BK632.out 0).trans rfl; have hfz45_0 := blk_frozen BK632.out 0) | ((with_reducible refine gate_callee (f := 28) rfl ?_); refine goesL_ (some 37) rfl rfl Try.func28 (by kernel_rfl) rfl #[.slice A1 l1.length c1] rfl (by (try simp only [List.map_toArray, List.map_cons, List.map_nil]); first | done | rfl | (simp only [List.length_drop, List.length_take]; rfl)) ?_; (with_reducible refine (laws_toLoanS.calls k _ _ l1 t633 _ ?side1 ?side2 A23.out).mono ?_); (case side1 => exact Kd.C_below HR1.out (by repeat (first | (with_reducible first | exact HB.out | apply below_alloc | apply pw_below_drewN | apply below_drew1 | refine below_set ?_ GE610.out | refine below_set ?_ GE611.out | refine below_set ?_ GE632.out) | exact HB.out))); (case side2 => exact HC1.out); rintro e w46 ⟨v634, rfl, ho0, hb⟩; refine ⟨_, rfl, ?_⟩; have n0_ := Aside0.mk (Kd.S_below (by (with_reducible repeat (first | apply Kd.S_alloc | apply Kd.S_drewN | apply Kd.S_drew)); exact (Kd.S_mono (Kd.S_far (p := ⟨gb632, 0, none⟩) (Kd.S_types HO616.out BK632.out (by decide)) (fun _ hk => hk.2) (.slice Ao42 t629.length co42)) (fun _ h_ => h_.1))) hb); have n1_ := Aside0.mk (Kd.R_elder' (by (with_reducible repeat (first | apply Kd.R_alloc | apply Kd.R_drewN | apply Kd.R_drew)); exact (Kd.R_mono (Kd.R_far (p := ⟨gb632, 0, none⟩) (Kd.R_types HO619.out BK632.out (by decide)) (fun _ hk => hk.2) (.slice Ao42 t629.length co42)) (fun _ h_ => h_.1))) (Kd.R_base ho0) hb); have n2_ := Aside0.mk (Kd.S_below (by (with_reducible repeat (first | apply Kd.S_alloc | apply Kd.S_drewN | apply Kd.S_drew)); exact (Kd.S_mono (Kd.S_far (p := ⟨gb632, 0, none⟩) (Kd.S_types HO631.out BK632.out (by decide)) (fun _ hk => hk.2) (.slice Ao42 t629.length co42)) (fun _ h_ => h_.1))) hb); have n3_ := Aside0.mk (Kd.R_lower (Kd.R_new' ho0 (Kd.R_lt (by (with_reducible repeat (first | apply Kd.R_alloc | apply Kd.R_drewN | apply Kd.R_drew)); exact (Kd.R_mono (Kd.R_far (p := ⟨gb632, 0, none⟩) (Kd.R_types HO619.out BK632.out (by decide)) (fun _ hk => hk.2) (.slice Ao42 t629.length co42)) (fun _ h_ => h_.1))))) (below_size (by repeat (first | (with_reducible first | exact HB.out | apply below_alloc | apply pw_below_drewN | apply below_drew1 | refine below_set ?_ GE610.out | refine below_set ?_ GE611.out | refine below_set ?_ GE632.out) | exact HB.out)))); have n4_ := Aside0.mk (blk_below (g := gb610) (o := .cells #[.slice A0_0 l0_0.length c0_0] 49 (0, 0)) (by (with_reducible repeat (first | refine blk_drewN ?_ _ | refine blk_drew ?_ | refine blk_alloc ?_ _)); refine blk_far ?_ NB610_632.out _; (with_reducible repeat (first | refine blk_drewN ?_ _ | refine blk_drew ?_ | refine blk_alloc ?_ _)); exact BK610.out) hb); have n5_ := Aside0.mk (blk_below (g := gb611) (o := .cells #[.int .i64 a2_0, .int .i64 a2_1, .int .i64 a2_2, .int .i64 a2_3, .bool a2_4, .int .i64 a2_5, .int .i64 a2_6] 53 (0, 0)) (by (with_reducible repeat (first | refine blk_drewN ?_ _ | refine blk_drew ?_ | refine blk_alloc ?_ _)); refine blk_far ?_ NB611_632.out _; (with_reducible repeat (first | refine blk_drewN ?_ _ | refine blk_drew ?_ | refine blk_alloc ?_ _)); exact BK611.out) hb); have n6_ := Aside0.mk (blk_below (g := gb632) (o := .cells #[.slice Ao42 t629.length co42] 26 (0, 0)) (by (with_reducible repeat (first | refine blk_drewN ?_ _ | refine blk_drew ?_ | refine blk_alloc ?_ _)); refine blk_put (cs := #[.slice none 0 0]) ?_ 0 _ rfl; (with_reducible repeat (first | refine blk_drewN ?_ _ | refine blk_drew ?_ | refine blk_alloc ?_ _)); exact BK632.out) hb); have n7_ := Aside0.mk (below_step (by repeat (first | (with_reducible first | exact HB.out | apply below_alloc | apply pw_below_drewN | apply below_drew1 | refine below_set ?_ GE610.out | refine below_set ?_ GE611.out | refine below_set ?_ GE632.out) | exact HB.out)) hb); clear HO616; clear HO619; clear HO631; clear BK610; clear BK611; clear BK632; clear HB; have HO616 := n0_; have HO619 := n1_; have HO631 := n2_; have HO635 := n3_; have BK610 := n4_; have BK611 := n5_; have BK632 := n6_; have HB := n7_; clear n0_ n1_ n2_ n3_ n4_ n5_ n6_ n7_; (try clear hb); (try clear hb2); (try clear hk); (try clear hi); (try clear ho0)))
      have n0_ := Aside0.mk (Kd.S_drew HO616.out)
      have n1_ := Aside0.mk (Kd.R_drew HO619.out)
      have n2_ := Aside0.mk (Kd.S_drew HO631.out)
      have n3_ := Aside0.mk (Kd.R_drew HO635.out)
      have n4_ := Aside0.mk (blk_drew BK610.out)
      have n5_ := Aside0.mk (blk_drew BK611.out)
      have n6_ := Aside0.mk (blk_drew BK632.out)
      have n7_ := Aside0.mk (below_drew1 HB.out)
      clear HO616
      clear HO619
      clear HO631
      clear HO635
      clear BK610
      clear BK611
      clear BK632
      clear HB
      have HO616 := n0_
      have HO619 := n1_
      have HO631 := n2_
      have HO635 := n3_
      have BK610 := n4_
      have BK611 := n5_
      have BK632 := n6_
      have HB := n7_
      clear n0_ n1_ n2_ n3_ n4_ n5_ n6_ n7_
      refine start_ (n := 10) (S := fun w' => w'.cell? ⟨gb632, 0, none⟩ = some (.slice Ao42 t629.length co42) ∧ w'.cell? ⟨gb611, 0, none⟩ = some (.int .i64 a2_0) ∧ w'.cell? ⟨gb611, 1, none⟩ = some (.int .i64 a2_1) ∧ w'.cell? ⟨gb611, 2, none⟩ = some (.int .i64 a2_2) ∧ w'.cell? ⟨gb611, 3, none⟩ = some (.int .i64 a2_3) ∧ w'.cell? ⟨gb611, 4, none⟩ = some (.bool a2_4) ∧ w'.cell? ⟨gb611, 5, none⟩ = some (.int .i64 a2_5) ∧ w'.cell? ⟨gb611, 6, none⟩ = some (.int .i64 a2_6)) (ds := []) #[false, false, false, false, false, false, false, false, false, false] (by kernel_rfl) rfl rfl ⟨(blk_cell BK632.out 0).trans rfl, (blk_cell BK611.out 0).trans rfl, (blk_cell BK611.out 1).trans rfl, (blk_cell BK611.out 2).trans rfl, (blk_cell BK611.out 3).trans rfl, (blk_cell BK611.out 4).trans rfl, (blk_cell BK611.out 5).trans rfl, (blk_cell BK611.out 6).trans rfl⟩ (fun hHeld => ?_); refine with_tabW laws_FnExactDelayOf.tab11 laws_FnExactDelayOf.bits11 (fun HT_ HW_ => ?_)
      generalize w46.drew = w47 at HO616 HO619 HO631 HO635 BK610 BK611 BK632 HB hHeld ⊢
      refine pure_ (i := 1) (N := some 40) (v := ?_) (a' := ?_) #[false, true, false, false, false, false, false, false, false, false] rfl rfl (any_of HT_.out (by kernel_rfl)) (fun _ _ _ h => h) (Or.inl ⟨by rfl, ?_⟩) ?_ ?_
      rotate_left
      · intro w'
        go_simp
        with_reducible rfl
      rotate_left
      · simp only [Act.put, List.setIfInBounds_toArray, List.set_cons_zero, List.set_cons_succ, i64_w, i32_w]
        rfl
      refine take_ (i := 0) (N := some 39) (v := ?_) (a' := ?_) #[true, true, false, false, false, false, false, false, false, false] rfl rfl (take_ofW HT_.out HW_.out (by kernel_rfl)) (fun _ _ _ h => h) (Or.inl ⟨by rfl, ?_⟩) hHeld ?_ ?_
      rotate_left
      · rintro w' ⟨s0, s1, s2, s3, s4, s5, s6, s7⟩
        go_simp
        with_reducible rfl
      rotate_left
      · simp only [Act.put, List.setIfInBounds_toArray, List.set_cons_zero, List.set_cons_succ, i64_w, i32_w]
        rfl
      refine take_ (i := 2) (N := some 41) (v := ?_) (a' := ?_) #[true, true, true, false, false, false, false, false, false, false] rfl rfl (take_ofW HT_.out HW_.out (by kernel_rfl)) (fun _ _ _ h => h) (Or.inl ⟨by rfl, ?_⟩) hHeld ?_ ?_
      rotate_left
      · rintro w' ⟨s0, s1, s2, s3, s4, s5, s6, s7⟩
        go_simp
        with_reducible rfl
      rotate_left
      · simp only [Act.put, List.setIfInBounds_toArray, List.set_cons_zero, List.set_cons_succ, i64_w, i32_w]
        rfl
      refine one_ (i := 3) (N := some 42) #[true, true, true, true, false, false, false, false, false, false] rfl rfl (one_of HT_.out (by kernel_rfl)) (by decide) (fun K hK => ?_)
      refine goes_ Try.func29 (by kernel_rfl) rfl #[.agg #[.int .i64 a2_0, .int .i64 a2_1, .int .i64 a2_2, .int .i64 a2_3, .bool a2_4, .int .i64 a2_5, .int .i64 a2_6]] (by rfl) rfl rfl (by (try simp only [List.map_toArray, List.map_cons, List.map_nil]); first | done | rfl | (simp only [List.length_drop, List.length_take]; rfl)) ?_
      with_reducible refine (laws_toLoan.calls a2_0 a2_1 a2_2 a2_3 a2_4 a2_5 a2_6 t636 t637 t638 t639 t640 t641 t642 _ A24.out).mono ?_
      rintro e w48 ⟨rfl, hb⟩
      refine ⟨_, rfl, ?_⟩
      have n0_ := Aside0.mk (Kd.S_below (by (with_reducible repeat (first | apply Kd.S_alloc | apply Kd.S_drewN | apply Kd.S_drew)); exact HO616.out) hb)
      have n1_ := Aside0.mk (Kd.R_below (by (with_reducible repeat (first | apply Kd.R_alloc | apply Kd.R_drewN | apply Kd.R_drew)); exact HO619.out) hb)
      have n2_ := Aside0.mk (Kd.S_below (by (with_reducible repeat (first | apply Kd.S_alloc | apply Kd.S_drewN | apply Kd.S_drew)); exact HO631.out) hb)
      have n3_ := Aside0.mk (Kd.R_below (by (with_reducible repeat (first | apply Kd.R_alloc | apply Kd.R_drewN | apply Kd.R_drew)); exact HO635.out) hb)
      have n4_ := Aside0.mk (blk_below (g := gb610) (o := .cells #[.slice A0_0 l0_0.length c0_0] 49 (0, 0)) (by (with_reducible repeat (first | refine blk_drewN ?_ _ | refine blk_drew ?_ | refine blk_alloc ?_ _)); exact BK610.out) hb)
      have n5_ := Aside0.mk (blk_below (g := gb611) (o := .cells #[.int .i64 a2_0, .int .i64 a2_1, .int .i64 a2_2, .int .i64 a2_3, .bool a2_4, .int .i64 a2_5, .int .i64 a2_6] 53 (0, 0)) (by (with_reducible repeat (first | refine blk_drewN ?_ _ | refine blk_drew ?_ | refine blk_alloc ?_ _)); exact BK611.out) hb)
      have n6_ := Aside0.mk (blk_below (g := gb632) (o := .cells #[.slice Ao42 t629.length co42] 26 (0, 0)) (by (with_reducible repeat (first | refine blk_drewN ?_ _ | refine blk_drew ?_ | refine blk_alloc ?_ _)); exact BK632.out) hb)
      have n7_ := Aside0.mk (below_step (by repeat (first | (with_reducible first | exact HB.out | apply below_alloc | apply pw_below_drewN | apply below_drew1 | refine below_set ?_ GE610.out | refine below_set ?_ GE611.out | refine below_set ?_ GE632.out) | exact HB.out)) hb)
      clear HO616
      clear HO619
      clear HO631
      clear HO635
      clear BK610
      clear BK611
      clear BK632
      clear HB
      have HO616 := n0_
      have HO619 := n1_
      have HO631 := n2_
      have HO635 := n3_
      have BK610 := n4_
      have BK611 := n5_
      have BK632 := n6_
      have HB := n7_
      clear n0_ n1_ n2_ n3_ n4_ n5_ n6_ n7_
      (try clear hb)
      (try clear hb2)
      (try clear hk)
      (try clear hi)
      obtain ⟨Ao49, co49, eo49⟩ := Kd.R_slice HO635.out
      (first | subst eo49 | (injection eo49 with f1_ f2_ f3_; have f4_ := f1_.symm; have f5_ := f3_.symm; clear f1_ f2_ f3_; subst f4_; subst f5_))
      refine hK.out _ _ ⟨(blk_cell BK632.out 0).trans rfl, (blk_cell BK611.out 0).trans rfl, (blk_cell BK611.out 1).trans rfl, (blk_cell BK611.out 2).trans rfl, (blk_cell BK611.out 3).trans rfl, (blk_cell BK611.out 4).trans rfl, (blk_cell BK611.out 5).trans rfl, (blk_cell BK611.out 6).trans rfl⟩ (fun hHeld => ?_)
      clear hK K
      refine norm_ (a' := ?_) ?_ ?_
      rotate_left
      · show Act.put _ (some 42) _ = _
        simp only [Act.put, List.setIfInBounds_toArray, List.set_cons_zero, List.set_cons_succ, i64_w, i32_w]
        rfl
      refine one_ (i := 4) (N := some 43) #[true, true, true, true, true, false, false, false, false, false] rfl rfl (one_of HT_.out (by kernel_rfl)) (by decide) (fun K hK => ?_)
      refine goes_ Try.func30 (by kernel_rfl) rfl #[.agg #[.slice Ao42 t629.length co42], .slice Ao49 t633.length co49, .agg #[.int .i64 t636, .int .i64 t637, .int .i64 t638, .int .i64 t639, .bool t640, .int .i64 t641, .int .i64 t642]] (by rfl) rfl rfl (by (try simp only [List.map_toArray, List.map_cons, List.map_nil]); first | done | rfl | (simp only [List.length_drop, List.length_take]; rfl)) ?_
      with_reducible refine (impl_DelayOf.calls _ _ t629 _ _ t633 t636 t637 t638 t639 t640 t641 t642 t643 t644 _ ?side1 ?side2 ?side3 ?side4 A25.out).mono ?_
      (case side1 => repeat (first | exact (Kd.S_reads' HO631.out).2.2 | (with_reducible refine Kd.C_alloc ?_ _) | (with_reducible refine Kd.C_drewN ?_ _) | (with_reducible refine Kd.C_drew ?_)))
      (case side2 => exact (Kd.S_reads' HO631.out).2.1)
      (case side3 => repeat (first | exact (Kd.R_reads' HO635.out).2.2 | (with_reducible refine Kd.C_alloc ?_ _) | (with_reducible refine Kd.C_drewN ?_ _) | (with_reducible refine Kd.C_drew ?_)))
      (case side4 => exact (Kd.R_reads' HO635.out).2.1)
      rintro e w50 ⟨rfl, hb⟩
      refine ⟨_, rfl, ?_⟩
      have n0_ := Aside0.mk (Kd.S_below (by (with_reducible repeat (first | apply Kd.S_alloc | apply Kd.S_drewN | apply Kd.S_drew)); exact HO616.out) hb)
      have n1_ := Aside0.mk (Kd.R_below (by (with_reducible repeat (first | apply Kd.R_alloc | apply Kd.R_drewN | apply Kd.R_drew)); exact HO619.out) hb)
      have n2_ := Aside0.mk (Kd.S_below (by (with_reducible repeat (first | apply Kd.S_alloc | apply Kd.S_drewN | apply Kd.S_drew)); exact HO631.out) hb)
      have n3_ := Aside0.mk (Kd.R_below (by (with_reducible repeat (first | apply Kd.R_alloc | apply Kd.R_drewN | apply Kd.R_drew)); exact HO635.out) hb)
      have n4_ := Aside0.mk (blk_below (g := gb610) (o := .cells #[.slice A0_0 l0_0.length c0_0] 49 (0, 0)) (by (with_reducible repeat (first | refine blk_drewN ?_ _ | refine blk_drew ?_ | refine blk_alloc ?_ _)); exact BK610.out) hb)
      have n5_ := Aside0.mk (blk_below (g := gb611) (o := .cells #[.int .i64 a2_0, .int .i64 a2_1, .int .i64 a2_2, .int .i64 a2_3, .bool a2_4, .int .i64 a2_5, .int .i64 a2_6] 53 (0, 0)) (by (with_reducible repeat (first | refine blk_drewN ?_ _ | refine blk_drew ?_ | refine blk_alloc ?_ _)); exact BK611.out) hb)
      have n6_ := Aside0.mk (blk_below (g := gb632) (o := .cells #[.slice Ao42 t629.length co42] 26 (0, 0)) (by (with_reducible repeat (first | refine blk_drewN ?_ _ | refine blk_drew ?_ | refine blk_alloc ?_ _)); exact BK632.out) hb)
      have n7_ := Aside0.mk (below_step (by repeat (first | (with_reducible first | exact HB.out | apply below_alloc | apply pw_below_drewN | apply below_drew1 | refine below_set ?_ GE610.out | refine below_set ?_ GE611.out | refine below_set ?_ GE632.out) | exact HB.out)) hb)
      clear HO616
      clear HO619
      clear HO631
      clear HO635
      clear BK610
      clear BK611
      clear BK632
      clear HB
      have HO616 := n0_
      have HO619 := n1_
      have HO631 := n2_
      have HO635 := n3_
      have BK610 := n4_
      have BK611 := n5_
      have BK632 := n6_
      have HB := n7_
      clear n0_ n1_ n2_ n3_ n4_ n5_ n6_ n7_
      (try clear hb)
      (try clear hb2)
      (try clear hk)
      (try clear hi)
      refine hK.out _ _ ⟨(blk_cell BK632.out 0).trans rfl, (blk_cell BK611.out 0).trans rfl, (blk_cell BK611.out 1).trans rfl, (blk_cell BK611.out 2).trans rfl, (blk_cell BK611.out 3).trans rfl, (blk_cell BK611.out 4).trans rfl, (blk_cell BK611.out 5).trans rfl, (blk_cell BK611.out 6).trans rfl⟩ (fun hHeld => ?_)
      clear hK K
      refine norm_ (a' := ?_) ?_ ?_
      rotate_left
      · show Act.put _ (some 43) _ = _
        simp only [Act.put, List.setIfInBounds_toArray, List.set_cons_zero, List.set_cons_succ, i64_w, i32_w]
        rfl
      refine pure_ (i := 5) (N := some 38) (v := ?_) (a' := ?_) #[true, true, true, true, true, true, false, false, false, false] rfl rfl (any_of HT_.out (by kernel_rfl)) (fun _ _ _ h => h) (Or.inl ⟨by rfl, ?_⟩) ?_ ?_
      rotate_left
      · intro w'
        go_simp
        with_reducible rfl
      rotate_left
      · simp only [Act.put, List.setIfInBounds_toArray, List.set_cons_zero, List.set_cons_succ, i64_w, i32_w]
        rfl
      refine pure_ (i := 6) (N := some 44) (v := ?_) (a' := ?_) #[true, true, true, true, true, true, true, false, false, false] rfl rfl (any_of HT_.out (by kernel_rfl)) (fun _ _ _ h => h) (Or.inl ⟨by rfl, ?_⟩) ?_ ?_
      rotate_left
      · intro w'
        go_simp
        with_reducible rfl
      rotate_left
      · simp only [Act.put, List.setIfInBounds_toArray, List.set_cons_zero, List.set_cons_succ, i64_w, i32_w]
        rfl
      refine pure_ (i := 7) (N := some 45) (v := ?_) (a' := ?_) #[true, true, true, true, true, true, true, true, false, false] rfl rfl (any_of HT_.out (by kernel_rfl)) (fun _ _ _ h => h) (Or.inl ⟨by rfl, ?_⟩) ?_ ?_
      rotate_left
      · intro w'
        go_simp
        with_reducible rfl
      rotate_left
      · simp only [Act.put, List.setIfInBounds_toArray, List.set_cons_zero, List.set_cons_succ, i64_w, i32_w]
        rfl
      refine pure_ (i := 8) (N := some 12) (v := ?_) (a' := ?_) #[true, true, true, true, true, true, true, true, true, false] rfl rfl (any_of HT_.out (by kernel_rfl)) (fun _ _ _ h => h) (Or.inl ⟨by rfl, ?_⟩) ?_ ?_
      rotate_left
      · intro w'
        go_simp
        with_reducible rfl
      rotate_left
      · simp only [Act.put, List.setIfInBounds_toArray, List.set_cons_zero, List.set_cons_succ, i64_w, i32_w]
        rfl
      refine pure_ (i := 9) (N := some 13) (v := ?_) (a' := ?_) #[true, true, true, true, true, true, true, true, true, true] rfl rfl (any_of HT_.out (by kernel_rfl)) (fun _ _ _ h => h) (Or.inl ⟨by rfl, ?_⟩) ?_ ?_
      rotate_left
      · intro w'
        go_simp
        with_reducible rfl
      rotate_left
      · simp only [Act.put, List.setIfInBounds_toArray, List.set_cons_zero, List.set_cons_succ, i64_w, i32_w]
        rfl
      refine done_ (done_of HT_.out (by kernel_rfl)) ?_
      go_upto_region 12 with (fail)
      go_cut [53] (fun v53 wc => ∃ (kq : Nat) (x53_25 : Bool), v53 = .bool x53_25 ∧ Aside0 (laws_FnExactDelayOf.j0 kq l1 t633 x53_25 l0_0 t629 = some r) ∧ Aside0 (kq ≤ k) ∧ Aside0 (Kd.R kimplLoan 30 wc w.heap.size (fun _ => True) (.slice Ao49 t633.length co49) t633) ∧ Aside0 (Kd.S (Kd.slice 5 (Kd.int .u8)) 22 wc w.heap.size (fun _ => True) (.slice Ao42 t629.length co42) t629) ∧ Aside0 (wc.heap[gb610]? = some (.cells #[(.slice A0_0 l0_0.length c0_0)] 49 (0, 0))) ∧ Aside0 (wc.heap[gb611]? = some (.cells #[.int .i64 a2_0, .int .i64 a2_1, .int .i64 a2_2, .int .i64 a2_3, .bool a2_4, .int .i64 a2_5, .int .i64 a2_6] 53 (0, 0))) ∧ Aside0 (wc.heap[gb632]? = some (.cells #[(.slice Ao42 t629.length co42)] 26 (0, 0))) ∧ Aside0 (Below w.heap.size w wc))
      case first =>
        have H := HC26.out
        clear HC26
        by_cases c51 : t643 = t627
        · rw [if_pos c51] at H
          have c51b0 : (t643 == t627) = true := beq_iff_eq.mpr c51
          have c51b1 : (t643 != t627) = false := bne_eq_false_iff_eq.mpr c51
          clear c51
          (first | rw [c51b0] | (simp only [i64_w, i32_w]; rw [c51b0]) | skip)
          have H' := Aside0.mk H
          clear H
          go_wp2
          go_meet
          case rel => exact ⟨_, ((t644 != t628)), (by first | rfl | (simp; done) | (simp [*]; done)), H', ⟨by first | omega | exact Nat.le_refl _⟩, ⟨by (with_reducible repeat (first | apply Kd.R_alloc | apply Kd.R_drewN | apply Kd.R_drew)); exact Kd.R_mono HO635.out (fun _ hk => trivial)⟩, ⟨by (with_reducible repeat (first | apply Kd.S_alloc | apply Kd.S_drewN | apply Kd.S_drew)); exact Kd.S_mono HO631.out (fun _ hk => trivial)⟩, ⟨by (with_reducible repeat (first | refine blk_drewN ?_ _ | refine blk_drew ?_ | refine blk_alloc ?_ _)); exact BK610.out⟩, ⟨by (with_reducible repeat (first | refine blk_drewN ?_ _ | refine blk_drew ?_ | refine blk_alloc ?_ _)); exact BK611.out⟩, ⟨by (with_reducible repeat (first | refine blk_drewN ?_ _ | refine blk_drew ?_ | refine blk_alloc ?_ _)); exact BK632.out⟩, ⟨by repeat (first | (with_reducible first | exact HB.out | apply below_alloc | apply pw_below_drewN | apply below_drew1 | refine below_set ?_ GE610.out | refine below_set ?_ GE611.out | refine below_set ?_ GE632.out) | exact HB.out)⟩⟩
        · rw [if_neg c51] at H
          have c51b0 : (t643 == t627) = false := beq_eq_false_iff_ne.mpr c51
          have c51b1 : (t643 != t627) = true := bne_iff_ne.mpr c51
          (first | rw [c51b0] | (simp only [i64_w, i32_w]; rw [c51b0]) | skip)
          have H' := Aside0.mk H
          clear H
          go_wp2
          go_meet
          case rel => exact ⟨_, (true), (by first | rfl | (simp; done) | (simp [*]; done)), H', ⟨by first | omega | exact Nat.le_refl _⟩, ⟨by (with_reducible repeat (first | apply Kd.R_alloc | apply Kd.R_drewN | apply Kd.R_drew)); exact Kd.R_mono HO635.out (fun _ hk => trivial)⟩, ⟨by (with_reducible repeat (first | apply Kd.S_alloc | apply Kd.S_drewN | apply Kd.S_drew)); exact Kd.S_mono HO631.out (fun _ hk => trivial)⟩, ⟨by (with_reducible repeat (first | refine blk_drewN ?_ _ | refine blk_drew ?_ | refine blk_alloc ?_ _)); exact BK610.out⟩, ⟨by (with_reducible repeat (first | refine blk_drewN ?_ _ | refine blk_drew ?_ | refine blk_alloc ?_ _)); exact BK611.out⟩, ⟨by (with_reducible repeat (first | refine blk_drewN ?_ _ | refine blk_drew ?_ | refine blk_alloc ?_ _)); exact BK632.out⟩, ⟨by repeat (first | (with_reducible first | exact HB.out | apply below_alloc | apply pw_below_drewN | apply below_drew1 | refine below_set ?_ GE610.out | refine below_set ?_ GE611.out | refine below_set ?_ GE632.out) | exact HB.out)⟩⟩
      case rest =>
        clear HC26
        try clear c1
        try clear c2
        try clear p2
        try clear c3
        try clear c4
        try clear c5
        try clear c5b0
        try clear c8
        try clear c12
        try clear c12b0
        try clear c15
        try clear c24
        try clear c25
        try clear c26
        try clear c27
        try clear c28
        try clear c29
        try clear c30
        try clear c43
        try clear c44
        try clear c51
        try clear c51b0
        try clear c51b1
        try clear hcz16_0
        try clear hcz30_0
        try clear hcz39_0
        try clear hcz45_0
        try clear hcz9_0
        try clear hfz16_0
        try clear hfz30_0
        try clear hfz39_0
        try clear hfz45_0
        try clear hfz9_0
        obtain ⟨kq, x53_25, rfl, HA, HJ25, HO_11, HO_633000, BK610, BK611, BK632, HB⟩ := hcut
        cases kq with
        | zero => exact absurd HA.out (by simp [laws_FnExactDelayOf.j0])
        | succ kj25 =>
          have H := HA.out
          clear HA
          simp only [laws_FnExactDelayOf.j0] at H
          by_cases c52 : x53_25 = true
          · subst c52
            have H1 : (some false) = some r := by rw [if_pos rfl] at H; exact H
            clear H
            have H := H1
            clear H1
            obtain rfl := Option.some.inj H
            go_wp2
            go_ret
            exact ⟨by first | rfl | (simp [errW_none, errW_some] <;> rfl) | (simp [*, errW_none, errW_some] <;> rfl), by repeat (first | (with_reducible first | exact HB.out | apply below_alloc | apply pw_below_drewN | apply below_drew1 | refine below_set ?_ GE610.out | refine below_set ?_ GE611.out | refine below_set ?_ GE632.out) | exact HB.out)⟩
          · replace c52 := Bool.eq_false_iff.mpr c52
            subst c52
            have H1 : ((laws_toMemory.f l0_0).bind fun t645 => ((laws_eqMemory.f kj25 t629 t645).bind fun t648 => (if t648 = true then ((laws_toLoanS.f kj25 l1).bind fun t649 => ((laws_eqLoanS.f kj25 t633 t649).bind fun t652 => (if t652 = true then (some true) else (some false)))) else (some false)))) = some r := by rw [if_neg (show ¬ (false = true) by decide)] at H; exact H
            clear H
            have H := H1
            clear H1
            replace H := Option.bind_eq_some_iff.mp H
            obtain ⟨t645, A530, H⟩ := H
            replace H : ((laws_eqMemory.f kj25 t629 t645).bind fun t648 => (if t648 = true then ((laws_toLoanS.f kj25 l1).bind fun t649 => ((laws_eqLoanS.f kj25 t633 t649).bind fun t652 => (if t652 = true then (some true) else (some false)))) else (some false))) = some r := H
            have A53 := Aside0.mk A530
            clear A530
            replace H := Option.bind_eq_some_iff.mp H
            obtain ⟨t648, A540, H⟩ := H
            replace H : (if t648 = true then ((laws_toLoanS.f kj25 l1).bind fun t649 => ((laws_eqLoanS.f kj25 t633 t649).bind fun t652 => (if t652 = true then (some true) else (some false)))) else (some false)) = some r := H
            have A54 := Aside0.mk A540
            clear A540
            by_cases c55 : t648 = true
            · subst c55
              have H1 : ((laws_toLoanS.f kj25 l1).bind fun t649 => ((laws_eqLoanS.f kj25 t633 t649).bind fun t652 => (if t652 = true then (some true) else (some false)))) = some r := by rw [if_pos rfl] at H; exact H
              clear H
              have H := H1
              clear H1
              replace H := Option.bind_eq_some_iff.mp H
              obtain ⟨t649, A560, H⟩ := H
              replace H : ((laws_eqLoanS.f kj25 t633 t649).bind fun t652 => (if t652 = true then (some true) else (some false))) = some r := H
              have A56 := Aside0.mk A560
              clear A560
              replace H := Option.bind_eq_some_iff.mp H
              obtain ⟨t652, A570, H⟩ := H
              replace H : (if t652 = true then (some true) else (some false)) = some r := H
              have A57 := Aside0.mk A570
              clear A570
              by_cases c58 : t652 = true
              · subst c58
                have H1 : (some true) = some r := by rw [if_pos rfl] at H; exact H
                clear H
                have H := H1
                clear H1
                obtain rfl := Option.some.inj H
                try go_wp2
                have n0_ := Aside0.mk (Kd.R_drew HO_11.out)
                have n1_ := Aside0.mk (Kd.S_drew HO_633000.out)
                have n2_ := Aside0.mk (blk_drew BK610.out)
                have n3_ := Aside0.mk (blk_drew BK611.out)
                have n4_ := Aside0.mk (blk_drew BK632.out)
                have n5_ := Aside0.mk (below_drew1 HB.out)
                clear HO_11
                clear HO_633000
                clear BK610
                clear BK611
                clear BK632
                clear HB
                have HO_11 := n0_
                have HO_633000 := n1_
                have BK610 := n2_
                have BK611 := n3_
                have BK632 := n4_
                have HB := n5_
                clear n0_ n1_ n2_ n3_ n4_ n5_
                refine start_ (n := 5) (S := fun w' => w'.cell? ⟨gb632, 0, none⟩ = some (.slice Ao42 t629.length co42) ∧ w'.cell? ⟨gb610, 0, none⟩ = some (.slice A0_0 l0_0.length c0_0)) (ds := []) #[false, false, false, false, false] (by kernel_rfl) rfl rfl ⟨(blk_cell BK632.out 0).trans rfl, (blk_cell BK610.out 0).trans rfl⟩ (fun hHeld => ?_)
                generalize wc.drew = w59 at HO_11 HO_633000 BK610 BK611 BK632 HB hHeld ⊢
                refine take_ (i := 0) (N := some 54) (v := ?_) (a' := ?_) #[true, false, false, false, false] rfl rfl (by kernel_rfl) (fun _ _ _ h => h) (Or.inl ⟨by rfl, ?_⟩) hHeld ?_ ?_
                rotate_left
                · rintro w' ⟨s0, s1⟩
                  go_simp
                  with_reducible rfl
                rotate_left
                · simp only [Act.put, List.setIfInBounds_toArray, List.set_cons_zero, List.set_cons_succ, i64_w, i32_w]
                  rfl
                refine take_ (i := 1) (N := some 55) (v := ?_) (a' := ?_) #[true, true, false, false, false] rfl rfl (by kernel_rfl) (fun _ _ _ h => h) (Or.inl ⟨by rfl, ?_⟩) hHeld ?_ ?_
                rotate_left
                · rintro w' ⟨s0, s1⟩
                  go_simp
                  with_reducible rfl
                rotate_left
                · simp only [Act.put, List.setIfInBounds_toArray, List.set_cons_zero, List.set_cons_succ, i64_w, i32_w]
                  rfl
                refine one_ (i := 2) (N := some 56) #[true, true, true, false, false] rfl rfl (by kernel_rfl) (by decide) (fun K hK => ?_)
                refine goes_ Try.func27 (by kernel_rfl) rfl #[.agg #[.slice A0_0 l0_0.length c0_0]] (by rfl) rfl rfl (by (try simp only [List.map_toArray, List.map_cons, List.map_nil]); first | done | rfl | (simp only [List.length_drop, List.length_take]; rfl)) ?_
                with_reducible refine (laws_toMemory.calls _ _ l0_0 t645 _ ?side1 ?side2 A53.out).mono ?_
                (case side1 => repeat (first | exact (Kd.C_below HR0_0.out HB.out) | (with_reducible refine Kd.C_alloc ?_ _) | (with_reducible refine Kd.C_drewN ?_ _) | (with_reducible refine Kd.C_drew ?_)))
                (case side2 => exact HC0_0.out)
                rintro e w60 ⟨v646, rfl, ho0, hb⟩
                refine ⟨_, rfl, ?_⟩
                have n0_ := Aside0.mk (Kd.R_below (by (with_reducible repeat (first | apply Kd.R_alloc | apply Kd.R_drewN | apply Kd.R_drew)); exact HO_11.out) hb)
                have n1_ := Aside0.mk (Kd.S_elder' (by (with_reducible repeat (first | apply Kd.S_alloc | apply Kd.S_drewN | apply Kd.S_drew)); exact HO_633000.out) (Kd.S_base ho0) hb)
                have n2_ := Aside0.mk (Kd.S_lower (Kd.S_new' ho0 (Kd.S_lt (by (with_reducible repeat (first | apply Kd.S_alloc | apply Kd.S_drewN | apply Kd.S_drew)); exact HO_633000.out))) (below_size (by repeat (first | (with_reducible first | exact HB.out | apply below_alloc | apply pw_below_drewN | apply below_drew1 | refine below_set ?_ GE610.out | refine below_set ?_ GE611.out | refine below_set ?_ GE632.out) | exact HB.out))))
                have n3_ := Aside0.mk (blk_below (g := gb610) (o := .cells #[.slice A0_0 l0_0.length c0_0] 49 (0, 0)) (by (with_reducible repeat (first | refine blk_drewN ?_ _ | refine blk_drew ?_ | refine blk_alloc ?_ _)); exact BK610.out) hb)
                have n4_ := Aside0.mk (blk_below (g := gb611) (o := .cells #[.int .i64 a2_0, .int .i64 a2_1, .int .i64 a2_2, .int .i64 a2_3, .bool a2_4, .int .i64 a2_5, .int .i64 a2_6] 53 (0, 0)) (by (with_reducible repeat (first | refine blk_drewN ?_ _ | refine blk_drew ?_ | refine blk_alloc ?_ _)); exact BK611.out) hb)
                have n5_ := Aside0.mk (blk_below (g := gb632) (o := .cells #[.slice Ao42 t629.length co42] 26 (0, 0)) (by (with_reducible repeat (first | refine blk_drewN ?_ _ | refine blk_drew ?_ | refine blk_alloc ?_ _)); exact BK632.out) hb)
                have n6_ := Aside0.mk (below_step (by repeat (first | (with_reducible first | exact HB.out | apply below_alloc | apply pw_below_drewN | apply below_drew1 | refine below_set ?_ GE610.out | refine below_set ?_ GE611.out | refine below_set ?_ GE632.out) | exact HB.out)) hb)
                clear HO_11
                clear HO_633000
                clear BK610
                clear BK611
                clear BK632
                clear HB
                have HO_11 := n0_
                have HO_633000 := n1_
                have HO647 := n2_
                have BK610 := n3_
                have BK611 := n4_
                have BK632 := n5_
                have HB := n6_
                clear n0_ n1_ n2_ n3_ n4_ n5_ n6_
                (try clear hb)
                (try clear hb2)
                (try clear hk)
                (try clear hi)
                (try clear ho0)
                obtain ⟨Ao61, co61, eo61⟩ := Kd.S_slice HO647.out
                (first | subst eo61 | (injection eo61 with f1_ f2_ f3_; have f4_ := f1_.symm; have f5_ := f3_.symm; clear f1_ f2_ f3_; subst f4_; subst f5_))
                refine hK.out _ _ ⟨(blk_cell BK632.out 0).trans rfl, (blk_cell BK610.out 0).trans rfl⟩ (fun hHeld => ?_)
                clear hK K
                refine norm_ (a' := ?_) ?_ ?_
                rotate_left
                · show Act.put _ (some 56) _ = _
                  simp only [Act.put, List.setIfInBounds_toArray, List.set_cons_zero, List.set_cons_succ, i64_w, i32_w]
                  rfl
                refine one_ (i := 3) (N := some 57) #[true, true, true, true, false] rfl rfl (by kernel_rfl) (by decide) (fun K hK => ?_)
                refine goes_ Try.func31 (by kernel_rfl) rfl #[.agg #[.slice Ao42 t629.length co42], .agg #[.slice Ao61 t645.length co61]] (by rfl) rfl rfl (by (try simp only [List.map_toArray, List.map_cons, List.map_nil]); first | done | rfl | (simp only [List.length_drop, List.length_take]; rfl)) ?_
                with_reducible refine (laws_eqMemory.calls kj25 _ _ t629 _ _ t645 true _ ?side1 ?side2 ?side3 ?side4 A54.out).mono ?_
                (case side1 => repeat (first | exact (Kd.S_reads' HO_633000.out).2.2 | (with_reducible refine Kd.C_alloc ?_ _) | (with_reducible refine Kd.C_drewN ?_ _) | (with_reducible refine Kd.C_drew ?_)))
                (case side2 => exact (Kd.S_reads' HO_633000.out).2.1)
                (case side3 => repeat (first | exact (Kd.S_reads' HO647.out).2.2 | (with_reducible refine Kd.C_alloc ?_ _) | (with_reducible refine Kd.C_drewN ?_ _) | (with_reducible refine Kd.C_drew ?_)))
                (case side4 => exact (Kd.S_reads' HO647.out).2.1)
                rintro e w62 ⟨rfl, hb⟩
                refine ⟨_, rfl, ?_⟩
                have n0_ := Aside0.mk (Kd.R_below (by (with_reducible repeat (first | apply Kd.R_alloc | apply Kd.R_drewN | apply Kd.R_drew)); exact HO_11.out) hb)
                have n1_ := Aside0.mk (Kd.S_below (by (with_reducible repeat (first | apply Kd.S_alloc | apply Kd.S_drewN | apply Kd.S_drew)); exact HO_633000.out) hb)
                have n2_ := Aside0.mk (Kd.S_below (by (with_reducible repeat (first | apply Kd.S_alloc | apply Kd.S_drewN | apply Kd.S_drew)); exact HO647.out) hb)
                have n3_ := Aside0.mk (blk_below (g := gb610) (o := .cells #[.slice A0_0 l0_0.length c0_0] 49 (0, 0)) (by (with_reducible repeat (first | refine blk_drewN ?_ _ | refine blk_drew ?_ | refine blk_alloc ?_ _)); exact BK610.out) hb)
                have n4_ := Aside0.mk (blk_below (g := gb611) (o := .cells #[.int .i64 a2_0, .int .i64 a2_1, .int .i64 a2_2, .int .i64 a2_3, .bool a2_4, .int .i64 a2_5, .int .i64 a2_6] 53 (0, 0)) (by (with_reducible repeat (first | refine blk_drewN ?_ _ | refine blk_drew ?_ | refine blk_alloc ?_ _)); exact BK611.out) hb)
                have n5_ := Aside0.mk (blk_below (g := gb632) (o := .cells #[.slice Ao42 t629.length co42] 26 (0, 0)) (by (with_reducible repeat (first | refine blk_drewN ?_ _ | refine blk_drew ?_ | refine blk_alloc ?_ _)); exact BK632.out) hb)
                have n6_ := Aside0.mk (below_step (by repeat (first | (with_reducible first | exact HB.out | apply below_alloc | apply pw_below_drewN | apply below_drew1 | refine below_set ?_ GE610.out | refine below_set ?_ GE611.out | refine below_set ?_ GE632.out) | exact HB.out)) hb)
                clear HO_11
                clear HO_633000
                clear HO647
                clear BK610
                clear BK611
                clear BK632
                clear HB
                have HO_11 := n0_
                have HO_633000 := n1_
                have HO647 := n2_
                have BK610 := n3_
                have BK611 := n4_
                have BK632 := n5_
                have HB := n6_
                clear n0_ n1_ n2_ n3_ n4_ n5_ n6_
                (try clear hb)
                (try clear hb2)
                (try clear hk)
                (try clear hi)
                refine hK.out _ _ ⟨(blk_cell BK632.out 0).trans rfl, (blk_cell BK610.out 0).trans rfl⟩ (fun hHeld => ?_)
                clear hK K
                refine norm_ (a' := ?_) ?_ ?_
                rotate_left
                · show Act.put _ (some 57) _ = _
                  simp only [Act.put, List.setIfInBounds_toArray, List.set_cons_zero, List.set_cons_succ, i64_w, i32_w]
                  rfl
                refine pure_ (i := 4) (N := some 58) (v := ?_) (a' := ?_) #[true, true, true, true, true] rfl rfl (by kernel_rfl) (fun _ _ _ h => h) (Or.inl ⟨by rfl, ?_⟩) ?_ ?_
                rotate_left
                · intro w'
                  go_simp
                  with_reducible rfl
                rotate_left
                · simp only [Act.put, List.setIfInBounds_toArray, List.set_cons_zero, List.set_cons_succ, i64_w, i32_w]
                  rfl
                refine done_ (by kernel_rfl) ?_
                try go_wp2_with (first | ((with_reducible refine gate_callee (f := 28) rfl ?_); refine goesL_ (some 61) rfl rfl Try.func28 (by kernel_rfl) rfl #[.slice A1 l1.length c1] rfl (by (try simp only [List.map_toArray, List.map_cons, List.map_nil]); first | done | rfl | (simp only [List.length_drop, List.length_take]; rfl)) ?_; (with_reducible refine (laws_toLoanS.calls kj25 _ _ l1 t649 _ ?side1 ?side2 A56.out).mono ?_); (case side1 => repeat (first | exact (Kd.C_below HR1.out HB.out) | (with_reducible refine Kd.C_alloc ?_ _) | (with_reducible refine Kd.C_drewN ?_ _) | (with_reducible refine Kd.C_drew ?_))); (case side2 => exact HC1.out); rintro e w63 ⟨v650, rfl, ho0, hb⟩; refine ⟨_, rfl, ?_⟩; have n0_ := Aside0.mk (Kd.R_elder' (by (with_reducible repeat (first | apply Kd.R_alloc | apply Kd.R_drewN | apply Kd.R_drew)); exact HO_11.out) (Kd.R_base ho0) hb); have n1_ := Aside0.mk (Kd.S_below (by (with_reducible repeat (first | apply Kd.S_alloc | apply Kd.S_drewN | apply Kd.S_drew)); exact HO_633000.out) hb); have n2_ := Aside0.mk (Kd.S_below (by (with_reducible repeat (first | apply Kd.S_alloc | apply Kd.S_drewN | apply Kd.S_drew)); exact HO647.out) hb); have n3_ := Aside0.mk (Kd.R_lower (Kd.R_new' ho0 (Kd.R_lt (by (with_reducible repeat (first | apply Kd.R_alloc | apply Kd.R_drewN | apply Kd.R_drew)); exact HO_11.out))) (below_size (by repeat (first | (with_reducible first | exact HB.out | apply below_alloc | apply pw_below_drewN | apply below_drew1 | refine below_set ?_ GE610.out | refine below_set ?_ GE611.out | refine below_set ?_ GE632.out) | exact HB.out)))); have n4_ := Aside0.mk (blk_below (g := gb610) (o := .cells #[.slice A0_0 l0_0.length c0_0] 49 (0, 0)) (by (with_reducible repeat (first | refine blk_drewN ?_ _ | refine blk_drew ?_ | refine blk_alloc ?_ _)); exact BK610.out) hb); have n5_ := Aside0.mk (blk_below (g := gb611) (o := .cells #[.int .i64 a2_0, .int .i64 a2_1, .int .i64 a2_2, .int .i64 a2_3, .bool a2_4, .int .i64 a2_5, .int .i64 a2_6] 53 (0, 0)) (by (with_reducible repeat (first | refine blk_drewN ?_ _ | refine blk_drew ?_ | refine blk_alloc ?_ _)); exact BK611.out) hb); have n6_ := Aside0.mk (blk_below (g := gb632) (o := .cells #[.slice Ao42 t629.length co42] 26 (0, 0)) (by (with_reducible repeat (first | refine blk_drewN ?_ _ | refine blk_drew ?_ | refine blk_alloc ?_ _)); exact BK632.out) hb); have n7_ := Aside0.mk (below_step (by repeat (first | (with_reducible first | exact HB.out | apply below_alloc | apply pw_below_drewN | apply below_drew1 | refine below_set ?_ GE610.out | refine below_set ?_ GE611.out | refine below_set ?_ GE632.out) | exact HB.out)) hb); clear HO_11; clear HO_633000; clear HO647; clear BK610; clear BK611; clear BK632; clear HB; have HO_11 := n0_; have HO_633000 := n1_; have HO647 := n2_; have HO651 := n3_; have BK610 := n4_; have BK611 := n5_; have BK632 := n6_; have HB := n7_; clear n0_ n1_ n2_ n3_ n4_ n5_ n6_ n7_; (try clear hb); (try clear hb2); (try clear hk); (try clear hi); (try clear ho0); obtain ⟨Ao64, co64, eo64⟩ := Kd.R_slice HO651.out; subst eo64) | ((with_reducible refine gate_callee (f := 32) rfl ?_); refine goesL_ (some 62) rfl rfl Try.func32 (by kernel_rfl) rfl #[.slice Ao49 t633.length co49, .slice Ao64 t649.length co64] rfl (by (try simp only [List.map_toArray, List.map_cons, List.map_nil]); first | done | rfl | (simp only [List.length_drop, List.length_take]; rfl)) ?_; (with_reducible refine (laws_eqLoanS.calls kj25 _ _ t633 _ _ t649 true _ ?side1 ?side2 ?side3 ?side4 A57.out).mono ?_); (case side1 => repeat (first | exact (Kd.R_reads' HO_11.out).2.2 | (with_reducible refine Kd.C_alloc ?_ _) | (with_reducible refine Kd.C_drewN ?_ _) | (with_reducible refine Kd.C_drew ?_))); (case side2 => exact (Kd.R_reads' HO_11.out).2.1); (case side3 => repeat (first | exact (Kd.R_reads' HO651.out).2.2 | (with_reducible refine Kd.C_alloc ?_ _) | (with_reducible refine Kd.C_drewN ?_ _) | (with_reducible refine Kd.C_drew ?_))); (case side4 => exact (Kd.R_reads' HO651.out).2.1); rintro e w65 ⟨rfl, hb⟩; refine ⟨_, rfl, ?_⟩; have n0_ := Aside0.mk (Kd.R_below (by (with_reducible repeat (first | apply Kd.R_alloc | apply Kd.R_drewN | apply Kd.R_drew)); exact HO_11.out) hb); have n1_ := Aside0.mk (Kd.S_below (by (with_reducible repeat (first | apply Kd.S_alloc | apply Kd.S_drewN | apply Kd.S_drew)); exact HO_633000.out) hb); have n2_ := Aside0.mk (Kd.S_below (by (with_reducible repeat (first | apply Kd.S_alloc | apply Kd.S_drewN | apply Kd.S_drew)); exact HO647.out) hb); have n3_ := Aside0.mk (Kd.R_below (by (with_reducible repeat (first | apply Kd.R_alloc | apply Kd.R_drewN | apply Kd.R_drew)); exact HO651.out) hb); have n4_ := Aside0.mk (blk_below (g := gb610) (o := .cells #[.slice A0_0 l0_0.length c0_0] 49 (0, 0)) (by (with_reducible repeat (first | refine blk_drewN ?_ _ | refine blk_drew ?_ | refine blk_alloc ?_ _)); exact BK610.out) hb); have n5_ := Aside0.mk (blk_below (g := gb611) (o := .cells #[.int .i64 a2_0, .int .i64 a2_1, .int .i64 a2_2, .int .i64 a2_3, .bool a2_4, .int .i64 a2_5, .int .i64 a2_6] 53 (0, 0)) (by (with_reducible repeat (first | refine blk_drewN ?_ _ | refine blk_drew ?_ | refine blk_alloc ?_ _)); exact BK611.out) hb); have n6_ := Aside0.mk (blk_below (g := gb632) (o := .cells #[.slice Ao42 t629.length co42] 26 (0, 0)) (by (with_reducible repeat (first | refine blk_drewN ?_ _ | refine blk_drew ?_ | refine blk_alloc ?_ _)); exact BK632.out) hb); have n7_ := Aside0.mk (below_step (by repeat (first | (with_reducible first | exact HB.out | apply below_alloc | apply pw_below_drewN | apply below_drew1 | refine below_set ?_ GE610.out | refine below_set ?_ GE611.out | refine below_set ?_ GE632.out) | exact HB.out)) hb); clear HO_11; clear HO_633000; clear HO647; clear HO651; clear BK610; clear BK611; clear BK632; clear HB; have HO_11 := n0_; have HO_633000 := n1_; have HO647 := n2_; have HO651 := n3_; have BK610 := n4_; have BK611 := n5_; have BK632 := n6_; have HB := n7_; clear n0_ n1_ n2_ n3_ n4_ n5_ n6_ n7_; (try clear hb); (try clear hb2); (try clear hk); (try clear hi)))
                go_ret
                exact ⟨by first | rfl | (simp [errW_none, errW_some] <;> rfl) | (simp [*, errW_none, errW_some] <;> rfl), by repeat (first | (with_reducible first | exact HB.out | apply below_alloc | apply pw_below_drewN | apply below_drew1 | refine below_set ?_ GE610.out | refine below_set ?_ GE611.out | refine below_set ?_ GE632.out) | exact HB.out)⟩
              · replace c58 := Bool.eq_false_iff.mpr c58
                subst c58
                have H1 : (some false) = some r := by rw [if_neg (show ¬ (false = true) by decide)] at H; exact H
                clear H
                have H := H1
                clear H1
                obtain rfl := Option.some.inj H
                try go_wp2
                have n0_ := Aside0.mk (Kd.R_drew HO_11.out)
                have n1_ := Aside0.mk (Kd.S_drew HO_633000.out)
                have n2_ := Aside0.mk (blk_drew BK610.out)
                have n3_ := Aside0.mk (blk_drew BK611.out)
                have n4_ := Aside0.mk (blk_drew BK632.out)
                have n5_ := Aside0.mk (below_drew1 HB.out)
                clear HO_11
                clear HO_633000
                clear BK610
                clear BK611
                clear BK632
                clear HB
                have HO_11 := n0_
                have HO_633000 := n1_
                have BK610 := n2_
                have BK611 := n3_
                have BK632 := n4_
                have HB := n5_
                clear n0_ n1_ n2_ n3_ n4_ n5_
                refine start_ (n := 5) (S := fun w' => w'.cell? ⟨gb632, 0, none⟩ = some (.slice Ao42 t629.length co42) ∧ w'.cell? ⟨gb610, 0, none⟩ = some (.slice A0_0 l0_0.length c0_0)) (ds := []) #[false, false, false, false, false] (by kernel_rfl) rfl rfl ⟨(blk_cell BK632.out 0).trans rfl, (blk_cell BK610.out 0).trans rfl⟩ (fun hHeld => ?_)
                generalize wc.drew = w66 at HO_11 HO_633000 BK610 BK611 BK632 HB hHeld ⊢
                refine take_ (i := 0) (N := some 54) (v := ?_) (a' := ?_) #[true, false, false, false, false] rfl rfl (by kernel_rfl) (fun _ _ _ h => h) (Or.inl ⟨by rfl, ?_⟩) hHeld ?_ ?_
                rotate_left
                · rintro w' ⟨s0, s1⟩
                  go_simp
                  with_reducible rfl
                rotate_left
                · simp only [Act.put, List.setIfInBounds_toArray, List.set_cons_zero, List.set_cons_succ, i64_w, i32_w]
                  rfl
                refine take_ (i := 1) (N := some 55) (v := ?_) (a' := ?_) #[true, true, false, false, false] rfl rfl (by kernel_rfl) (fun _ _ _ h => h) (Or.inl ⟨by rfl, ?_⟩) hHeld ?_ ?_
                rotate_left
                · rintro w' ⟨s0, s1⟩
                  go_simp
                  with_reducible rfl
                rotate_left
                · simp only [Act.put, List.setIfInBounds_toArray, List.set_cons_zero, List.set_cons_succ, i64_w, i32_w]
                  rfl
                refine one_ (i := 2) (N := some 56) #[true, true, true, false, false] rfl rfl (by kernel_rfl) (by decide) (fun K hK => ?_)
                refine goes_ Try.func27 (by kernel_rfl) rfl #[.agg #[.slice A0_0 l0_0.length c0_0]] (by rfl) rfl rfl (by (try simp only [List.map_toArray, List.map_cons, List.map_nil]); first | done | rfl | (simp only [List.length_drop, List.length_take]; rfl)) ?_
                with_reducible refine (laws_toMemory.calls _ _ l0_0 t645 _ ?side1 ?side2 A53.out).mono ?_
                (case side1 => repeat (first | exact (Kd.C_below HR0_0.out HB.out) | (with_reducible refine Kd.C_alloc ?_ _) | (with_reducible refine Kd.C_drewN ?_ _) | (with_reducible refine Kd.C_drew ?_)))
                (case side2 => exact HC0_0.out)
                rintro e w67 ⟨v646, rfl, ho0, hb⟩
                refine ⟨_, rfl, ?_⟩
                have n0_ := Aside0.mk (Kd.R_below (by (with_reducible repeat (first | apply Kd.R_alloc | apply Kd.R_drewN | apply Kd.R_drew)); exact HO_11.out) hb)
                have n1_ := Aside0.mk (Kd.S_elder' (by (with_reducible repeat (first | apply Kd.S_alloc | apply Kd.S_drewN | apply Kd.S_drew)); exact HO_633000.out) (Kd.S_base ho0) hb)
                have n2_ := Aside0.mk (Kd.S_lower (Kd.S_new' ho0 (Kd.S_lt (by (with_reducible repeat (first | apply Kd.S_alloc | apply Kd.S_drewN | apply Kd.S_drew)); exact HO_633000.out))) (below_size (by repeat (first | (with_reducible first | exact HB.out | apply below_alloc | apply pw_below_drewN | apply below_drew1 | refine below_set ?_ GE610.out | refine below_set ?_ GE611.out | refine below_set ?_ GE632.out) | exact HB.out))))
                have n3_ := Aside0.mk (blk_below (g := gb610) (o := .cells #[.slice A0_0 l0_0.length c0_0] 49 (0, 0)) (by (with_reducible repeat (first | refine blk_drewN ?_ _ | refine blk_drew ?_ | refine blk_alloc ?_ _)); exact BK610.out) hb)
                have n4_ := Aside0.mk (blk_below (g := gb611) (o := .cells #[.int .i64 a2_0, .int .i64 a2_1, .int .i64 a2_2, .int .i64 a2_3, .bool a2_4, .int .i64 a2_5, .int .i64 a2_6] 53 (0, 0)) (by (with_reducible repeat (first | refine blk_drewN ?_ _ | refine blk_drew ?_ | refine blk_alloc ?_ _)); exact BK611.out) hb)
                have n5_ := Aside0.mk (blk_below (g := gb632) (o := .cells #[.slice Ao42 t629.length co42] 26 (0, 0)) (by (with_reducible repeat (first | refine blk_drewN ?_ _ | refine blk_drew ?_ | refine blk_alloc ?_ _)); exact BK632.out) hb)
                have n6_ := Aside0.mk (below_step (by repeat (first | (with_reducible first | exact HB.out | apply below_alloc | apply pw_below_drewN | apply below_drew1 | refine below_set ?_ GE610.out | refine below_set ?_ GE611.out | refine below_set ?_ GE632.out) | exact HB.out)) hb)
                clear HO_11
                clear HO_633000
                clear BK610
                clear BK611
                clear BK632
                clear HB
                have HO_11 := n0_
                have HO_633000 := n1_
                have HO647 := n2_
                have BK610 := n3_
                have BK611 := n4_
                have BK632 := n5_
                have HB := n6_
                clear n0_ n1_ n2_ n3_ n4_ n5_ n6_
                (try clear hb)
                (try clear hb2)
                (try clear hk)
                (try clear hi)
                (try clear ho0)
                obtain ⟨Ao68, co68, eo68⟩ := Kd.S_slice HO647.out
                (first | subst eo68 | (injection eo68 with f1_ f2_ f3_; have f4_ := f1_.symm; have f5_ := f3_.symm; clear f1_ f2_ f3_; subst f4_; subst f5_))
                refine hK.out _ _ ⟨(blk_cell BK632.out 0).trans rfl, (blk_cell BK610.out 0).trans rfl⟩ (fun hHeld => ?_)
                clear hK K
                refine norm_ (a' := ?_) ?_ ?_
                rotate_left
                · show Act.put _ (some 56) _ = _
                  simp only [Act.put, List.setIfInBounds_toArray, List.set_cons_zero, List.set_cons_succ, i64_w, i32_w]
                  rfl
                refine one_ (i := 3) (N := some 57) #[true, true, true, true, false] rfl rfl (by kernel_rfl) (by decide) (fun K hK => ?_)
                refine goes_ Try.func31 (by kernel_rfl) rfl #[.agg #[.slice Ao42 t629.length co42], .agg #[.slice Ao68 t645.length co68]] (by rfl) rfl rfl (by (try simp only [List.map_toArray, List.map_cons, List.map_nil]); first | done | rfl | (simp only [List.length_drop, List.length_take]; rfl)) ?_
                with_reducible refine (laws_eqMemory.calls kj25 _ _ t629 _ _ t645 true _ ?side1 ?side2 ?side3 ?side4 A54.out).mono ?_
                (case side1 => repeat (first | exact (Kd.S_reads' HO_633000.out).2.2 | (with_reducible refine Kd.C_alloc ?_ _) | (with_reducible refine Kd.C_drewN ?_ _) | (with_reducible refine Kd.C_drew ?_)))
                (case side2 => exact (Kd.S_reads' HO_633000.out).2.1)
                (case side3 => repeat (first | exact (Kd.S_reads' HO647.out).2.2 | (with_reducible refine Kd.C_alloc ?_ _) | (with_reducible refine Kd.C_drewN ?_ _) | (with_reducible refine Kd.C_drew ?_)))
                (case side4 => exact (Kd.S_reads' HO647.out).2.1)
                rintro e w69 ⟨rfl, hb⟩
                refine ⟨_, rfl, ?_⟩
                have n0_ := Aside0.mk (Kd.R_below (by (with_reducible repeat (first | apply Kd.R_alloc | apply Kd.R_drewN | apply Kd.R_drew)); exact HO_11.out) hb)
                have n1_ := Aside0.mk (Kd.S_below (by (with_reducible repeat (first | apply Kd.S_alloc | apply Kd.S_drewN | apply Kd.S_drew)); exact HO_633000.out) hb)
                have n2_ := Aside0.mk (Kd.S_below (by (with_reducible repeat (first | apply Kd.S_alloc | apply Kd.S_drewN | apply Kd.S_drew)); exact HO647.out) hb)
                have n3_ := Aside0.mk (blk_below (g := gb610) (o := .cells #[.slice A0_0 l0_0.length c0_0] 49 (0, 0)) (by (with_reducible repeat (first | refine blk_drewN ?_ _ | refine blk_drew ?_ | refine blk_alloc ?_ _)); exact BK610.out) hb)
                have n4_ := Aside0.mk (blk_below (g := gb611) (o := .cells #[.int .i64 a2_0, .int .i64 a2_1, .int .i64 a2_2, .int .i64 a2_3, .bool a2_4, .int .i64 a2_5, .int .i64 a2_6] 53 (0, 0)) (by (with_reducible repeat (first | refine blk_drewN ?_ _ | refine blk_drew ?_ | refine blk_alloc ?_ _)); exact BK611.out) hb)
                have n5_ := Aside0.mk (blk_below (g := gb632) (o := .cells #[.slice Ao42 t629.length co42] 26 (0, 0)) (by (with_reducible repeat (first | refine blk_drewN ?_ _ | refine blk_drew ?_ | refine blk_alloc ?_ _)); exact BK632.out) hb)
                have n6_ := Aside0.mk (below_step (by repeat (first | (with_reducible first | exact HB.out | apply below_alloc | apply pw_below_drewN | apply below_drew1 | refine below_set ?_ GE610.out | refine below_set ?_ GE611.out | refine below_set ?_ GE632.out) | exact HB.out)) hb)
                clear HO_11
                clear HO_633000
                clear HO647
                clear BK610
                clear BK611
                clear BK632
                clear HB
                have HO_11 := n0_
                have HO_633000 := n1_
                have HO647 := n2_
                have BK610 := n3_
                have BK611 := n4_
                have BK632 := n5_
                have HB := n6_
                clear n0_ n1_ n2_ n3_ n4_ n5_ n6_
                (try clear hb)
                (try clear hb2)
                (try clear hk)
                (try clear hi)
                refine hK.out _ _ ⟨(blk_cell BK632.out 0).trans rfl, (blk_cell BK610.out 0).trans rfl⟩ (fun hHeld => ?_)
                clear hK K
                refine norm_ (a' := ?_) ?_ ?_
                rotate_left
                · show Act.put _ (some 57) _ = _
                  simp only [Act.put, List.setIfInBounds_toArray, List.set_cons_zero, List.set_cons_succ, i64_w, i32_w]
                  rfl
                refine pure_ (i := 4) (N := some 58) (v := ?_) (a' := ?_) #[true, true, true, true, true] rfl rfl (by kernel_rfl) (fun _ _ _ h => h) (Or.inl ⟨by rfl, ?_⟩) ?_ ?_
                rotate_left
                · intro w'
                  go_simp
                  with_reducible rfl
                rotate_left
                · simp only [Act.put, List.setIfInBounds_toArray, List.set_cons_zero, List.set_cons_succ, i64_w, i32_w]
                  rfl
                refine done_ (by kernel_rfl) ?_
                try go_wp2_with (first | ((with_reducible refine gate_callee (f := 28) rfl ?_); refine goesL_ (some 61) rfl rfl Try.func28 (by kernel_rfl) rfl #[.slice A1 l1.length c1] rfl (by (try simp only [List.map_toArray, List.map_cons, List.map_nil]); first | done | rfl | (simp only [List.length_drop, List.length_take]; rfl)) ?_; (with_reducible refine (laws_toLoanS.calls kj25 _ _ l1 t649 _ ?side1 ?side2 A56.out).mono ?_); (case side1 => repeat (first | exact (Kd.C_below HR1.out HB.out) | (with_reducible refine Kd.C_alloc ?_ _) | (with_reducible refine Kd.C_drewN ?_ _) | (with_reducible refine Kd.C_drew ?_))); (case side2 => exact HC1.out); rintro e w70 ⟨v650, rfl, ho0, hb⟩; refine ⟨_, rfl, ?_⟩; have n0_ := Aside0.mk (Kd.R_elder' (by (with_reducible repeat (first | apply Kd.R_alloc | apply Kd.R_drewN | apply Kd.R_drew)); exact HO_11.out) (Kd.R_base ho0) hb); have n1_ := Aside0.mk (Kd.S_below (by (with_reducible repeat (first | apply Kd.S_alloc | apply Kd.S_drewN | apply Kd.S_drew)); exact HO_633000.out) hb); have n2_ := Aside0.mk (Kd.S_below (by (with_reducible repeat (first | apply Kd.S_alloc | apply Kd.S_drewN | apply Kd.S_drew)); exact HO647.out) hb); have n3_ := Aside0.mk (Kd.R_lower (Kd.R_new' ho0 (Kd.R_lt (by (with_reducible repeat (first | apply Kd.R_alloc | apply Kd.R_drewN | apply Kd.R_drew)); exact HO_11.out))) (below_size (by repeat (first | (with_reducible first | exact HB.out | apply below_alloc | apply pw_below_drewN | apply below_drew1 | refine below_set ?_ GE610.out | refine below_set ?_ GE611.out | refine below_set ?_ GE632.out) | exact HB.out)))); have n4_ := Aside0.mk (blk_below (g := gb610) (o := .cells #[.slice A0_0 l0_0.length c0_0] 49 (0, 0)) (by (with_reducible repeat (first | refine blk_drewN ?_ _ | refine blk_drew ?_ | refine blk_alloc ?_ _)); exact BK610.out) hb); have n5_ := Aside0.mk (blk_below (g := gb611) (o := .cells #[.int .i64 a2_0, .int .i64 a2_1, .int .i64 a2_2, .int .i64 a2_3, .bool a2_4, .int .i64 a2_5, .int .i64 a2_6] 53 (0, 0)) (by (with_reducible repeat (first | refine blk_drewN ?_ _ | refine blk_drew ?_ | refine blk_alloc ?_ _)); exact BK611.out) hb); have n6_ := Aside0.mk (blk_below (g := gb632) (o := .cells #[.slice Ao42 t629.length co42] 26 (0, 0)) (by (with_reducible repeat (first | refine blk_drewN ?_ _ | refine blk_drew ?_ | refine blk_alloc ?_ _)); exact BK632.out) hb); have n7_ := Aside0.mk (below_step (by repeat (first | (with_reducible first | exact HB.out | apply below_alloc | apply pw_below_drewN | apply below_drew1 | refine below_set ?_ GE610.out | refine below_set ?_ GE611.out | refine below_set ?_ GE632.out) | exact HB.out)) hb); clear HO_11; clear HO_633000; clear HO647; clear BK610; clear BK611; clear BK632; clear HB; have HO_11 := n0_; have HO_633000 := n1_; have HO647 := n2_; have HO651 := n3_; have BK610 := n4_; have BK611 := n5_; have BK632 := n6_; have HB := n7_; clear n0_ n1_ n2_ n3_ n4_ n5_ n6_ n7_; (try clear hb); (try clear hb2); (try clear hk); (try clear hi); (try clear ho0); obtain ⟨Ao71, co71, eo71⟩ := Kd.R_slice HO651.out; subst eo71) | ((with_reducible refine gate_callee (f := 32) rfl ?_); refine goesL_ (some 62) rfl rfl Try.func32 (by kernel_rfl) rfl #[.slice Ao49 t633.length co49, .slice Ao71 t649.length co71] rfl (by (try simp only [List.map_toArray, List.map_cons, List.map_nil]); first | done | rfl | (simp only [List.length_drop, List.length_take]; rfl)) ?_; (with_reducible refine (laws_eqLoanS.calls kj25 _ _ t633 _ _ t649 false _ ?side1 ?side2 ?side3 ?side4 A57.out).mono ?_); (case side1 => repeat (first | exact (Kd.R_reads' HO_11.out).2.2 | (with_reducible refine Kd.C_alloc ?_ _) | (with_reducible refine Kd.C_drewN ?_ _) | (with_reducible refine Kd.C_drew ?_))); (case side2 => exact (Kd.R_reads' HO_11.out).2.1); (case side3 => repeat (first | exact (Kd.R_reads' HO651.out).2.2 | (with_reducible refine Kd.C_alloc ?_ _) | (with_reducible refine Kd.C_drewN ?_ _) | (with_reducible refine Kd.C_drew ?_))); (case side4 => exact (Kd.R_reads' HO651.out).2.1); rintro e w72 ⟨rfl, hb⟩; refine ⟨_, rfl, ?_⟩; have n0_ := Aside0.mk (Kd.R_below (by (with_reducible repeat (first | apply Kd.R_alloc | apply Kd.R_drewN | apply Kd.R_drew)); exact HO_11.out) hb); have n1_ := Aside0.mk (Kd.S_below (by (with_reducible repeat (first | apply Kd.S_alloc | apply Kd.S_drewN | apply Kd.S_drew)); exact HO_633000.out) hb); have n2_ := Aside0.mk (Kd.S_below (by (with_reducible repeat (first | apply Kd.S_alloc | apply Kd.S_drewN | apply Kd.S_drew)); exact HO647.out) hb); have n3_ := Aside0.mk (Kd.R_below (by (with_reducible repeat (first | apply Kd.R_alloc | apply Kd.R_drewN | apply Kd.R_drew)); exact HO651.out) hb); have n4_ := Aside0.mk (blk_below (g := gb610) (o := .cells #[.slice A0_0 l0_0.length c0_0] 49 (0, 0)) (by (with_reducible repeat (first | refine blk_drewN ?_ _ | refine blk_drew ?_ | refine blk_alloc ?_ _)); exact BK610.out) hb); have n5_ := Aside0.mk (blk_below (g := gb611) (o := .cells #[.int .i64 a2_0, .int .i64 a2_1, .int .i64 a2_2, .int .i64 a2_3, .bool a2_4, .int .i64 a2_5, .int .i64 a2_6] 53 (0, 0)) (by (with_reducible repeat (first | refine blk_drewN ?_ _ | refine blk_drew ?_ | refine blk_alloc ?_ _)); exact BK611.out) hb); have n6_ := Aside0.mk (blk_below (g := gb632) (o := .cells #[.slice Ao42 t629.length co42] 26 (0, 0)) (by (with_reducible repeat (first | refine blk_drewN ?_ _ | refine blk_drew ?_ | refine blk_alloc ?_ _)); exact BK632.out) hb); have n7_ := Aside0.mk (below_step (by repeat (first | (with_reducible first | exact HB.out | apply below_alloc | apply pw_below_drewN | apply below_drew1 | refine below_set ?_ GE610.out | refine below_set ?_ GE611.out | refine below_set ?_ GE632.out) | exact HB.out)) hb); clear HO_11; clear HO_633000; clear HO647; clear HO651; clear BK610; clear BK611; clear BK632; clear HB; have HO_11 := n0_; have HO_633000 := n1_; have HO647 := n2_; have HO651 := n3_; have BK610 := n4_; have BK611 := n5_; have BK632 := n6_; have HB := n7_; clear n0_ n1_ n2_ n3_ n4_ n5_ n6_ n7_; (try clear hb); (try clear hb2); (try clear hk); (try clear hi)))
                go_ret
                exact ⟨by first | rfl | (simp [errW_none, errW_some] <;> rfl) | (simp [*, errW_none, errW_some] <;> rfl), by repeat (first | (with_reducible first | exact HB.out | apply below_alloc | apply pw_below_drewN | apply below_drew1 | refine below_set ?_ GE610.out | refine below_set ?_ GE611.out | refine below_set ?_ GE632.out) | exact HB.out)⟩
            · replace c55 := Bool.eq_false_iff.mpr c55
              subst c55
              have H1 : (some false) = some r := by rw [if_neg (show ¬ (false = true) by decide)] at H; exact H
              clear H
              have H := H1
              clear H1
              obtain rfl := Option.some.inj H
              try go_wp2
              have n0_ := Aside0.mk (Kd.R_drew HO_11.out)
              have n1_ := Aside0.mk (Kd.S_drew HO_633000.out)
              have n2_ := Aside0.mk (blk_drew BK610.out)
              have n3_ := Aside0.mk (blk_drew BK611.out)
              have n4_ := Aside0.mk (blk_drew BK632.out)
              have n5_ := Aside0.mk (below_drew1 HB.out)
              clear HO_11
              clear HO_633000
              clear BK610
              clear BK611
              clear BK632
              clear HB
              have HO_11 := n0_
              have HO_633000 := n1_
              have BK610 := n2_
              have BK611 := n3_
              have BK632 := n4_
              have HB := n5_
              clear n0_ n1_ n2_ n3_ n4_ n5_
              refine start_ (n := 5) (S := fun w' => w'.cell? ⟨gb632, 0, none⟩ = some (.slice Ao42 t629.length co42) ∧ w'.cell? ⟨gb610, 0, none⟩ = some (.slice A0_0 l0_0.length c0_0)) (ds := []) #[false, false, false, false, false] (by kernel_rfl) rfl rfl ⟨(blk_cell BK632.out 0).trans rfl, (blk_cell BK610.out 0).trans rfl⟩ (fun hHeld => ?_)
              generalize wc.drew = w73 at HO_11 HO_633000 BK610 BK611 BK632 HB hHeld ⊢
              refine take_ (i := 0) (N := some 54) (v := ?_) (a' := ?_) #[true, false, false, false, false] rfl rfl (by kernel_rfl) (fun _ _ _ h => h) (Or.inl ⟨by rfl, ?_⟩) hHeld ?_ ?_
              rotate_left
              · rintro w' ⟨s0, s1⟩
                go_simp
                with_reducible rfl
              rotate_left
              · simp only [Act.put, List.setIfInBounds_toArray, List.set_cons_zero, List.set_cons_succ, i64_w, i32_w]
                rfl
              refine take_ (i := 1) (N := some 55) (v := ?_) (a' := ?_) #[true, true, false, false, false] rfl rfl (by kernel_rfl) (fun _ _ _ h => h) (Or.inl ⟨by rfl, ?_⟩) hHeld ?_ ?_
              rotate_left
              · rintro w' ⟨s0, s1⟩
                go_simp
                with_reducible rfl
              rotate_left
              · simp only [Act.put, List.setIfInBounds_toArray, List.set_cons_zero, List.set_cons_succ, i64_w, i32_w]
                rfl
              refine one_ (i := 2) (N := some 56) #[true, true, true, false, false] rfl rfl (by kernel_rfl) (by decide) (fun K hK => ?_)
              refine goes_ Try.func27 (by kernel_rfl) rfl #[.agg #[.slice A0_0 l0_0.length c0_0]] (by rfl) rfl rfl (by (try simp only [List.map_toArray, List.map_cons, List.map_nil]); first | done | rfl | (simp only [List.length_drop, List.length_take]; rfl)) ?_
              with_reducible refine (laws_toMemory.calls _ _ l0_0 t645 _ ?side1 ?side2 A53.out).mono ?_
              (case side1 => repeat (first | exact (Kd.C_below HR0_0.out HB.out) | (with_reducible refine Kd.C_alloc ?_ _) | (with_reducible refine Kd.C_drewN ?_ _) | (with_reducible refine Kd.C_drew ?_)))
              (case side2 => exact HC0_0.out)
              rintro e w74 ⟨v646, rfl, ho0, hb⟩
              refine ⟨_, rfl, ?_⟩
              have n0_ := Aside0.mk (Kd.R_below (by (with_reducible repeat (first | apply Kd.R_alloc | apply Kd.R_drewN | apply Kd.R_drew)); exact HO_11.out) hb)
              have n1_ := Aside0.mk (Kd.S_elder' (by (with_reducible repeat (first | apply Kd.S_alloc | apply Kd.S_drewN | apply Kd.S_drew)); exact HO_633000.out) (Kd.S_base ho0) hb)
              have n2_ := Aside0.mk (Kd.S_lower (Kd.S_new' ho0 (Kd.S_lt (by (with_reducible repeat (first | apply Kd.S_alloc | apply Kd.S_drewN | apply Kd.S_drew)); exact HO_633000.out))) (below_size (by repeat (first | (with_reducible first | exact HB.out | apply below_alloc | apply pw_below_drewN | apply below_drew1 | refine below_set ?_ GE610.out | refine below_set ?_ GE611.out | refine below_set ?_ GE632.out) | exact HB.out))))
              have n3_ := Aside0.mk (blk_below (g := gb610) (o := .cells #[.slice A0_0 l0_0.length c0_0] 49 (0, 0)) (by (with_reducible repeat (first | refine blk_drewN ?_ _ | refine blk_drew ?_ | refine blk_alloc ?_ _)); exact BK610.out) hb)
              have n4_ := Aside0.mk (blk_below (g := gb611) (o := .cells #[.int .i64 a2_0, .int .i64 a2_1, .int .i64 a2_2, .int .i64 a2_3, .bool a2_4, .int .i64 a2_5, .int .i64 a2_6] 53 (0, 0)) (by (with_reducible repeat (first | refine blk_drewN ?_ _ | refine blk_drew ?_ | refine blk_alloc ?_ _)); exact BK611.out) hb)
              have n5_ := Aside0.mk (blk_below (g := gb632) (o := .cells #[.slice Ao42 t629.length co42] 26 (0, 0)) (by (with_reducible repeat (first | refine blk_drewN ?_ _ | refine blk_drew ?_ | refine blk_alloc ?_ _)); exact BK632.out) hb)
              have n6_ := Aside0.mk (below_step (by repeat (first | (with_reducible first | exact HB.out | apply below_alloc | apply pw_below_drewN | apply below_drew1 | refine below_set ?_ GE610.out | refine below_set ?_ GE611.out | refine below_set ?_ GE632.out) | exact HB.out)) hb)
              clear HO_11
              clear HO_633000
              clear BK610
              clear BK611
              clear BK632
              clear HB
              have HO_11 := n0_
              have HO_633000 := n1_
              have HO647 := n2_
              have BK610 := n3_
              have BK611 := n4_
              have BK632 := n5_
              have HB := n6_
              clear n0_ n1_ n2_ n3_ n4_ n5_ n6_
              (try clear hb)
              (try clear hb2)
              (try clear hk)
              (try clear hi)
              (try clear ho0)
              obtain ⟨Ao75, co75, eo75⟩ := Kd.S_slice HO647.out
              (first | subst eo75 | (injection eo75 with f1_ f2_ f3_; have f4_ := f1_.symm; have f5_ := f3_.symm; clear f1_ f2_ f3_; subst f4_; subst f5_))
              refine hK.out _ _ ⟨(blk_cell BK632.out 0).trans rfl, (blk_cell BK610.out 0).trans rfl⟩ (fun hHeld => ?_)
              clear hK K
              refine norm_ (a' := ?_) ?_ ?_
              rotate_left
              · show Act.put _ (some 56) _ = _
                simp only [Act.put, List.setIfInBounds_toArray, List.set_cons_zero, List.set_cons_succ, i64_w, i32_w]
                rfl
              refine one_ (i := 3) (N := some 57) #[true, true, true, true, false] rfl rfl (by kernel_rfl) (by decide) (fun K hK => ?_)
              refine goes_ Try.func31 (by kernel_rfl) rfl #[.agg #[.slice Ao42 t629.length co42], .agg #[.slice Ao75 t645.length co75]] (by rfl) rfl rfl (by (try simp only [List.map_toArray, List.map_cons, List.map_nil]); first | done | rfl | (simp only [List.length_drop, List.length_take]; rfl)) ?_
              with_reducible refine (laws_eqMemory.calls kj25 _ _ t629 _ _ t645 false _ ?side1 ?side2 ?side3 ?side4 A54.out).mono ?_
              (case side1 => repeat (first | exact (Kd.S_reads' HO_633000.out).2.2 | (with_reducible refine Kd.C_alloc ?_ _) | (with_reducible refine Kd.C_drewN ?_ _) | (with_reducible refine Kd.C_drew ?_)))
              (case side2 => exact (Kd.S_reads' HO_633000.out).2.1)
              (case side3 => repeat (first | exact (Kd.S_reads' HO647.out).2.2 | (with_reducible refine Kd.C_alloc ?_ _) | (with_reducible refine Kd.C_drewN ?_ _) | (with_reducible refine Kd.C_drew ?_)))
              (case side4 => exact (Kd.S_reads' HO647.out).2.1)
              rintro e w76 ⟨rfl, hb⟩
              refine ⟨_, rfl, ?_⟩
              have n0_ := Aside0.mk (Kd.R_below (by (with_reducible repeat (first | apply Kd.R_alloc | apply Kd.R_drewN | apply Kd.R_drew)); exact HO_11.out) hb)
              have n1_ := Aside0.mk (Kd.S_below (by (with_reducible repeat (first | apply Kd.S_alloc | apply Kd.S_drewN | apply Kd.S_drew)); exact HO_633000.out) hb)
              have n2_ := Aside0.mk (Kd.S_below (by (with_reducible repeat (first | apply Kd.S_alloc | apply Kd.S_drewN | apply Kd.S_drew)); exact HO647.out) hb)
              have n3_ := Aside0.mk (blk_below (g := gb610) (o := .cells #[.slice A0_0 l0_0.length c0_0] 49 (0, 0)) (by (with_reducible repeat (first | refine blk_drewN ?_ _ | refine blk_drew ?_ | refine blk_alloc ?_ _)); exact BK610.out) hb)
              have n4_ := Aside0.mk (blk_below (g := gb611) (o := .cells #[.int .i64 a2_0, .int .i64 a2_1, .int .i64 a2_2, .int .i64 a2_3, .bool a2_4, .int .i64 a2_5, .int .i64 a2_6] 53 (0, 0)) (by (with_reducible repeat (first | refine blk_drewN ?_ _ | refine blk_drew ?_ | refine blk_alloc ?_ _)); exact BK611.out) hb)
              have n5_ := Aside0.mk (blk_below (g := gb632) (o := .cells #[.slice Ao42 t629.length co42] 26 (0, 0)) (by (with_reducible repeat (first | refine blk_drewN ?_ _ | refine blk_drew ?_ | refine blk_alloc ?_ _)); exact BK632.out) hb)
              have n6_ := Aside0.mk (below_step (by repeat (first | (with_reducible first | exact HB.out | apply below_alloc | apply pw_below_drewN | apply below_drew1 | refine below_set ?_ GE610.out | refine below_set ?_ GE611.out | refine below_set ?_ GE632.out) | exact HB.out)) hb)
              clear HO_11
              clear HO_633000
              clear HO647
              clear BK610
              clear BK611
              clear BK632
              clear HB
              have HO_11 := n0_
              have HO_633000 := n1_
              have HO647 := n2_
              have BK610 := n3_
              have BK611 := n4_
              have BK632 := n5_
              have HB := n6_
              clear n0_ n1_ n2_ n3_ n4_ n5_ n6_
              (try clear hb)
              (try clear hb2)
              (try clear hk)
              (try clear hi)
              refine hK.out _ _ ⟨(blk_cell BK632.out 0).trans rfl, (blk_cell BK610.out 0).trans rfl⟩ (fun hHeld => ?_)
              clear hK K
              refine norm_ (a' := ?_) ?_ ?_
              rotate_left
              · show Act.put _ (some 57) _ = _
                simp only [Act.put, List.setIfInBounds_toArray, List.set_cons_zero, List.set_cons_succ, i64_w, i32_w]
                rfl
              refine pure_ (i := 4) (N := some 58) (v := ?_) (a' := ?_) #[true, true, true, true, true] rfl rfl (by kernel_rfl) (fun _ _ _ h => h) (Or.inl ⟨by rfl, ?_⟩) ?_ ?_
              rotate_left
              · intro w'
                go_simp
                with_reducible rfl
              rotate_left
              · simp only [Act.put, List.setIfInBounds_toArray, List.set_cons_zero, List.set_cons_succ, i64_w, i32_w]
                rfl
              refine done_ (by kernel_rfl) ?_
              try go_wp2
              go_ret
              exact ⟨by first | rfl | (simp [errW_none, errW_some] <;> rfl) | (simp [*, errW_none, errW_some] <;> rfl), by repeat (first | (with_reducible first | exact HB.out | apply below_alloc | apply pw_below_drewN | apply below_drew1 | refine below_set ?_ GE610.out | refine below_set ?_ GE611.out | refine below_set ?_ GE632.out) | exact HB.out)⟩

end Go.Proofs.Ytpbboooeahmgpaa.P


/- DelayOf: what both sides come to. -/
namespace Go.Proofs.Ytpbboooeahmgpaa.P
open Go.RowKit Go.Proofs.YtpbboooeahmgpaaW.PrintWords Go.Proofs.YtpbboooeahmgpaaW.PrintMore
set_option linter.unusedVariables false
set_option linter.unusedSimpArgs false
theorem mx_comm (a b : Int) : mx a b = mx b a := by unfold mx; split <;> split <;> omega
theorem mn_comm (a b : Int) : mn a b = mn b a := by unfold mn; split <;> split <;> omega
theorem confB_comm (a b : SimplLoan) : confB a b = confB b a := by
  unfold confB shareB
  rw [Bool.or_comm, mx_comm a.f2, mn_comm a.f3, mx_comm a.f0.f1, mn_comm (a.f0.f1 + a.f0.f2)]
  congr 2
  rw [decide_eq_decide]
  constructor
  · rintro ⟨h1, h2⟩; exact ⟨h1.symm, h2⟩
  · rintro ⟨h1, h2⟩; exact ⟨h1.symm, h2⟩
theorem alone_later (l : List SimplLoan) (y : SimplLoan) : aloneB l y = l.all (fun z => !confB y z) := by
  unfold aloneB
  congr 1
  funext z
  rw [confB_comm]
theorem specDelay_ev (l : List SimplLoan) (x : SimplLoan) (hn : l.length ≤ 1000000) (hr : ∀ y ∈ l, rangeL y) (hx : rangeL x) (h2 : x.f2 ≤ x.f3) (h3 : x.f3 ≤ 60) (n : Nat) : ∀ (d : Int), 0 ≤ d → x.f3 + d + n = 61 →
    Ev (fun k => spec_DelayOf.l0 k l d x.f0.f0 x.f0.f1 x.f0.f2 x.f0.f3 x.f1 x.f2 x.f3) (delayGo l x n d) := by
  have hf := hx.2.2
  induction n with
  | zero =>
    intro d h0 h1
    refine Ev.step (fun k => ?_) (Ev.now _)
    simp only [spec_DelayOf.l0]
    rw [wrap_ok (by omega) (by omega), if_neg (by omega)]
    rfl
  | succ n ih =>
    intro d h0 h1
    refine Ev.step (f := fun k => (spec_l10Alone.f k l (later x d).f0.f0 (later x d).f0.f1 (later x d).f0.f2 (later x d).f0.f3 (later x d).f1 (later x d).f2 (later x d).f3).bind fun t => if t = true then some (d, true) else spec_DelayOf.l0 k l (d + 1) x.f0.f0 x.f0.f1 x.f0.f2 x.f0.f3 x.f1 x.f2 x.f3) (fun k => ?_) ?_
    · simp only [spec_DelayOf.l0]
      rw [wrap_ok (x := x.f3 + d) (by omega) (by omega), if_pos (by omega), wrap_ok (x := x.f2 + d) (by omega) (by omega), wrap_ok (x := d + 1) (by omega) (by omega)]
      rfl
    · have hlr : rangeL (later x d) := ⟨hx.1, hx.2.1, by show 0 ≤ x.f2 + d ∧ x.f2 + d ≤ 1000000; omega, by show 0 ≤ x.f3 + d ∧ x.f3 + d ≤ 1000000; omega⟩
      refine Ev.bind (alone_f l (later x d) hlr hn hr) ?_
      rw [alone_later]
      unfold delayGo
      cases l.all (fun z => !confB (later x d) z)
      · simp only [Bool.false_eq_true, if_false]
        exact ih (d + 1) (by omega) (by omega)
      · simp only [if_true]
        exact Ev.now _
theorem specDelay_f (m : List (List Int)) (l : List SimplLoan) (x : SimplLoan) (hm : okM m) (hl : l.length ≤ 1048576) (hw : ∀ x ∈ l, wfL x) (hx : wfL x) : Ev (fun k => spec_DelayOf.f k m l x.f0.f0 x.f0.f1 x.f0.f2 x.f0.f3 x.f1 x.f2 x.f3) (delayOf m l x) := by
  refine Ev.bind (l10Loans_f m l hm (by omega) hw) ?_
  unfold delayOf
  have hout : ∀ (b0 b1 b2 b3 : Int) (o : Bool) (b4 b5 : Int), Ev (fun k => spec_DelayOf.j0 k l true b0 b1 b2 b3 o b4 b5) (0, false) := by
    intro b0 b1 b2 b3 o b4 b5
    refine Ev.step (fun k => ?_) (Ev.now _)
    simp only [spec_DelayOf.j0]
    rw [if_pos trivial]
  cases h : loansB m l
  · simpa using hout _ _ _ _ _ _ _
  · simp only [if_true, Bool.true_and]
    obtain ⟨hmb, h1, h2⟩ := loansB_r h
    refine Ev.bind (l10Loan_f m x hm hx) ?_
    rw [hmb, Bool.true_and]
    cases h3 : loanB m x
    · simpa using hout _ _ _ _ _ _ _
    · simp only [if_true, Bool.not_true]
      have hb : (0 ≤ x.f3 ∧ x.f3 ≤ 60) ∧ 0 ≤ x.f2 ∧ x.f2 ≤ x.f3 := by
        unfold loanB at h3
        simp only [Bool.and_eq_true, decide_eq_true_eq] at h3
        exact h3.2
      refine Ev.step (f := fun k => spec_DelayOf.l0 k l 0 x.f0.f0 x.f0.f1 x.f0.f2 x.f0.f3 x.f1 x.f2 x.f3) (fun k => ?_) (specDelay_ev l x (by omega) h1 (rangeL_of hmb h3) hb.2.2 hb.1.2 (61 - x.f3).toNat 0 (by omega) (by omega))
      simp only [spec_DelayOf.j0]
      rw [if_neg (by decide)]
theorem delay_j (l1 : List SlawsLoan) (m : List (List Int)) (hm : okM m) (hl : l1.length ≤ 1048576) : Ev (fun k => laws_FnExactDelayOf.j0 k l1 (l1.map loanOf) false m m) true := by
  refine Ev.step (f := fun k => (laws_toMemory.f m).bind fun t => (laws_eqMemory.f k m t).bind fun t2 => if t2 = true then (laws_toLoanS.f k l1).bind fun t3 => (laws_eqLoanS.f k (l1.map loanOf) t3).bind fun t4 => if t4 = true then some true else some false else some false) (fun k => ?_) ?_
  · simp only [laws_FnExactDelayOf.j0]
    rw [if_neg (by decide)]
  · simp only [toMemory_f m hm, Option.bind_some]
    refine Ev.bind (eqMemory_f m hm.len hm.rows) ?_
    simp only [if_true]
    refine Ev.bind (toLoanS_f l1 hl) ?_
    refine Ev.bind (eqLoanS_f _ (by simp; omega)) ?_
    exact Ev.now _
theorem FnExactDelayOf_ev (m : List (List Int)) (ls : List SlawsLoan) (a0 a1 a2 a3 : Int) (o : Bool) (a4 a5 : Int) (hl : m.length ≤ 9223372036854775807) (h3 : ∀ x ∈ m, x.length ≤ 9223372036854775807) (hw : ls.length ≤ 9223372036854775807) (hwf : ∀ x ∈ ls, wfL (loanOf x)) (hx : -9223372036854775808 ≤ a1 ∧ a1 ≤ 9223372036854775807) :
    Ev (fun k => laws_FnExactDelayOf.f k m ls a0 a1 a2 a3 o a4 a5) true := by
  obtain ⟨r, hr, hh⟩ := szMemory_f m 1048576 (by omega) (by omega) hl h3
  refine Ev.bind hr ?_
  rcases hh with ⟨hm, h5, h6⟩ | rfl
  · simp only [if_neg (show ¬ r < 0 by omega), szLoanS_f ls r h5 h6 hw, Option.bind_some]
    by_cases h7 : (ls.length : Int) ≤ r
    · simp only [if_pos h7, if_neg (show ¬ r - (ls.length : Int) < 0 by omega), toMemory_f m hm, toLoan_f, Option.bind_some]
      have hn : ls.length ≤ 1048576 := by omega
      refine Ev.bind (toLoanS_f ls hn) ?_
      refine Ev.bind (specDelay_f m (ls.map loanOf) ⟨⟨a0, a1, a2, a3⟩, o, a4, a5⟩ hm (by simp; omega) (by intro x hx; obtain ⟨y, hy, rfl⟩ := List.mem_map.1 hx; exact hwf y hy) hx) ?_
      refine Ev.bind (toLoanS_f ls hn) ?_
      simp only [impl_DelayOf.f, Option.bind_some, bne_self_eq_false, if_true]
      exact delay_j ls m hm hn
    · simp only [if_neg h7, if_pos (show (-1 : Int) < 0 by omega)]
      exact Ev.now _
  · simp only [if_pos (show (-1 : Int) < 0 by omega)]
    exact Ev.now _
end Go.Proofs.Ytpbboooeahmgpaa.P


/- From a row's reading of an argument to what the print's kinds say of it. -/
namespace Go.Proofs.YtpbboooeahmgpaaW.Mine
open Go.RowKit Go.Proofs.YtpbboooeahmgpaaW.PrintWords
set_option linter.unusedVariables false
/-- Whatever reads as data of type T is of the kind d, and ok. -/
def ReadsK {α : Type} (P : Program) (T : TypeId) (d : Kd α) (ok : α → Prop) : Prop :=
  ∀ {H : Type} {enc : TypeId × Value → H} {w : World} {base : Nat} {spare : Nat → Bool} {held : Bool} {fuel : Nat} {cs : List Value} {x : DataW H × List MemPlace}, DataW.trod enc P w base spare held fuel T cs = some x → ∃ a : α, d.K w a cs ∧ ok a
theorem ReadsK.int {P : Program} {T : TypeId} {k : IntKind} (hT : P.underlying T = some (.int k)) : ReadsK P T (Kd.int k) (fun n => (Lit.int k n).wf = true) := by
  intro H enc w base spare held fuel cs x h
  obtain ⟨n, rfl, _, hw⟩ := DataW.trod_int hT h
  exact ⟨n, rfl, hw⟩
theorem ReadsK.bool {P : Program} {T : TypeId} (hT : P.underlying T = some .bool) : ReadsK P T Kd.bool (fun _ => True) := by
  intro H enc w base spare held fuel cs x h
  obtain ⟨b, rfl, _⟩ := DataW.trod_bool hT h
  exact ⟨b, rfl, trivial⟩
theorem exists_list {α : Type} {n : Nat} {p : Nat → α → Prop} (h : ∀ i, i < n → ∃ a, p i a) : ∃ l : List α, l.length = n ∧ ∀ i a, l[i]? = some a → p i a := by
  induction n with
  | zero => exact ⟨[], rfl, fun i a hi => by simp at hi⟩
  | succ n ih =>
    obtain ⟨l, hl, hp⟩ := ih (fun i hi => h i (by omega))
    obtain ⟨a, ha⟩ := h n (by omega)
    refine ⟨l ++ [a], by simp [hl], fun i b hb => ?_⟩
    rcases Nat.lt_or_ge i n with hi | hi
    · rw [List.getElem?_append_left (by omega)] at hb
      exact hp i b hb
    · have hi2 : i = n := by
        have := (List.getElem?_eq_some_iff.1 hb).1
        simp [hl] at this
        omega
      subst hi2
      rw [← hl, List.getElem?_append_right (Nat.le_refl _)] at hb
      simp at hb
      rw [← hb]
      exact ha
theorem ReadsK.slice {α : Type} {P : Program} {T e : TypeId} {d : Kd α} {ok : α → Prop} (hT : P.underlying T = some (.slice e)) (hc : P.cellsOf e = d.sz) (h1 : ReadsK P e d ok) : ReadsK P T (Kd.slice e d) (fun xs => ∀ x ∈ xs, ok x) := by
  intro H enc w base spare held fuel cs x h
  rcases Deep.open_slice hT h with ⟨rfl, _⟩ | ⟨a, len, cap, m, n, D, Pl, rfl, hb, hl, hm, hmm, _, hx⟩
  · exact ⟨[], ⟨none, 0, rfl, Nat.le_refl _, rfl, by simp, fun h => absurd h (by simp)⟩, fun x hx => by simp at hx⟩
  · have hlm : len ≤ m := by rw [hmm]; split <;> omega
    obtain ⟨l, hll, hp⟩ := exists_list (n := len) (p := fun i y => ∃ cs', w.cells? base (a.add (i * P.cellsOf e)) (P.cellsOf e) = some cs' ∧ d.K w y cs' ∧ ok y) (fun i hi => by
      obtain ⟨cs', h2, h3⟩ := hx i (by omega)
      obtain ⟨y, hy, hok⟩ := h1 h3
      exact ⟨y, cs', h2, hy, hok⟩)
    refine ⟨l, ⟨some a, cap, by rw [hll], by omega, rfl, ?_, fun hn => ⟨a, rfl, fun j p hj => ?_⟩⟩, fun y hy => ?_⟩
    · rw [hll]; unfold maxLen at hm; omega
    · obtain ⟨cs', h2, h3, _⟩ := hp j p hj
      obtain ⟨_, hlen, hcell⟩ := World.cells?_some h2
      refine ⟨cs', by rw [hlen, hc], h3, fun i u hu => ?_⟩
      have hi : i < P.cellsOf e := by
        have := (List.getElem?_eq_some_iff.1 hu).1
        omega
      have h4 := hcell i hi
      rw [hu] at h4
      rw [← h4, ← hc]
      congr 1
      unfold Addr.add
      by_cases z1 : j * P.cellsOf e = 0 <;> by_cases z2 : i = 0 <;> simp [z1, z2, Nat.add_assoc]
    · obtain ⟨j, hj, rfl⟩ := List.mem_iff_getElem.1 hy
      obtain ⟨_, _, _, hok⟩ := hp j _ (List.getElem?_eq_getElem hj)
      exact hok
/-- The fields from offset o on. -/
def ReadsF {α : Type} (P : Program) (o : Nat) (fs : List Field) (d : Kd α) (ok : α → Prop) : Prop :=
  ∀ {H : Type} {enc : TypeId × Value → H} {w : World} {base : Nat} {spare : Nat → Bool} {held : Bool} {n : Nat} {cs : List Value}, (∀ f ∈ fs, ∃ x, DataW.trod enc P w base spare held n f.type ((cs.drop f.offset).take (P.cellsOf f.type)) = some x) → ∃ a : α, d.K w a ((cs.drop o).take d.sz) ∧ ok a
theorem ReadsF.last {α : Type} {P : Program} {o : Nat} {f : Field} {d : Kd α} {ok : α → Prop} (ho : f.offset = o) (h : ReadsK P f.type d ok) (hc : P.cellsOf f.type = d.sz) : ReadsF P o [f] d ok := by
  intro H enc w base spare held n cs hh
  obtain ⟨x, hx⟩ := hh f (by simp)
  rw [ho, hc] at hx
  exact h hx
theorem ReadsF.cons {α β : Type} {P : Program} {o : Nat} {f : Field} {fs : List Field} {d : Kd α} {d2 : Kd β} {ok : α → Prop} {ok2 : β → Prop} (ho : f.offset = o) (h : ReadsK P f.type d ok) (hc : P.cellsOf f.type = d.sz) (h2 : ReadsF P (o + d.sz) fs d2 ok2) : ReadsF P o (f :: fs) (Kd.pair d d2) (fun p => ok p.1 ∧ ok2 p.2) := by
  intro H enc w base spare held n cs hh
  obtain ⟨x, hx⟩ := hh f (by simp)
  rw [ho, hc] at hx
  obtain ⟨a, ha, hok⟩ := h hx
  obtain ⟨b, hb, hok2⟩ := h2 (fun g hg => hh g (by simp [hg]))
  refine ⟨(a, b), ⟨_, _, ?_, ha, hb⟩, hok, hok2⟩
  show (cs.drop o).take (d.sz + d2.sz) = _
  rw [List.take_add, List.drop_drop]
theorem ReadsK.struct {α : Type} {P : Program} {T : TypeId} {fs : Array Field} {d : Kd α} {ok : α → Prop} (hT : P.underlying T = some (.struct fs)) (hc : P.cellsOf T = d.sz) (h : ReadsF P 0 fs.toList d ok) : ReadsK P T d ok := by
  intro H enc w base spare held fuel cs x hx
  obtain ⟨xs, n, _, _, hl, hlen, hf⟩ := DataW.trod_struct hT hx
  obtain ⟨a, ha, hok⟩ := h (n := n) (cs := cs) (enc := enc) (w := w) (base := base) (spare := spare) (held := held) (fun f hf2 => by
    obtain ⟨i, hi, rfl⟩ := List.mem_iff_getElem.1 hf2
    have h1 := hf i fs[i] (by simp at hi; exact Array.getElem?_eq_getElem hi)
    have hi2 : i < xs.length := by simp at hi; omega
    rw [List.getElem?_eq_getElem hi2] at h1
    exact ⟨_, by simpa using h1⟩)
  refine ⟨a, ?_, hok⟩
  rwa [List.drop_zero, ← hc, ← hl, List.take_length] at ha
theorem ReadsK.iso {α β : Type} {P : Program} {T : TypeId} {d : Kd α} {ok : α → Prop} (h : ReadsK P T d ok) (f : β → α) (g : α → β) (hfg : ∀ a, f (g a) = a) : ReadsK P T (Kd.iso d f) (fun b => ok (f b)) := by
  intro H enc w base spare held fuel cs x hx
  obtain ⟨a, ha, hok⟩ := h hx
  refine ⟨g a, ?_, by show ok (f (g a)); rw [hfg]; exact hok⟩
  show d.K w (f (g a)) cs
  rw [hfg]
  exact ha
theorem agg_of {cs : Array Value} {L : List Value} (h : cs.toList = L) : cs = L.toArray := by rw [← h]
end Go.Proofs.YtpbboooeahmgpaaW.Mine


/- The law FnExactDelayOf. -/
namespace Go.Proofs.Ytpbboooeahmgpaa.P
open Go.RowKit Go.Proofs.YtpbboooeahmgpaaW.PrintWords Go.Proofs.YtpbboooeahmgpaaW.Mine
set_option linter.unusedVariables false
theorem FnExactDelayOf_walk (w : World) (cs0 : Array Value) (a0 : (List (List Int))) (hK0 : (Kd.slice 22 (Kd.slice 5 (Kd.int .u8))).K w a0 cs0.toList) (ok0 : (∀ y1 ∈ a0, (∀ y2 ∈ y1, (Lit.int .u8 y2).wf = true))) (A1 : Option Addr) (len1 cap1 : Nat) (a1 : (List SlawsLoan)) (hK1 : (Kd.slice 53 klawsLoan).K w a1 [.slice A1 len1 cap1]) (ok1 : (∀ y1 ∈ a1, (((Lit.int .i64 y1.f0.f0).wf = true ∧ (Lit.int .i64 y1.f0.f1).wf = true ∧ (Lit.int .i64 y1.f0.f2).wf = true ∧ (Lit.int .i64 y1.f0.f3).wf = true) ∧ True ∧ (Lit.int .i64 y1.f2).wf = true ∧ (Lit.int .i64 y1.f3).wf = true))) (cs2 : Array Value) (a2 : ((Int × (Int × (Int × Int))) × (Bool × (Int × Int)))) (hK2 : (Kd.pair (Kd.pair (Kd.int .i64) (Kd.pair (Kd.int .i64) (Kd.pair (Kd.int .i64) (Kd.int .i64)))) (Kd.pair Kd.bool (Kd.pair (Kd.int .i64) (Kd.int .i64)))).K w a2 cs2.toList) (ok2 : (((Lit.int .i64 a2.1.1).wf = true ∧ ((Lit.int .i64 a2.1.2.1).wf = true ∧ ((Lit.int .i64 a2.1.2.2.1).wf = true ∧ (Lit.int .i64 a2.1.2.2.2).wf = true))) ∧ (True ∧ ((Lit.int .i64 a2.2.2.1).wf = true ∧ (Lit.int .i64 a2.2.2.2).wf = true)))) :
    Calls Try.prog 4 #[.agg cs0, .slice A1 len1 cap1, .agg cs2] w fun e w' => e = .returned (.bool true) ∧ Below w.heap.size w w' := by
  obtain ⟨A0, c0, hcs0, hc0, hr0⟩ := hK0
  obtain rfl := agg_of hcs0
  obtain ⟨_, _, he1, hc1, hr1⟩ := hK1
  cases he1
  obtain ⟨⟨x20, x21, x22, x23⟩, x24, x25, x26⟩ := a2
  obtain ⟨_, _, hcs2, ⟨_, _, rfl, rfl, ⟨_, _, rfl, rfl, ⟨_, _, rfl, rfl, rfl⟩⟩⟩, ⟨_, _, rfl, rfl, ⟨_, _, rfl, rfl, rfl⟩⟩⟩ := hK2
  obtain rfl := agg_of hcs2
  have hwf : ∀ x ∈ a1, wfL (loanOf x) := fun x hx => wf_i64 (ok1 x hx).1.2.1
  obtain ⟨k, hk⟩ := (FnExactDelayOf_ev a0 a1 x20 x21 x22 x23 x24 x25 x26 hr0.2.1 (C_inner_len hr0) hr1.2.1 hwf (wf_i64 ok2.1.2.1)).rounds
  exact laws_FnExactDelayOf.calls (hr0_0 := hr0) (hc0_0 := hc0) (hr1 := hr1) (hc1 := hc1) (h := hk)
end Go.Proofs.Ytpbboooeahmgpaa.P


