/- Part 5 of the proof of the law FnExactFirstClash: contracts of the functions that it reaches. -/
import Derived.Test.YtpbboooeahmgpaaQFnExactFirstClash4
namespace Go.Proofs.Ytpbboooeahmgpaa.P
open Go.RowKit Go.Proofs.YtpbboooeahmgpaaW.PrintWords Go.Proofs.YtpbboooeahmgpaaW.PrintLast Go.Proofs.YtpbboooeahmgpaaW.PrintMore
attribute [local go_sem] max2_int min2_int max_two min_two max_three min_three max_four min_four   -- for this text's walks alone
set_option linter.unusedVariables false
set_option linter.unusedSimpArgs false

/-! ### impl_FirstClash: function 45 -/
def impl_FirstClash.l0 : Nat → List (SimplLoan) → Int → Bool → List (SA2int) → Int → Int → Int → Int → Option (Int × Int × Int × Bool)
  | 0, _, _, _, _, _, _, _, _ => none
  | k + 1, x1, x7, x9, x20, x21, x22, x852000, x852001 => if x22 < x21 then (if 0 ≤ x22 then (if x22 < (x20.length : Int) then (if 0 ≤ ((rd_TA2int x20 x22).f0) then (if ((rd_TA2int x20 x22).f0) < (x1.length : Int) then (if 0 ≤ ((rd_TA2int x20 x22).f1) then (if ((rd_TA2int x20 x22).f1) < (x1.length : Int) then (if x9 = true then (if (mx ((rd_TimplLoan x1 ((rd_TA2int x20 x22).f0)).f2) ((rd_TimplLoan x1 ((rd_TA2int x20 x22).f1)).f2)) < x7 then (impl_FirstClash.l0 k x1 (mx ((rd_TimplLoan x1 ((rd_TA2int x20 x22).f0)).f2) ((rd_TimplLoan x1 ((rd_TA2int x20 x22).f1)).f2)) true x20 x21 (wrap64 (x22 + 1)) ((rd_TA2int x20 x22).f0) ((rd_TA2int x20 x22).f1)) else (impl_FirstClash.l0 k x1 x7 x9 x20 x21 (wrap64 (x22 + 1)) x852000 x852001)) else (impl_FirstClash.l0 k x1 (mx ((rd_TimplLoan x1 ((rd_TA2int x20 x22).f0)).f2) ((rd_TimplLoan x1 ((rd_TA2int x20 x22).f1)).f2)) true x20 x21 (wrap64 (x22 + 1)) ((rd_TA2int x20 x22).f0) ((rd_TA2int x20 x22).f1))) else (none)) else (none)) else (none)) else (none)) else (none)) else (none)) else (some (x7, x852000, x852001, x9))
def impl_FirstClash.f (k : Nat) (l0_0 : List (List Int)) (l1 : List (SimplLoan)) : Option (Int × Int × Int × Bool) := (impl_areLoans.f l0_0 l1).bind fun t850 => (if t850 = true then ((impl_conflicts.f k l1).bind fun t852 => (impl_FirstClash.l0 k l1 0 false t852 (t852.length : Int) 0 0 0)) else (some (0, 0, 0, false)))
def impl_FirstClash.T7 : Bool × List (List Nat × List Nat) := (true, [([], []), ([], []), ([1], [1]), ([0, 2], [0, 2]), ([3], [3]), ([4], [4]), ([], []), ([], []), ([7], [7]), ([6, 8], [6, 8]), ([9], [9]), ([10], [10]), ([5, 11], [5, 11]), ([12, 0, 1, 2, 3, 4, 5, 6, 7, 8, 9, 10, 11, 12], [12])])
def impl_FirstClash.B7 : List Nat := [0, 0, 2, 7, 15, 31, 0, 0, 128, 448, 960, 1984, 4095, 8191]
theorem impl_FirstClash.tab7 : rtab .any (opsOf Try.f45 7) = impl_FirstClash.T7 := by kernel_rfl
theorem impl_FirstClash.bits7 : waitsOk impl_FirstClash.T7.2 impl_FirstClash.B7 = true := by kernel_rfl
set_option maxHeartbeats 8000000 in
set_option maxRecDepth 100000 in
theorem impl_FirstClash.calls (k : Nat) (A0_0 : Option Addr) (c0_0 : Nat) (l0_0 : List (List Int)) (A1 : Option Addr) (c1 : Nat) (l1 : List (SimplLoan)) (r1 : Int) (r2 : Int) (r3 : Int) (r4 : Bool) (w : World) (hr0_0 : Kd.C (Kd.slice 5 (Kd.int .u8)) w A0_0 l0_0.length l0_0) (hc0_0 : l0_0.length ≤ c0_0) (hr1 : Kd.C kimplLoan w A1 l1.length l1) (hc1 : l1.length ≤ c1) (h : impl_FirstClash.f k l0_0 l1 = some (r1, r2, r3, r4)) :
    Calls Try.prog 45 #[.agg #[.slice A0_0 l0_0.length c0_0], .slice A1 l1.length c1] w fun e w' => e = .returned (.tuple #[.int .i64 r1, .agg #[.int .i64 r2, .int .i64 r3], .bool r4]) ∧ Below w.heap.size w w' := by
  have hu26 := Try.underlying26
  have hu75 := Try.underlying75
  have HR0_0 := Aside0.mk hr0_0
  have HC0_0 := Aside0.mk hc0_0
  clear hr0_0 hc0_0
  have HR1 := Aside0.mk hr1
  have HC1 := Aside0.mk hc1
  clear hr1 hc1
  have HB := Aside0.mk (Below.refl w.heap.size w)
  have H : ((impl_areLoans.f l0_0 l1).bind fun t850 => (if t850 = true then ((impl_conflicts.f k l1).bind fun t852 => (impl_FirstClash.l0 k l1 0 false t852 (t852.length : Int) 0 0 0)) else (some (0, 0, 0, false)))) = some (r1, r2, r3, r4) := h
  clear h
  replace H := Option.bind_eq_some_iff.mp H
  obtain ⟨t850, A30, H⟩ := H
  replace H : (if t850 = true then ((impl_conflicts.f k l1).bind fun t852 => (impl_FirstClash.l0 k l1 0 false t852 (t852.length : Int) 0 0 0)) else (some (0, 0, 0, false))) = some (r1, r2, r3, r4) := H
  have A3 := Aside0.mk A30
  clear A30
  by_cases c4 : t850 = true
  · subst c4
    have H1 : ((impl_conflicts.f k l1).bind fun t852 => (impl_FirstClash.l0 k l1 0 false t852 (t852.length : Int) 0 0 0)) = some (r1, r2, r3, r4) := by rw [if_pos rfl] at H; exact H
    clear H
    have H := H1
    clear H1
    replace H := Option.bind_eq_some_iff.mp H
    obtain ⟨t852, A50, H⟩ := H
    replace H : (impl_FirstClash.l0 k l1 0 false t852 (t852.length : Int) 0 0 0) = some (r1, r2, r3, r4) := H
    have A5 := Aside0.mk A50
    clear A50
    have H' := Aside0.mk H
    clear H
    go_enter Try.func45, Try.ntmps45
    go_wp2_with (first | ((with_reducible refine gate_dst (N := 2) rfl ?_); refine box_event ?hg (N := 2) ?hd (cs := #[.slice A0_0 l0_0.length c0_0]) (t := 26) ?hr ?_; (case hd => rfl); (case hg => rfl); (case hr => first | (go_simp; done) | (go_simp; rfl)); intro gb848 hg w6 hbox hb; have n0_ := Aside0.mk (below_step (by repeat (first | (with_reducible first | exact HB.out | apply below_alloc | apply pw_below_drewN | apply below_drew1) | exact HB.out)) hb); have n1_ := Aside0.mk (hbox); have n2_ := Aside0.mk ((by rw [hg]; exact (below_size (by repeat (first | (with_reducible first | exact HB.out | apply below_alloc | apply pw_below_drewN | apply below_drew1) | exact HB.out))) : w.heap.size ≤ gb848)); have n3_ := Aside0.mk ((by rw [hg]; exact (below_size (by repeat (first | (with_reducible first | exact HB.out | apply below_alloc | apply pw_below_drewN | apply below_drew1) | exact HB.out))) : w.heap.size ≤ gb848)); clear HB; have HB := n0_; have BK848 := n1_; have GW848 := n2_; have GE848 := n3_; clear n0_ n1_ n2_ n3_; clear hb hbox hg) | ((with_reducible refine gate_dst (N := 5) rfl ?_); refine box_event ?hg (N := 5) ?hd (cs := #[.int .i64 0, .int .i64 0]) (t := 75) ?hr ?_; (case hd => rfl); (case hg => rfl); (case hr => first | (go_simp; done) | (go_simp; rfl)); intro gb849 hg w7 hbox hb; have n0_ := Aside0.mk (blk_below (g := gb848) (o := .cells #[.slice A0_0 l0_0.length c0_0] 26 (0, 0)) (by (with_reducible repeat (first | refine blk_drewN ?_ _ | refine blk_drew ?_ | refine blk_alloc ?_ _)); exact BK848.out) hb); have n1_ := Aside0.mk (below_step (by repeat (first | (with_reducible first | exact HB.out | apply below_alloc | apply pw_below_drewN | apply below_drew1 | refine below_set ?_ GE848.out) | exact HB.out)) hb); have n2_ := Aside0.mk (hbox); have n3_ := Aside0.mk ((by rw [hg]; exact (below_size (by repeat (first | (with_reducible first | exact HB.out | apply below_alloc | apply pw_below_drewN | apply below_drew1 | refine below_set ?_ GE848.out) | exact HB.out))) : w.heap.size ≤ gb849)); have n4_ := Aside0.mk ((by rw [hg]; exact (below_size (by repeat (first | (with_reducible first | exact HB.out | apply below_alloc | apply pw_below_drewN | apply below_drew1 | refine below_set ?_ GE848.out) | exact HB.out))) : w.heap.size ≤ gb849)); have n5_ := Aside0.mk ((by rw [hg]; exact Nat.ne_of_lt (blk_lt (g := gb848) (o := .cells #[.slice A0_0 l0_0.length c0_0] 26 (0, 0)) (by (with_reducible repeat (first | refine blk_drewN ?_ _ | refine blk_drew ?_ | refine blk_alloc ?_ _)); exact BK848.out)) : gb848 ≠ gb849)); have n6_ := Aside0.mk ((by rw [hg]; exact Nat.ne_of_gt (blk_lt (g := gb848) (o := .cells #[.slice A0_0 l0_0.length c0_0] 26 (0, 0)) (by (with_reducible repeat (first | refine blk_drewN ?_ _ | refine blk_drew ?_ | refine blk_alloc ?_ _)); exact BK848.out)) : gb849 ≠ gb848)); clear BK848; clear HB; have BK848 := n0_; have HB := n1_; have BK849 := n2_; have GW849 := n3_; have GE849 := n4_; have NB848_849 := n5_; have NB849_848 := n6_; clear n0_ n1_ n2_ n3_ n4_ n5_ n6_; clear hb hbox hg; have hnb8 := NB848_849.out; have hnc8 := NB849_848.out; have hcz9_0 : w7.cell? ⟨gb848, 0, none⟩ = some (.slice A0_0 l0_0.length c0_0) := (blk_cell BK848.out 0).trans rfl; have hfz9_0 := blk_frozen BK848.out 0) | ((with_reducible refine gate_callee (f := 76) rfl ?_); refine goesL_ (some 15) rfl rfl Try.func76 (by kernel_rfl) rfl #[.agg #[.slice A0_0 l0_0.length c0_0], .slice A1 l1.length c1] rfl (by (try simp only [List.map_toArray, List.map_cons, List.map_nil]); first | done | rfl | (simp only [List.length_drop, List.length_take]; rfl)) ?_; (with_reducible refine (impl_areLoans.calls _ _ l0_0 _ _ l1 true _ ?side1 ?side2 ?side3 ?side4 A3.out).mono ?_); (case side1 => repeat (first | exact (Kd.C_below HR0_0.out HB.out) | (with_reducible refine Kd.C_alloc ?_ _) | (with_reducible refine Kd.C_drewN ?_ _) | (with_reducible refine Kd.C_drew ?_))); (case side2 => exact HC0_0.out); (case side3 => repeat (first | exact (Kd.C_below HR1.out HB.out) | (with_reducible refine Kd.C_alloc ?_ _) | (with_reducible refine Kd.C_drewN ?_ _) | (with_reducible refine Kd.C_drew ?_))); (case side4 => exact HC1.out); rintro e w10 ⟨rfl, hb⟩; refine ⟨_, rfl, ?_⟩; have n0_ := Aside0.mk (blk_below (g := gb848) (o := .cells #[.slice A0_0 l0_0.length c0_0] 26 (0, 0)) (by (with_reducible repeat (first | refine blk_drewN ?_ _ | refine blk_drew ?_ | refine blk_alloc ?_ _)); exact BK848.out) hb); have n1_ := Aside0.mk (blk_below (g := gb849) (o := .cells #[.int .i64 0, .int .i64 0] 75 (0, 0)) (by (with_reducible repeat (first | refine blk_drewN ?_ _ | refine blk_drew ?_ | refine blk_alloc ?_ _)); exact BK849.out) hb); have n2_ := Aside0.mk (below_step (by repeat (first | (with_reducible first | exact HB.out | apply below_alloc | apply pw_below_drewN | apply below_drew1 | refine below_set ?_ GE848.out | refine below_set ?_ GE849.out) | exact HB.out)) hb); clear BK848; clear BK849; clear HB; have BK848 := n0_; have BK849 := n1_; have HB := n2_; clear n0_ n1_ n2_; (try clear hb); (try clear hb2); (try clear hk); (try clear hi)) | ((with_reducible refine gate_dst (N := 8) rfl ?_); refine box_event ?hg (N := 8) ?hd (cs := #[.int .i64 0, .int .i64 0]) (t := 75) ?hr ?_; (case hd => rfl); (case hg => rfl); (case hr => first | (go_simp; done) | (go_simp; rfl)); intro gb851 hg w11 hbox hb; have n0_ := Aside0.mk (blk_below (g := gb848) (o := .cells #[.slice A0_0 l0_0.length c0_0] 26 (0, 0)) (by (with_reducible repeat (first | refine blk_drewN ?_ _ | refine blk_drew ?_ | refine blk_alloc ?_ _)); exact BK848.out) hb); have n1_ := Aside0.mk (blk_below (g := gb849) (o := .cells #[.int .i64 0, .int .i64 0] 75 (0, 0)) (by (with_reducible repeat (first | refine blk_drewN ?_ _ | refine blk_drew ?_ | refine blk_alloc ?_ _)); exact BK849.out) hb); have n2_ := Aside0.mk (below_step (by repeat (first | (with_reducible first | exact HB.out | apply below_alloc | apply pw_below_drewN | apply below_drew1 | refine below_set ?_ GE848.out | refine below_set ?_ GE849.out) | exact HB.out)) hb); have n3_ := Aside0.mk (hbox); have n4_ := Aside0.mk ((by rw [hg]; exact (below_size (by repeat (first | (with_reducible first | exact HB.out | apply below_alloc | apply pw_below_drewN | apply below_drew1 | refine below_set ?_ GE848.out | refine below_set ?_ GE849.out) | exact HB.out))) : w.heap.size ≤ gb851)); have n5_ := Aside0.mk ((by rw [hg]; exact (below_size (by repeat (first | (with_reducible first | exact HB.out | apply below_alloc | apply pw_below_drewN | apply below_drew1 | refine below_set ?_ GE848.out | refine below_set ?_ GE849.out) | exact HB.out))) : w.heap.size ≤ gb851)); have n6_ := Aside0.mk ((by rw [hg]; exact Nat.ne_of_lt (blk_lt (g := gb848) (o := .cells #[.slice A0_0 l0_0.length c0_0] 26 (0, 0)) (by (with_reducible repeat (first | refine blk_drewN ?_ _ | refine blk_drew ?_ | refine blk_alloc ?_ _)); exact BK848.out)) : gb848 ≠ gb851)); have n7_ := Aside0.mk ((by rw [hg]; exact Nat.ne_of_gt (blk_lt (g := gb848) (o := .cells #[.slice A0_0 l0_0.length c0_0] 26 (0, 0)) (by (with_reducible repeat (first | refine blk_drewN ?_ _ | refine blk_drew ?_ | refine blk_alloc ?_ _)); exact BK848.out)) : gb851 ≠ gb848)); have n8_ := Aside0.mk ((by rw [hg]; exact Nat.ne_of_lt (blk_lt (g := gb849) (o := .cells #[.int .i64 0, .int .i64 0] 75 (0, 0)) (by (with_reducible repeat (first | refine blk_drewN ?_ _ | refine blk_drew ?_ | refine blk_alloc ?_ _)); exact BK849.out)) : gb849 ≠ gb851)); have n9_ := Aside0.mk ((by rw [hg]; exact Nat.ne_of_gt (blk_lt (g := gb849) (o := .cells #[.int .i64 0, .int .i64 0] 75 (0, 0)) (by (with_reducible repeat (first | refine blk_drewN ?_ _ | refine blk_drew ?_ | refine blk_alloc ?_ _)); exact BK849.out)) : gb851 ≠ gb849)); clear BK848; clear BK849; clear HB; have BK848 := n0_; have BK849 := n1_; have HB := n2_; have BK851 := n3_; have GW851 := n4_; have GE851 := n5_; have NB848_851 := n6_; have NB851_848 := n7_; have NB849_851 := n8_; have NB851_849 := n9_; clear n0_ n1_ n2_ n3_ n4_ n5_ n6_ n7_ n8_ n9_; clear hb hbox hg; have hnb12 := NB851_848.out; have hnc12 := NB848_851.out; have hnb13 := NB851_849.out; have hnc13 := NB849_851.out; have hcz14_0 : w11.cell? ⟨gb851, 0, none⟩ = some (.int .i64 0) := (blk_cell BK851.out 0).trans rfl; have hcz14_1 : w11.cell? ⟨gb851, 1, none⟩ = some (.int .i64 0) := (blk_cell BK851.out 1).trans rfl; have hfz14_0 := blk_frozen BK851.out 0; have hfz14_1 := blk_frozen BK851.out 1) | ((with_reducible refine gate_callee (f := 77) rfl ?_); refine goesL_ (some 20) rfl rfl Try.func77 (by kernel_rfl) rfl #[.slice A1 l1.length c1] rfl (by (try simp only [List.map_toArray, List.map_cons, List.map_nil]); first | done | rfl | (simp only [List.length_drop, List.length_take]; rfl)) ?_; (with_reducible refine (impl_conflicts.calls k _ _ l1 t852 _ ?side1 ?side2 A5.out).mono ?_); (case side1 => exact Kd.C_below HR1.out (by repeat (first | (with_reducible first | exact HB.out | apply below_alloc | apply pw_below_drewN | apply below_drew1 | refine below_set ?_ GE848.out | refine below_set ?_ GE849.out | refine below_set ?_ GE851.out) | exact HB.out))); (case side2 => exact HC1.out); rintro e w15 ⟨v853, rfl, ho0, hb⟩; refine ⟨_, rfl, ?_⟩; have n0_ := Aside0.mk (Kd.R_lower (Kd.R_newB (Kd.R_newB ho0 (g := gb849) (o := .cells #[.int .i64 0, .int .i64 0] 75 (0, 0)) (by (with_reducible repeat (first | refine blk_drewN ?_ _ | refine blk_drew ?_ | refine blk_alloc ?_ _)); refine blk_far ?_ NB849_851.out _; (with_reducible repeat (first | refine blk_drewN ?_ _ | refine blk_drew ?_ | refine blk_alloc ?_ _)); refine blk_far ?_ NB849_851.out _; (with_reducible repeat (first | refine blk_drewN ?_ _ | refine blk_drew ?_ | refine blk_alloc ?_ _)); exact BK849.out)) (g := gb851) (o := .cells #[.int .i64 0, .int .i64 0] 75 (0, 0)) (by (with_reducible repeat (first | refine blk_drewN ?_ _ | refine blk_drew ?_ | refine blk_alloc ?_ _)); refine blk_put (cs := #[.int .i64 0, .int .i64 0]) ?_ 1 _ rfl; (with_reducible repeat (first | refine blk_drewN ?_ _ | refine blk_drew ?_ | refine blk_alloc ?_ _)); refine blk_put (cs := #[.int .i64 0, .int .i64 0]) ?_ 0 _ rfl; (with_reducible repeat (first | refine blk_drewN ?_ _ | refine blk_drew ?_ | refine blk_alloc ?_ _)); exact BK851.out)) (below_size (by repeat (first | (with_reducible first | exact HB.out | apply below_alloc | apply pw_below_drewN | apply below_drew1 | refine below_set ?_ GE848.out | refine below_set ?_ GE849.out | refine below_set ?_ GE851.out) | exact HB.out)))); have n1_ := Aside0.mk (blk_below (g := gb848) (o := .cells #[.slice A0_0 l0_0.length c0_0] 26 (0, 0)) (by (with_reducible repeat (first | refine blk_drewN ?_ _ | refine blk_drew ?_ | refine blk_alloc ?_ _)); refine blk_far ?_ NB848_851.out _; (with_reducible repeat (first | refine blk_drewN ?_ _ | refine blk_drew ?_ | refine blk_alloc ?_ _)); refine blk_far ?_ NB848_851.out _; (with_reducible repeat (first | refine blk_drewN ?_ _ | refine blk_drew ?_ | refine blk_alloc ?_ _)); exact BK848.out) hb); have n2_ := Aside0.mk (blk_below (g := gb849) (o := .cells #[.int .i64 0, .int .i64 0] 75 (0, 0)) (by (with_reducible repeat (first | refine blk_drewN ?_ _ | refine blk_drew ?_ | refine blk_alloc ?_ _)); refine blk_far ?_ NB849_851.out _; (with_reducible repeat (first | refine blk_drewN ?_ _ | refine blk_drew ?_ | refine blk_alloc ?_ _)); refine blk_far ?_ NB849_851.out _; (with_reducible repeat (first | refine blk_drewN ?_ _ | refine blk_drew ?_ | refine blk_alloc ?_ _)); exact BK849.out) hb); have n3_ := Aside0.mk (blk_below (g := gb851) (o := .cells #[.int .i64 0, .int .i64 0] 75 (0, 0)) (by (with_reducible repeat (first | refine blk_drewN ?_ _ | refine blk_drew ?_ | refine blk_alloc ?_ _)); refine blk_put (cs := #[.int .i64 0, .int .i64 0]) ?_ 1 _ rfl; (with_reducible repeat (first | refine blk_drewN ?_ _ | refine blk_drew ?_ | refine blk_alloc ?_ _)); refine blk_put (cs := #[.int .i64 0, .int .i64 0]) ?_ 0 _ rfl; (with_reducible repeat (first | refine blk_drewN ?_ _ | refine blk_drew ?_ | refine blk_alloc ?_ _)); exact BK851.out) hb); have n4_ := Aside0.mk (below_step (by repeat (first | (with_reducible first | exact HB.out | apply below_alloc | apply pw_below_drewN | apply below_drew1 | refine below_set ?_ GE848.out | refine below_set ?_ GE849.out | refine below_set ?_ GE851.out) | exact HB.out)) hb); clear BK848; clear BK849; clear BK851; clear HB; have HO854 := n0_; have BK848 := n1_; have BK849 := n2_; have BK851 := n3_; have HB := n4_; clear n0_ n1_ n2_ n3_ n4_; (try clear hb); (try clear hb2); (try clear hk); (try clear hi); (try clear ho0); obtain ⟨Ao16, co16, eo16⟩ := Kd.R_slice HO854.out; subst eo16))
    go_loopg [7, 9, 22] k (fun kq v7 v9 v22 w' => ∃ (x7_1 : Int) (x9_1 : Bool) (x22_1 : Int) (x852000_1 : Int) (x852001_1 : Int), v7 = .int .i64 x7_1 ∧ v9 = .bool x9_1 ∧ v22 = .int .i64 x22_1 ∧ Aside0 (impl_FirstClash.l0 kq l1 x7_1 x9_1 t852 (t852.length : Int) x22_1 x852000_1 x852001_1 = some (r1, r2, r3, r4)) ∧ Aside0 (kq ≤ k) ∧ Aside0 (Kd.R kA2int 75 w' w.heap.size (fun k_ => k_ ≠ gb849 ∧ k_ ≠ gb851) (.slice Ao16 t852.length co16) t852) ∧ Aside0 (w'.heap[gb848]? = some (.cells #[(.slice A0_0 l0_0.length c0_0)] 26 (0, 0))) ∧ Aside0 (w'.heap[gb849]? = some (.cells #[.int .i64 0, .int .i64 0] 75 (0, 0))) ∧ Aside0 (w'.heap[gb851]? = some (.cells #[.int .i64 x852000_1, .int .i64 x852001_1] 75 (0, 0))) ∧ Aside0 (Below w.heap.size w w'))
    case atStart => exact ⟨(0), (false), (0), (0), (0), (by first | rfl | (simp; done) | (simp [*]; done)), (by first | rfl | (simp; done) | (simp [*]; done)), (by first | rfl | (simp; done) | (simp [*]; done)), H', ⟨Nat.le_refl _⟩, ⟨by (with_reducible repeat (first | apply Kd.R_alloc | apply Kd.R_drewN | apply Kd.R_drew)); exact Kd.R_mono HO854.out (fun _ hk => ⟨hk.1.2, hk.2⟩)⟩, ⟨by (with_reducible repeat (first | refine blk_drewN ?_ _ | refine blk_drew ?_ | refine blk_alloc ?_ _)); exact BK848.out⟩, ⟨by (with_reducible repeat (first | refine blk_drewN ?_ _ | refine blk_drew ?_ | refine blk_alloc ?_ _)); exact BK849.out⟩, ⟨by (with_reducible repeat (first | refine blk_drewN ?_ _ | refine blk_drew ?_ | refine blk_alloc ?_ _)); exact BK851.out⟩, ⟨by repeat (first | (with_reducible first | exact HB.out | apply below_alloc | apply pw_below_drewN | apply below_drew1 | refine below_set ?_ GE848.out | refine below_set ?_ GE849.out | refine below_set ?_ GE851.out) | exact HB.out)⟩⟩
    case round =>
      clear H'
      try clear c1
      try clear p2
      try clear c4
      try clear c7
      try clear c8
      try clear c12
      try clear c13
      try clear hcz14_0
      try clear hcz14_1
      try clear hcz9_0
      try clear hfz14_0
      try clear hfz14_1
      try clear hfz9_0
      obtain ⟨x7_1, x9_1, x22_1, x852000_1, x852001_1, rfl, rfl, rfl, HA, HK1, HO_20, BK848, BK849, BK851, HB⟩ := hrel
      cases gk with
      | zero => exact absurd HA.out (by simp [impl_FirstClash.l0])
      | succ k1 =>
        have H := HA.out
        clear HA
        simp only [impl_FirstClash.l0] at H
        by_cases c17 : x22_1 < (t852.length : Int)
        · rw [if_pos c17] at H
          have c17b0 : decide (x22_1 < (t852.length : Int)) = true := decide_eq_true c17
          clear c17
          by_cases c18 : 0 ≤ x22_1
          · rw [if_pos c18] at H
            have c18b0 : decide (0 ≤ x22_1) = true := decide_eq_true c18
            clear c18
            by_cases c19 : x22_1 < (t852.length : Int)
            · rw [if_pos c19] at H
              have c19b0 : decide (x22_1 < (t852.length : Int)) = true := decide_eq_true c19
              clear c19
              by_cases c20 : 0 ≤ ((rd_TA2int t852 x22_1).f0)
              · rw [if_pos c20] at H
                have c20b0 : decide (0 ≤ ((rd_TA2int t852 x22_1).f0)) = true := decide_eq_true c20
                clear c20
                by_cases c21 : ((rd_TA2int t852 x22_1).f0) < (l1.length : Int)
                · rw [if_pos c21] at H
                  have c21b0 : decide (((rd_TA2int t852 x22_1).f0) < (l1.length : Int)) = true := decide_eq_true c21
                  clear c21
                  by_cases c22 : 0 ≤ ((rd_TA2int t852 x22_1).f1)
                  · rw [if_pos c22] at H
                    have c22b0 : decide (0 ≤ ((rd_TA2int t852 x22_1).f1)) = true := decide_eq_true c22
                    clear c22
                    by_cases c23 : ((rd_TA2int t852 x22_1).f1) < (l1.length : Int)
                    · rw [if_pos c23] at H
                      have c23b0 : decide (((rd_TA2int t852 x22_1).f1) < (l1.length : Int)) = true := decide_eq_true c23
                      clear c23
                      obtain ⟨ji24, hji24⟩ : ∃ j_ : Int, (mx ((rd_TimplLoan l1 ((rd_TA2int t852 x22_1).f0)).f2) ((rd_TimplLoan l1 ((rd_TA2int t852 x22_1).f1)).f2)) = j_ := ⟨_, rfl⟩
                      replace H : (if x9_1 = true then (if (ji24) < x7_1 then (impl_FirstClash.l0 k1 l1 ji24 true t852 (t852.length : Int) (wrap64 (x22_1 + 1)) ((rd_TA2int t852 x22_1).f0) ((rd_TA2int t852 x22_1).f1)) else (impl_FirstClash.l0 k1 l1 x7_1 x9_1 t852 (t852.length : Int) (wrap64 (x22_1 + 1)) x852000_1 x852001_1)) else (impl_FirstClash.l0 k1 l1 ji24 true t852 (t852.length : Int) (wrap64 (x22_1 + 1)) ((rd_TA2int t852 x22_1).f0) ((rd_TA2int t852 x22_1).f1))) = some (r1, r2, r3, r4) := by first | (rw [hji24] at H; exact H) | (simp only [hji24] at H ⊢; exact H)
                      have hji24_ : (if ((rd_TimplLoan l1 ((rd_TA2int t852 x22_1).f0)).f2) < ((rd_TimplLoan l1 ((rd_TA2int t852 x22_1).f1)).f2) then ((rd_TimplLoan l1 ((rd_TA2int t852 x22_1).f1)).f2) else ((rd_TimplLoan l1 ((rd_TA2int t852 x22_1).f0)).f2)) = ji24 := hji24
                      by_cases c25 : x9_1 = true
                      · subst c25
                        have H1 : (if (ji24) < x7_1 then (impl_FirstClash.l0 k1 l1 ji24 true t852 (t852.length : Int) (wrap64 (x22_1 + 1)) ((rd_TA2int t852 x22_1).f0) ((rd_TA2int t852 x22_1).f1)) else (impl_FirstClash.l0 k1 l1 x7_1 true t852 (t852.length : Int) (wrap64 (x22_1 + 1)) x852000_1 x852001_1)) = some (r1, r2, r3, r4) := by rw [if_pos rfl] at H; exact H
                        clear H
                        have H := H1
                        clear H1
                        by_cases c26 : (ji24) < x7_1
                        · rw [if_pos c26] at H
                          have c26b0 : decide ((ji24) < x7_1) = true := decide_eq_true c26
                          clear c26
                          have H' := Aside0.mk H
                          clear H
                          have p855 : 0 ≤ (x22_1 : Int) := of_decide_eq_true (by first | (with_reducible assumption) | assumption)
                          have q855 : x22_1 < (t852.length : Int) := of_decide_eq_true (by first | (with_reducible assumption) | assumption)
                          obtain ⟨ad855, e855, hx855_0, hx855_1⟩ := at_TA2int (Kd.R_reads' HO_20.out).2.2 x22_1 p855 q855
                          cases e855
                          replace p855 := eq_true p855
                          replace q855 := eq_true q855
                          try go_wp2_with (first | ((with_reducible refine gate_dst (N := 11) rfl ?_); refine box_event ?hg (N := 11) ?hd (cs := #[.int .i64 0, .int .i64 0]) (t := 75) ?hr ?_; (case hd => rfl); (case hg => rfl); (case hr => first | (go_simp; done) | (go_simp; rfl)); intro gb856 hg w27 hbox hb; have n0_ := Aside0.mk (Kd.R_below (Kd.R_elderB (by (with_reducible repeat (first | apply Kd.R_alloc | apply Kd.R_drewN | apply Kd.R_drew)); exact HO_20.out) gb856 (Nat.le_of_eq hg.symm)) hb); have n1_ := Aside0.mk (blk_below (g := gb848) (o := .cells #[.slice A0_0 l0_0.length c0_0] 26 (0, 0)) (by (with_reducible repeat (first | refine blk_drewN ?_ _ | refine blk_drew ?_ | refine blk_alloc ?_ _)); exact BK848.out) hb); have n2_ := Aside0.mk (blk_below (g := gb849) (o := .cells #[.int .i64 0, .int .i64 0] 75 (0, 0)) (by (with_reducible repeat (first | refine blk_drewN ?_ _ | refine blk_drew ?_ | refine blk_alloc ?_ _)); exact BK849.out) hb); have n3_ := Aside0.mk (blk_below (g := gb851) (o := .cells #[.int .i64 x852000_1, .int .i64 x852001_1] 75 (0, 0)) (by (with_reducible repeat (first | refine blk_drewN ?_ _ | refine blk_drew ?_ | refine blk_alloc ?_ _)); exact BK851.out) hb); have n4_ := Aside0.mk (below_step (by repeat (first | (with_reducible first | exact HB.out | apply below_alloc | apply pw_below_drewN | apply below_drew1 | refine below_set ?_ GE848.out | refine below_set ?_ GE849.out | refine below_set ?_ GE851.out) | exact HB.out)) hb); have n5_ := Aside0.mk (hbox); have n6_ := Aside0.mk ((by rw [hg]; exact (below_size (by repeat (first | (with_reducible first | exact HB.out | apply below_alloc | apply pw_below_drewN | apply below_drew1 | refine below_set ?_ GE848.out | refine below_set ?_ GE849.out | refine below_set ?_ GE851.out) | exact HB.out))) : w.heap.size ≤ gb856)); have n7_ := Aside0.mk ((by rw [hg]; exact (below_size (by repeat (first | (with_reducible first | exact HB.out | apply below_alloc | apply pw_below_drewN | apply below_drew1 | refine below_set ?_ GE848.out | refine below_set ?_ GE849.out | refine below_set ?_ GE851.out) | exact HB.out))) : w.heap.size ≤ gb856)); have n8_ := Aside0.mk ((by rw [hg]; exact Nat.ne_of_lt (blk_lt (g := gb848) (o := .cells #[.slice A0_0 l0_0.length c0_0] 26 (0, 0)) (by (with_reducible repeat (first | refine blk_drewN ?_ _ | refine blk_drew ?_ | refine blk_alloc ?_ _)); exact BK848.out)) : gb848 ≠ gb856)); have n9_ := Aside0.mk ((by rw [hg]; exact Nat.ne_of_gt (blk_lt (g := gb848) (o := .cells #[.slice A0_0 l0_0.length c0_0] 26 (0, 0)) (by (with_reducible repeat (first | refine blk_drewN ?_ _ | refine blk_drew ?_ | refine blk_alloc ?_ _)); exact BK848.out)) : gb856 ≠ gb848)); have n10_ := Aside0.mk ((by rw [hg]; exact Nat.ne_of_lt (blk_lt (g := gb849) (o := .cells #[.int .i64 0, .int .i64 0] 75 (0, 0)) (by (with_reducible repeat (first | refine blk_drewN ?_ _ | refine blk_drew ?_ | refine blk_alloc ?_ _)); exact BK849.out)) : gb849 ≠ gb856)); have n11_ := Aside0.mk ((by rw [hg]; exact Nat.ne_of_gt (blk_lt (g := gb849) (o := .cells #[.int .i64 0, .int .i64 0] 75 (0, 0)) (by (with_reducible repeat (first | refine blk_drewN ?_ _ | refine blk_drew ?_ | refine blk_alloc ?_ _)); exact BK849.out)) : gb856 ≠ gb849)); have n12_ := Aside0.mk ((by rw [hg]; exact Nat.ne_of_lt (blk_lt (g := gb851) (o := .cells #[.int .i64 x852000_1, .int .i64 x852001_1] 75 (0, 0)) (by (with_reducible repeat (first | refine blk_drewN ?_ _ | refine blk_drew ?_ | refine blk_alloc ?_ _)); exact BK851.out)) : gb851 ≠ gb856)); have n13_ := Aside0.mk ((by rw [hg]; exact Nat.ne_of_gt (blk_lt (g := gb851) (o := .cells #[.int .i64 x852000_1, .int .i64 x852001_1] 75 (0, 0)) (by (with_reducible repeat (first | refine blk_drewN ?_ _ | refine blk_drew ?_ | refine blk_alloc ?_ _)); exact BK851.out)) : gb856 ≠ gb851)); clear HO_20; clear BK848; clear BK849; clear BK851; clear HB; have HO_20 := n0_; have BK848 := n1_; have BK849 := n2_; have BK851 := n3_; have HB := n4_; have BK856 := n5_; have GW856 := n6_; have GE856 := n7_; have NB848_856 := n8_; have NB856_848 := n9_; have NB849_856 := n10_; have NB856_849 := n11_; have NB851_856 := n12_; have NB856_851 := n13_; clear n0_ n1_ n2_ n3_ n4_ n5_ n6_ n7_ n8_ n9_ n10_ n11_ n12_ n13_; clear hb hbox hg; have hnb28 := NB856_848.out; have hnc28 := NB848_856.out; have hnb29 := NB856_849.out; have hnc29 := NB849_856.out; have hnb30 := NB856_851.out; have hnc30 := NB851_856.out; have hcz31_0 : w27.cell? ⟨gb856, 0, none⟩ = some (.int .i64 0) := (blk_cell BK856.out 0).trans rfl; have hcz31_1 : w27.cell? ⟨gb856, 1, none⟩ = some (.int .i64 0) := (blk_cell BK856.out 1).trans rfl; have hfz31_0 := blk_frozen BK856.out 0; have hfz31_1 := blk_frozen BK856.out 1))
                          have n0_ : Aside0 (Kd.R kA2int 75 ((w27.setCell ⟨gb856, 0, none⟩ (.int .i64 ((rd_TA2int t852 x22_1).f0))).setCell ⟨gb856, 1, none⟩ (.int .i64 ((rd_TA2int t852 x22_1).f1))) w.heap.size (fun k_ => k_ ≠ gb849 ∧ k_ ≠ gb851 ∧ k_ ≠ gb856) (.slice (some ad855) t852.length co16) t852) := ⟨by (with_reducible repeat (first | apply Kd.R_alloc | apply Kd.R_drewN | apply Kd.R_drew)); exact Kd.R_mono (Kd.R_far (p := ⟨gb856, 1, none⟩) (Kd.R_far (p := ⟨gb856, 0, none⟩) (Kd.R_mono HO_20.out (fun k_ hk => (⟨hk, hk.2⟩ : _ ∧ k_ ≠ gb856))) (fun _ hk => hk.2) (.int .i64 ((rd_TA2int t852 x22_1).f0))) (fun _ hk => hk.2) (.int .i64 ((rd_TA2int t852 x22_1).f1))) (fun _ hk => ⟨hk.1.1.1, ⟨hk.1.1.2, hk.1.2⟩⟩)⟩
                          have n1_ : Aside0 (((w27.setCell ⟨gb856, 0, none⟩ (.int .i64 ((rd_TA2int t852 x22_1).f0))).setCell ⟨gb856, 1, none⟩ (.int .i64 ((rd_TA2int t852 x22_1).f1))).heap[gb848]? = some (.cells #[.slice A0_0 l0_0.length c0_0] 26 (0, 0))) := ⟨by (with_reducible repeat (first | refine blk_drewN ?_ _ | refine blk_drew ?_ | refine blk_alloc ?_ _)); refine blk_far ?_ NB848_856.out _; (with_reducible repeat (first | refine blk_drewN ?_ _ | refine blk_drew ?_ | refine blk_alloc ?_ _)); refine blk_far ?_ NB848_856.out _; (with_reducible repeat (first | refine blk_drewN ?_ _ | refine blk_drew ?_ | refine blk_alloc ?_ _)); exact BK848.out⟩
                          have n2_ : Aside0 (((w27.setCell ⟨gb856, 0, none⟩ (.int .i64 ((rd_TA2int t852 x22_1).f0))).setCell ⟨gb856, 1, none⟩ (.int .i64 ((rd_TA2int t852 x22_1).f1))).heap[gb849]? = some (.cells #[.int .i64 0, .int .i64 0] 75 (0, 0))) := ⟨by (with_reducible repeat (first | refine blk_drewN ?_ _ | refine blk_drew ?_ | refine blk_alloc ?_ _)); refine blk_far ?_ NB849_856.out _; (with_reducible repeat (first | refine blk_drewN ?_ _ | refine blk_drew ?_ | refine blk_alloc ?_ _)); refine blk_far ?_ NB849_856.out _; (with_reducible repeat (first | refine blk_drewN ?_ _ | refine blk_drew ?_ | refine blk_alloc ?_ _)); exact BK849.out⟩
                          have n3_ : Aside0 (((w27.setCell ⟨gb856, 0, none⟩ (.int .i64 ((rd_TA2int t852 x22_1).f0))).setCell ⟨gb856, 1, none⟩ (.int .i64 ((rd_TA2int t852 x22_1).f1))).heap[gb851]? = some (.cells #[.int .i64 x852000_1, .int .i64 x852001_1] 75 (0, 0))) := ⟨by (with_reducible repeat (first | refine blk_drewN ?_ _ | refine blk_drew ?_ | refine blk_alloc ?_ _)); refine blk_far ?_ NB851_856.out _; (with_reducible repeat (first | refine blk_drewN ?_ _ | refine blk_drew ?_ | refine blk_alloc ?_ _)); refine blk_far ?_ NB851_856.out _; (with_reducible repeat (first | refine blk_drewN ?_ _ | refine blk_drew ?_ | refine blk_alloc ?_ _)); exact BK851.out⟩
                          have n4_ : Aside0 (((w27.setCell ⟨gb856, 0, none⟩ (.int .i64 ((rd_TA2int t852 x22_1).f0))).setCell ⟨gb856, 1, none⟩ (.int .i64 ((rd_TA2int t852 x22_1).f1))).heap[gb856]? = some (.cells #[.int .i64 ((rd_TA2int t852 x22_1).f0), .int .i64 ((rd_TA2int t852 x22_1).f1)] 75 (0, 0))) := ⟨by (with_reducible repeat (first | refine blk_drewN ?_ _ | refine blk_drew ?_ | refine blk_alloc ?_ _)); refine blk_put (cs := #[.int .i64 ((rd_TA2int t852 x22_1).f0), .int .i64 0]) ?_ 1 _ rfl; (with_reducible repeat (first | refine blk_drewN ?_ _ | refine blk_drew ?_ | refine blk_alloc ?_ _)); refine blk_put (cs := #[.int .i64 0, .int .i64 0]) ?_ 0 _ rfl; (with_reducible repeat (first | refine blk_drewN ?_ _ | refine blk_drew ?_ | refine blk_alloc ?_ _)); exact BK856.out⟩
                          have n5_ : Aside0 (Below w.heap.size w ((w27.setCell ⟨gb856, 0, none⟩ (.int .i64 ((rd_TA2int t852 x22_1).f0))).setCell ⟨gb856, 1, none⟩ (.int .i64 ((rd_TA2int t852 x22_1).f1)))) := ⟨by repeat (first | (with_reducible first | exact HB.out | apply below_alloc | apply pw_below_drewN | apply below_drew1 | refine below_set ?_ GE848.out | refine below_set ?_ GE849.out | refine below_set ?_ GE851.out | refine below_set ?_ GE856.out) | exact HB.out)⟩
                          (try clear HO_20)
                          (try clear BK848)
                          (try clear BK849)
                          (try clear BK851)
                          (try clear BK856)
                          (try clear HB)
                          generalize ((w27.setCell ⟨gb856, 0, none⟩ (.int .i64 ((rd_TA2int t852 x22_1).f0))).setCell ⟨gb856, 1, none⟩ (.int .i64 ((rd_TA2int t852 x22_1).f1))) = w32 at n0_ n1_ n2_ n3_ n4_ n5_ ⊢
                          have HO_20 := n0_
                          have BK848 := n1_
                          have BK849 := n2_
                          have BK851 := n3_
                          have BK856 := n4_
                          have HB := n5_
                          clear n0_ n1_ n2_ n3_ n4_ n5_
                          have n0_ := Aside0.mk (Kd.R_drew HO_20.out)
                          have n1_ := Aside0.mk (blk_drew BK848.out)
                          have n2_ := Aside0.mk (blk_drew BK849.out)
                          have n3_ := Aside0.mk (blk_drew BK851.out)
                          have n4_ := Aside0.mk (blk_drew BK856.out)
                          have n5_ := Aside0.mk (below_drew1 HB.out)
                          clear HO_20
                          clear BK848
                          clear BK849
                          clear BK851
                          clear BK856
                          clear HB
                          have HO_20 := n0_
                          have BK848 := n1_
                          have BK849 := n2_
                          have BK851 := n3_
                          have BK856 := n4_
                          have HB := n5_
                          clear n0_ n1_ n2_ n3_ n4_ n5_
                          have p857 : 0 ≤ (((rd_TA2int t852 x22_1).f0) : Int) := of_decide_eq_true (by first | (with_reducible assumption) | assumption)
                          have q857 : ((rd_TA2int t852 x22_1).f0) < (l1.length : Int) := of_decide_eq_true (by first | (with_reducible assumption) | assumption)
                          obtain ⟨ad857, e857, hx857_0, hx857_1, hx857_2, hx857_3, hx857_4, hx857_5, hx857_6⟩ := at_TimplLoan HR1.out ((rd_TA2int t852 x22_1).f0) p857 q857
                          have hw857_6 := hx857_6
                          have hw857_5 := hx857_5
                          have hw857_4 := hx857_4
                          have hw857_3 := hx857_3
                          have hw857_2 := hx857_2
                          have hw857_1 := hx857_1
                          have hw857_0 := hx857_0
                          cases e857
                          replace hx857_0 := (HB.out.cell (World.block_lt_of_cell? w _ hx857_0)).trans hx857_0
                          replace hx857_1 := (HB.out.cell (World.block_lt_of_cell? w _ hx857_1)).trans hx857_1
                          replace hx857_2 := (HB.out.cell (World.block_lt_of_cell? w _ hx857_2)).trans hx857_2
                          replace hx857_3 := (HB.out.cell (World.block_lt_of_cell? w _ hx857_3)).trans hx857_3
                          replace hx857_4 := (HB.out.cell (World.block_lt_of_cell? w _ hx857_4)).trans hx857_4
                          replace hx857_5 := (HB.out.cell (World.block_lt_of_cell? w _ hx857_5)).trans hx857_5
                          replace hx857_6 := (HB.out.cell (World.block_lt_of_cell? w _ hx857_6)).trans hx857_6
                          replace p857 := eq_true p857
                          replace q857 := eq_true q857
                          have p858 : 0 ≤ (((rd_TA2int t852 x22_1).f1) : Int) := of_decide_eq_true (by first | (with_reducible assumption) | assumption)
                          have q858 : ((rd_TA2int t852 x22_1).f1) < (l1.length : Int) := of_decide_eq_true (by first | (with_reducible assumption) | assumption)
                          obtain ⟨ad858, e858, hx858_0, hx858_1, hx858_2, hx858_3, hx858_4, hx858_5, hx858_6⟩ := at_TimplLoan HR1.out ((rd_TA2int t852 x22_1).f1) p858 q858
                          have hw858_6 := hx858_6
                          have hw858_5 := hx858_5
                          have hw858_4 := hx858_4
                          have hw858_3 := hx858_3
                          have hw858_2 := hx858_2
                          have hw858_1 := hx858_1
                          have hw858_0 := hx858_0
                          obtain rfl : ad857 = ad858 := (by injection e858)
                          replace hx858_0 := (HB.out.cell (World.block_lt_of_cell? w _ hx858_0)).trans hx858_0
                          replace hx858_1 := (HB.out.cell (World.block_lt_of_cell? w _ hx858_1)).trans hx858_1
                          replace hx858_2 := (HB.out.cell (World.block_lt_of_cell? w _ hx858_2)).trans hx858_2
                          replace hx858_3 := (HB.out.cell (World.block_lt_of_cell? w _ hx858_3)).trans hx858_3
                          replace hx858_4 := (HB.out.cell (World.block_lt_of_cell? w _ hx858_4)).trans hx858_4
                          replace hx858_5 := (HB.out.cell (World.block_lt_of_cell? w _ hx858_5)).trans hx858_5
                          replace hx858_6 := (HB.out.cell (World.block_lt_of_cell? w _ hx858_6)).trans hx858_6
                          replace p858 := eq_true p858
                          replace q858 := eq_true q858
                          refine start_ (n := 14) (S := fun w' => w'.cell? ⟨gb856, 0, none⟩ = some (.int .i64 ((rd_TA2int t852 x22_1).f0)) ∧ w'.cell? ⟨gb856, 1, none⟩ = some (.int .i64 ((rd_TA2int t852 x22_1).f1)) ∧ w'.cell? (ad857.add ((((rd_TA2int t852 x22_1).f0)).toNat * 7)) = some (.int .i64 ((rd_TimplLoan l1 ((rd_TA2int t852 x22_1).f0)).f0.f0)) ∧ w'.cell? ⟨(ad857.add ((((rd_TA2int t852 x22_1).f0)).toNat * 7)).block, (ad857.add ((((rd_TA2int t852 x22_1).f0)).toNat * 7)).off + 1, none⟩ = some (.int .i64 ((rd_TimplLoan l1 ((rd_TA2int t852 x22_1).f0)).f0.f1)) ∧ w'.cell? ⟨(ad857.add ((((rd_TA2int t852 x22_1).f0)).toNat * 7)).block, (ad857.add ((((rd_TA2int t852 x22_1).f0)).toNat * 7)).off + 2, none⟩ = some (.int .i64 ((rd_TimplLoan l1 ((rd_TA2int t852 x22_1).f0)).f0.f2)) ∧ w'.cell? ⟨(ad857.add ((((rd_TA2int t852 x22_1).f0)).toNat * 7)).block, (ad857.add ((((rd_TA2int t852 x22_1).f0)).toNat * 7)).off + 3, none⟩ = some (.int .i64 ((rd_TimplLoan l1 ((rd_TA2int t852 x22_1).f0)).f0.f3)) ∧ w'.cell? ⟨(ad857.add ((((rd_TA2int t852 x22_1).f0)).toNat * 7)).block, (ad857.add ((((rd_TA2int t852 x22_1).f0)).toNat * 7)).off + 4, none⟩ = some (.bool ((rd_TimplLoan l1 ((rd_TA2int t852 x22_1).f0)).f1)) ∧ w'.cell? ⟨(ad857.add ((((rd_TA2int t852 x22_1).f0)).toNat * 7)).block, (ad857.add ((((rd_TA2int t852 x22_1).f0)).toNat * 7)).off + 5, none⟩ = some (.int .i64 ((rd_TimplLoan l1 ((rd_TA2int t852 x22_1).f0)).f2)) ∧ w'.cell? ⟨(ad857.add ((((rd_TA2int t852 x22_1).f0)).toNat * 7)).block, (ad857.add ((((rd_TA2int t852 x22_1).f0)).toNat * 7)).off + 6, none⟩ = some (.int .i64 ((rd_TimplLoan l1 ((rd_TA2int t852 x22_1).f0)).f3)) ∧ w'.cell? (ad857.add ((((rd_TA2int t852 x22_1).f1)).toNat * 7)) = some (.int .i64 ((rd_TimplLoan l1 ((rd_TA2int t852 x22_1).f1)).f0.f0)) ∧ w'.cell? ⟨(ad857.add ((((rd_TA2int t852 x22_1).f1)).toNat * 7)).block, (ad857.add ((((rd_TA2int t852 x22_1).f1)).toNat * 7)).off + 1, none⟩ = some (.int .i64 ((rd_TimplLoan l1 ((rd_TA2int t852 x22_1).f1)).f0.f1)) ∧ w'.cell? ⟨(ad857.add ((((rd_TA2int t852 x22_1).f1)).toNat * 7)).block, (ad857.add ((((rd_TA2int t852 x22_1).f1)).toNat * 7)).off + 2, none⟩ = some (.int .i64 ((rd_TimplLoan l1 ((rd_TA2int t852 x22_1).f1)).f0.f2)) ∧ w'.cell? ⟨(ad857.add ((((rd_TA2int t852 x22_1).f1)).toNat * 7)).block, (ad857.add ((((rd_TA2int t852 x22_1).f1)).toNat * 7)).off + 3, none⟩ = some (.int .i64 ((rd_TimplLoan l1 ((rd_TA2int t852 x22_1).f1)).f0.f3)) ∧ w'.cell? ⟨(ad857.add ((((rd_TA2int t852 x22_1).f1)).toNat * 7)).block, (ad857.add ((((rd_TA2int t852 x22_1).f1)).toNat * 7)).off + 4, none⟩ = some (.bool ((rd_TimplLoan l1 ((rd_TA2int t852 x22_1).f1)).f1)) ∧ w'.cell? ⟨(ad857.add ((((rd_TA2int t852 x22_1).f1)).toNat * 7)).block, (ad857.add ((((rd_TA2int t852 x22_1).f1)).toNat * 7)).off + 5, none⟩ = some (.int .i64 ((rd_TimplLoan l1 ((rd_TA2int t852 x22_1).f1)).f2)) ∧ w'.cell? ⟨(ad857.add ((((rd_TA2int t852 x22_1).f1)).toNat * 7)).block, (ad857.add ((((rd_TA2int t852 x22_1).f1)).toNat * 7)).off + 6, none⟩ = some (.int .i64 ((rd_TimplLoan l1 ((rd_TA2int t852 x22_1).f1)).f3))) (ds := []) #[false, false, false, false, false, false, false, false, false, false, false, false, false, false] (by kernel_rfl) rfl rfl ⟨(blk_cell BK856.out 0).trans rfl, (blk_cell BK856.out 1).trans rfl, (by have h_ := ((HB.out.cell (World.block_lt_of_cell? w _ hw857_0)).trans hw857_0); first | exact h_ | (simp only [*] at h_; exact h_) | simpa [*] using h_), (by have h_ := ((HB.out.cell (World.block_lt_of_cell? w _ hw857_1)).trans hw857_1); first | exact h_ | (simp only [*] at h_; exact h_) | simpa [*] using h_), (by have h_ := ((HB.out.cell (World.block_lt_of_cell? w _ hw857_2)).trans hw857_2); first | exact h_ | (simp only [*] at h_; exact h_) | simpa [*] using h_), (by have h_ := ((HB.out.cell (World.block_lt_of_cell? w _ hw857_3)).trans hw857_3); first | exact h_ | (simp only [*] at h_; exact h_) | simpa [*] using h_), (by have h_ := ((HB.out.cell (World.block_lt_of_cell? w _ hw857_4)).trans hw857_4); first | exact h_ | (simp only [*] at h_; exact h_) | simpa [*] using h_), (by have h_ := ((HB.out.cell (World.block_lt_of_cell? w _ hw857_5)).trans hw857_5); first | exact h_ | (simp only [*] at h_; exact h_) | simpa [*] using h_), (by have h_ := ((HB.out.cell (World.block_lt_of_cell? w _ hw857_6)).trans hw857_6); first | exact h_ | (simp only [*] at h_; exact h_) | simpa [*] using h_), (by have h_ := ((HB.out.cell (World.block_lt_of_cell? w _ hw858_0)).trans hw858_0); first | exact h_ | (simp only [*] at h_; exact h_) | simpa [*] using h_), (by have h_ := ((HB.out.cell (World.block_lt_of_cell? w _ hw858_1)).trans hw858_1); first | exact h_ | (simp only [*] at h_; exact h_) | simpa [*] using h_), (by have h_ := ((HB.out.cell (World.block_lt_of_cell? w _ hw858_2)).trans hw858_2); first | exact h_ | (simp only [*] at h_; exact h_) | simpa [*] using h_), (by have h_ := ((HB.out.cell (World.block_lt_of_cell? w _ hw858_3)).trans hw858_3); first | exact h_ | (simp only [*] at h_; exact h_) | simpa [*] using h_), (by have h_ := ((HB.out.cell (World.block_lt_of_cell? w _ hw858_4)).trans hw858_4); first | exact h_ | (simp only [*] at h_; exact h_) | simpa [*] using h_), (by have h_ := ((HB.out.cell (World.block_lt_of_cell? w _ hw858_5)).trans hw858_5); first | exact h_ | (simp only [*] at h_; exact h_) | simpa [*] using h_), (by have h_ := ((HB.out.cell (World.block_lt_of_cell? w _ hw858_6)).trans hw858_6); first | exact h_ | (simp only [*] at h_; exact h_) | simpa [*] using h_)⟩ (fun hHeld => ?_); refine with_tabW impl_FirstClash.tab7 impl_FirstClash.bits7 (fun HT_ HW_ => ?_)
                          generalize w32.drew = w33 at HO_20 BK848 BK849 BK851 BK856 HB hx857_0 hx857_1 hx857_2 hx857_3 hx857_4 hx857_5 hx857_6 hx858_0 hx858_1 hx858_2 hx858_3 hx858_4 hx858_5 hx858_6 hHeld ⊢
                          refine pure_ (i := 0) (N := some 26) (v := ?_) (a' := ?_) #[true, false, false, false, false, false, false, false, false, false, false, false, false, false] rfl rfl (any_of HT_.out (by kernel_rfl)) (fun _ _ _ h => h) (Or.inl ⟨by rfl, ?_⟩) ?_ ?_
                          rotate_left
                          · intro w'
                            go_simp
                            with_reducible rfl
                          rotate_left
                          · simp only [Act.put, List.setIfInBounds_toArray, List.set_cons_zero, List.set_cons_succ, i64_w, i32_w]
                            rfl
                          refine pure_ (i := 1) (N := some 27) (v := ?_) (a' := ?_) #[true, true, false, false, false, false, false, false, false, false, false, false, false, false] rfl rfl (any_of HT_.out (by kernel_rfl)) (fun _ _ _ h => h) (Or.inl ⟨by rfl, ?_⟩) ?_ ?_
                          rotate_left
                          · intro w'
                            go_simp
                            with_reducible rfl
                          rotate_left
                          · simp only [Act.put, List.setIfInBounds_toArray, List.set_cons_zero, List.set_cons_succ, i64_w, i32_w]
                            rfl
                          refine pure_ (i := 6) (N := some 32) (v := ?_) (a' := ?_) #[true, true, false, false, false, false, true, false, false, false, false, false, false, false] rfl rfl (any_of HT_.out (by kernel_rfl)) (fun _ _ _ h => h) (Or.inl ⟨by rfl, ?_⟩) ?_ ?_
                          rotate_left
                          · intro w'
                            go_simp
                            with_reducible rfl
                          rotate_left
                          · simp only [Act.put, List.setIfInBounds_toArray, List.set_cons_zero, List.set_cons_succ, i64_w, i32_w]
                            rfl
                          refine pure_ (i := 7) (N := some 33) (v := ?_) (a' := ?_) #[true, true, false, false, false, false, true, true, false, false, false, false, false, false] rfl rfl (any_of HT_.out (by kernel_rfl)) (fun _ _ _ h => h) (Or.inl ⟨by rfl, ?_⟩) ?_ ?_
                          rotate_left
                          · intro w'
                            go_simp
                            with_reducible rfl
                          rotate_left
                          · simp only [Act.put, List.setIfInBounds_toArray, List.set_cons_zero, List.set_cons_succ, i64_w, i32_w]
                            rfl
                          refine take_ (i := 2) (N := some 28) (v := ?_) (a' := ?_) #[true, true, true, false, false, false, true, true, false, false, false, false, false, false] rfl rfl (take_ofW HT_.out HW_.out (by kernel_rfl)) (fun _ _ _ h => h) (Or.inl ⟨by rfl, ?_⟩) hHeld ?_ ?_
                          rotate_left
                          · rintro w' ⟨s0, s1, s2, s3, s4, s5, s6, s7, s8, s9, s10, s11, s12, s13, s14, s15⟩
                            go_simp
                            with_reducible rfl
                          rotate_left
                          · simp only [Act.put, List.setIfInBounds_toArray, List.set_cons_zero, List.set_cons_succ, i64_w, i32_w]
                            rfl
                          refine pure_ (i := 3) (N := some 29) (v := ?_) (a' := ?_) #[true, true, true, true, false, false, true, true, false, false, false, false, false, false] rfl rfl (any_of HT_.out (by kernel_rfl)) (fun _ _ _ h => h) (Or.inl ⟨by rfl, ?_⟩) ?_ ?_
                          rotate_left
                          · intro w'
                            go_simp
                            with_reducible rfl
                          rotate_left
                          · simp only [Act.put, List.setIfInBounds_toArray, List.set_cons_zero, List.set_cons_succ, i64_w, i32_w]
                            rfl
                          refine pure_ (i := 4) (N := some 30) (v := ?_) (a' := ?_) #[true, true, true, true, true, false, true, true, false, false, false, false, false, false] rfl rfl (any_of HT_.out (by kernel_rfl)) (fun _ _ _ h => h) (Or.inl ⟨by rfl, ?_⟩) ?_ ?_
                          rotate_left
                          · intro w'
                            go_simp
                            with_reducible rfl
                          rotate_left
                          · simp only [Act.put, List.setIfInBounds_toArray, List.set_cons_zero, List.set_cons_succ, i64_w, i32_w]
                            rfl
                          refine take_ (i := 5) (N := some 31) (v := ?_) (a' := ?_) #[true, true, true, true, true, true, true, true, false, false, false, false, false, false] rfl rfl (take_ofW HT_.out HW_.out (by kernel_rfl)) (fun _ _ _ h => h) (Or.inl ⟨by rfl, ?_⟩) hHeld ?_ ?_
                          rotate_left
                          · rintro w' ⟨s0, s1, s2, s3, s4, s5, s6, s7, s8, s9, s10, s11, s12, s13, s14, s15⟩
                            go_simp
                            with_reducible rfl
                          rotate_left
                          · simp only [Act.put, List.setIfInBounds_toArray, List.set_cons_zero, List.set_cons_succ, i64_w, i32_w]
                            rfl
                          refine take_ (i := 8) (N := some 34) (v := ?_) (a' := ?_) #[true, true, true, true, true, true, true, true, true, false, false, false, false, false] rfl rfl (take_ofW HT_.out HW_.out (by kernel_rfl)) (fun _ _ _ h => h) (Or.inl ⟨by rfl, ?_⟩) hHeld ?_ ?_
                          rotate_left
                          · rintro w' ⟨s0, s1, s2, s3, s4, s5, s6, s7, s8, s9, s10, s11, s12, s13, s14, s15⟩
                            go_simp
                            with_reducible rfl
                          rotate_left
                          · simp only [Act.put, List.setIfInBounds_toArray, List.set_cons_zero, List.set_cons_succ, i64_w, i32_w]
                            rfl
                          refine pure_ (i := 9) (N := some 35) (v := ?_) (a' := ?_) #[true, true, true, true, true, true, true, true, true, true, false, false, false, false] rfl rfl (any_of HT_.out (by kernel_rfl)) (fun _ _ _ h => h) (Or.inl ⟨by rfl, ?_⟩) ?_ ?_
                          rotate_left
                          · intro w'
                            go_simp
                            with_reducible rfl
                          rotate_left
                          · simp only [Act.put, List.setIfInBounds_toArray, List.set_cons_zero, List.set_cons_succ, i64_w, i32_w]
                            rfl
                          refine pure_ (i := 10) (N := some 36) (v := ?_) (a' := ?_) #[true, true, true, true, true, true, true, true, true, true, true, false, false, false] rfl rfl (any_of HT_.out (by kernel_rfl)) (fun _ _ _ h => h) (Or.inl ⟨by rfl, ?_⟩) ?_ ?_
                          rotate_left
                          · intro w'
                            go_simp
                            with_reducible rfl
                          rotate_left
                          · simp only [Act.put, List.setIfInBounds_toArray, List.set_cons_zero, List.set_cons_succ, i64_w, i32_w]
                            rfl
                          refine take_ (i := 11) (N := some 37) (v := ?_) (a' := ?_) #[true, true, true, true, true, true, true, true, true, true, true, true, false, false] rfl rfl (take_ofW HT_.out HW_.out (by kernel_rfl)) (fun _ _ _ h => h) (Or.inl ⟨by rfl, ?_⟩) hHeld ?_ ?_
                          rotate_left
                          · rintro w' ⟨s0, s1, s2, s3, s4, s5, s6, s7, s8, s9, s10, s11, s12, s13, s14, s15⟩
                            go_simp
                            with_reducible rfl
                          rotate_left
                          · simp only [Act.put, List.setIfInBounds_toArray, List.set_cons_zero, List.set_cons_succ, i64_w, i32_w]
                            rfl
                          refine pure_ (i := 12) (N := some 38) (v := ?_) (a' := ?_) #[true, true, true, true, true, true, true, true, true, true, true, true, true, false] rfl rfl (any_of HT_.out (by kernel_rfl)) (fun _ _ _ h => h) (Or.inl ⟨by rfl, ?_⟩) ?_ ?_
                          rotate_left
                          · intro w'
                            go_simp
                            with_reducible rfl
                          rotate_left
                          · simp only [Act.put, List.setIfInBounds_toArray, List.set_cons_zero, List.set_cons_succ, i64_w, i32_w]
                            rfl
                          refine pure_ (i := 13) (N := some 12) (v := ?_) (a' := ?_) #[true, true, true, true, true, true, true, true, true, true, true, true, true, true] rfl rfl (any_of HT_.out (by kernel_rfl)) (fun _ _ _ h => h) (Or.inl ⟨by rfl, ?_⟩) ?_ ?_
                          rotate_left
                          · intro w'
                            go_simp
                            with_reducible rfl
                          rotate_left
                          · simp only [Act.put, List.setIfInBounds_toArray, List.set_cons_zero, List.set_cons_succ, i64_w, i32_w]
                            rfl
                          refine done_ (done_of HT_.out (by kernel_rfl)) ?_
                          try go_wp2
                          have n0_ := Aside0.mk (Kd.R_drew HO_20.out)
                          have n1_ := Aside0.mk (blk_drew BK848.out)
                          have n2_ := Aside0.mk (blk_drew BK849.out)
                          have n3_ := Aside0.mk (blk_drew BK851.out)
                          have n4_ := Aside0.mk (blk_drew BK856.out)
                          have n5_ := Aside0.mk (below_drew1 HB.out)
                          clear HO_20
                          clear BK848
                          clear BK849
                          clear BK851
                          clear BK856
                          clear HB
                          have HO_20 := n0_
                          have BK848 := n1_
                          have BK849 := n2_
                          have BK851 := n3_
                          have BK856 := n4_
                          have HB := n5_
                          clear n0_ n1_ n2_ n3_ n4_ n5_
                          refine start_ (n := 5) (S := fun w' => w'.cell? ⟨gb856, 0, none⟩ = some (.int .i64 ((rd_TA2int t852 x22_1).f0)) ∧ w'.cell? ⟨gb856, 1, none⟩ = some (.int .i64 ((rd_TA2int t852 x22_1).f1))) (ds := []) #[false, false, false, false, false] (by kernel_rfl) rfl rfl ⟨(blk_cell BK856.out 0).trans rfl, (blk_cell BK856.out 1).trans rfl⟩ (fun hHeld => ?_)
                          generalize w33.drew = w34 at HO_20 BK848 BK849 BK851 BK856 HB hHeld ⊢
                          refine pure_ (i := 0) (N := some 46) (v := ?_) (a' := ?_) #[true, false, false, false, false] rfl rfl (by kernel_rfl) (fun _ _ _ h => h) (Or.inl ⟨by rfl, ?_⟩) ?_ ?_
                          rotate_left
                          · intro w'
                            go_simp
                            with_reducible rfl
                          rotate_left
                          · simp only [Act.put, List.setIfInBounds_toArray, List.set_cons_zero, List.set_cons_succ, i64_w, i32_w]
                            rfl
                          refine pure_ (i := 2) (N := some 7) (v := ?_) (a' := ?_) #[true, false, true, false, false] rfl rfl (by kernel_rfl) (fun _ _ _ h => h) (Or.inl ⟨by rfl, ?_⟩) ?_ ?_
                          rotate_left
                          · intro w'
                            go_simp
                            with_reducible rfl
                          rotate_left
                          · simp only [Act.put, List.setIfInBounds_toArray, List.set_cons_zero, List.set_cons_succ, i64_w, i32_w]
                            rfl
                          refine take_ (i := 1) (N := some 47) (v := ?_) (a' := ?_) #[true, true, true, false, false] rfl rfl (by kernel_rfl) (fun _ _ _ h => h) (Or.inl ⟨by rfl, ?_⟩) hHeld ?_ ?_
                          rotate_left
                          · rintro w' ⟨s0, s1⟩
                            go_simp
                            with_reducible rfl
                          rotate_left
                          · simp only [Act.put, List.setIfInBounds_toArray, List.set_cons_zero, List.set_cons_succ, i64_w, i32_w]
                            rfl
                          refine one_ (i := 3) (N := none) #[true, true, true, true, false] rfl rfl (by kernel_rfl) (by decide) (fun K hK => ?_)
                          have hs35 : w34.cell? ⟨gb851, 0, none⟩ = some (.int .i64 x852000_1) := (blk_cell BK851.out 0).trans rfl
                          have hfs35 := blk_frozen BK851.out 0
                          have hns35_0 := NB848_851.out
                          have hns35_1 := NB849_851.out
                          have hns35_3 := NB856_851.out
                          have hms35_0 := NB851_848.out
                          have hms35_1 := NB851_849.out
                          have hms35_3 := NB851_856.out
                          have hs36 : w34.cell? ⟨gb851, 1, none⟩ = some (.int .i64 x852001_1) := (blk_cell BK851.out 1).trans rfl
                          have hfs36 := blk_frozen BK851.out 1
                          have hns36_0 := NB848_851.out
                          have hns36_1 := NB849_851.out
                          have hns36_3 := NB856_851.out
                          have hms36_0 := NB851_848.out
                          have hms36_1 := NB851_849.out
                          have hms36_3 := NB851_856.out
                          refine skip_ (w1 := ?_) (by rfl) rfl ?_ ?_
                          rotate_left
                          · go_simp
                            rfl
                          refine hK.out _ _ ⟨((cell_far (p := ⟨gb851, _, none⟩) NB856_851.out _).trans (((cell_far (p := ⟨gb851, _, none⟩) NB856_851.out _).trans (hHeld.1)))), ((cell_far (p := ⟨gb851, _, none⟩) NB856_851.out _).trans (((cell_far (p := ⟨gb851, _, none⟩) NB856_851.out _).trans (hHeld.2))))⟩ (fun hHeld => ?_)
                          clear hK K
                          refine pure_ (i := 4) (N := some 9) (v := ?_) (a' := ?_) #[true, true, true, true, true] rfl rfl (by kernel_rfl) (fun _ _ _ h => h) (Or.inl ⟨by rfl, ?_⟩) ?_ ?_
                          rotate_left
                          · intro w'
                            go_simp
                            with_reducible rfl
                          rotate_left
                          · simp only [Act.put, List.setIfInBounds_toArray, List.set_cons_zero, List.set_cons_succ, i64_w, i32_w]
                            rfl
                          refine done_ (by kernel_rfl) ?_
                          try go_wp2
                          go_roundg k1
                          case measure => have := HK1.out; omega
                          case rel => exact ⟨(ji24), (true), (wrap64 (x22_1 + 1)), ((rd_TA2int t852 x22_1).f0), ((rd_TA2int t852 x22_1).f1), (by first | rfl | (simp; done) | (simp only [← hji24] <;> (first | rfl | simp)) | (simp [*]; done)), (by first | rfl | (simp; done) | (simp [*]; done)), (by first | rfl | (simp; done) | (simp [*]; done)), H', ⟨by have := HK1.out; omega⟩, ⟨by (with_reducible repeat (first | apply Kd.R_alloc | apply Kd.R_drewN | apply Kd.R_drew)); exact Kd.R_mono (Kd.R_far (p := ⟨gb851, 1, none⟩) (Kd.R_far (p := ⟨gb851, 0, none⟩) (Kd.R_mono HO_20.out (fun k_ hk => (⟨hk, hk.2.1⟩ : _ ∧ k_ ≠ gb851))) (fun _ hk => hk.2) (.int .i64 ((rd_TA2int t852 x22_1).f0))) (fun _ hk => hk.2) (.int .i64 ((rd_TA2int t852 x22_1).f1))) (fun _ hk => ⟨hk.1.1, hk.1.2.1⟩)⟩, ⟨by (with_reducible repeat (first | refine blk_drewN ?_ _ | refine blk_drew ?_ | refine blk_alloc ?_ _)); refine blk_far ?_ NB848_851.out _; (with_reducible repeat (first | refine blk_drewN ?_ _ | refine blk_drew ?_ | refine blk_alloc ?_ _)); refine blk_far ?_ NB848_851.out _; (with_reducible repeat (first | refine blk_drewN ?_ _ | refine blk_drew ?_ | refine blk_alloc ?_ _)); exact BK848.out⟩, ⟨by (with_reducible repeat (first | refine blk_drewN ?_ _ | refine blk_drew ?_ | refine blk_alloc ?_ _)); refine blk_far ?_ NB849_851.out _; (with_reducible repeat (first | refine blk_drewN ?_ _ | refine blk_drew ?_ | refine blk_alloc ?_ _)); refine blk_far ?_ NB849_851.out _; (with_reducible repeat (first | refine blk_drewN ?_ _ | refine blk_drew ?_ | refine blk_alloc ?_ _)); exact BK849.out⟩, ⟨by (with_reducible repeat (first | refine blk_drewN ?_ _ | refine blk_drew ?_ | refine blk_alloc ?_ _)); refine blk_put (cs := #[.int .i64 ((rd_TA2int t852 x22_1).f0), .int .i64 x852001_1]) ?_ 1 _ rfl; (with_reducible repeat (first | refine blk_drewN ?_ _ | refine blk_drew ?_ | refine blk_alloc ?_ _)); refine blk_put (cs := #[.int .i64 x852000_1, .int .i64 x852001_1]) ?_ 0 _ rfl; (with_reducible repeat (first | refine blk_drewN ?_ _ | refine blk_drew ?_ | refine blk_alloc ?_ _)); exact BK851.out⟩, ⟨by repeat (first | (with_reducible first | exact HB.out | apply below_alloc | apply pw_below_drewN | apply below_drew1 | refine below_set ?_ GE848.out | refine below_set ?_ GE849.out | refine below_set ?_ GE851.out | refine below_set ?_ GE856.out) | exact HB.out)⟩⟩
                        · rw [if_neg c26] at H
                          have c26b0 : decide ((ji24) < x7_1) = false := decide_eq_false c26
                          clear c26
                          have H' := Aside0.mk H
                          clear H
                          have p855 : 0 ≤ (x22_1 : Int) := of_decide_eq_true (by first | (with_reducible assumption) | assumption)
                          have q855 : x22_1 < (t852.length : Int) := of_decide_eq_true (by first | (with_reducible assumption) | assumption)
                          obtain ⟨ad855, e855, hx855_0, hx855_1⟩ := at_TA2int (Kd.R_reads' HO_20.out).2.2 x22_1 p855 q855
                          cases e855
                          replace p855 := eq_true p855
                          replace q855 := eq_true q855
                          try go_wp2_with (first | ((with_reducible refine gate_dst (N := 11) rfl ?_); refine box_event ?hg (N := 11) ?hd (cs := #[.int .i64 0, .int .i64 0]) (t := 75) ?hr ?_; (case hd => rfl); (case hg => rfl); (case hr => first | (go_simp; done) | (go_simp; rfl)); intro gb856 hg w37 hbox hb; have n0_ := Aside0.mk (Kd.R_below (Kd.R_elderB (by (with_reducible repeat (first | apply Kd.R_alloc | apply Kd.R_drewN | apply Kd.R_drew)); exact HO_20.out) gb856 (Nat.le_of_eq hg.symm)) hb); have n1_ := Aside0.mk (blk_below (g := gb848) (o := .cells #[.slice A0_0 l0_0.length c0_0] 26 (0, 0)) (by (with_reducible repeat (first | refine blk_drewN ?_ _ | refine blk_drew ?_ | refine blk_alloc ?_ _)); exact BK848.out) hb); have n2_ := Aside0.mk (blk_below (g := gb849) (o := .cells #[.int .i64 0, .int .i64 0] 75 (0, 0)) (by (with_reducible repeat (first | refine blk_drewN ?_ _ | refine blk_drew ?_ | refine blk_alloc ?_ _)); exact BK849.out) hb); have n3_ := Aside0.mk (blk_below (g := gb851) (o := .cells #[.int .i64 x852000_1, .int .i64 x852001_1] 75 (0, 0)) (by (with_reducible repeat (first | refine blk_drewN ?_ _ | refine blk_drew ?_ | refine blk_alloc ?_ _)); exact BK851.out) hb); have n4_ := Aside0.mk (below_step (by repeat (first | (with_reducible first | exact HB.out | apply below_alloc | apply pw_below_drewN | apply below_drew1 | refine below_set ?_ GE848.out | refine below_set ?_ GE849.out | refine below_set ?_ GE851.out) | exact HB.out)) hb); have n5_ := Aside0.mk (hbox); have n6_ := Aside0.mk ((by rw [hg]; exact (below_size (by repeat (first | (with_reducible first | exact HB.out | apply below_alloc | apply pw_below_drewN | apply below_drew1 | refine below_set ?_ GE848.out | refine below_set ?_ GE849.out | refine below_set ?_ GE851.out) | exact HB.out))) : w.heap.size ≤ gb856)); have n7_ := Aside0.mk ((by rw [hg]; exact (below_size (by repeat (first | (with_reducible first | exact HB.out | apply below_alloc | apply pw_below_drewN | apply below_drew1 | refine below_set ?_ GE848.out | refine below_set ?_ GE849.out | refine below_set ?_ GE851.out) | exact HB.out))) : w.heap.size ≤ gb856)); have n8_ := Aside0.mk ((by rw [hg]; exact Nat.ne_of_lt (blk_lt (g := gb848) (o := .cells #[.slice A0_0 l0_0.length c0_0] 26 (0, 0)) (by (with_reducible repeat (first | refine blk_drewN ?_ _ | refine blk_drew ?_ | refine blk_alloc ?_ _)); exact BK848.out)) : gb848 ≠ gb856)); have n9_ := Aside0.mk ((by rw [hg]; exact Nat.ne_of_gt (blk_lt (g := gb848) (o := .cells #[.slice A0_0 l0_0.length c0_0] 26 (0, 0)) (by (with_reducible repeat (first | refine blk_drewN ?_ _ | refine blk_drew ?_ | refine blk_alloc ?_ _)); exact BK848.out)) : gb856 ≠ gb848)); have n10_ := Aside0.mk ((by rw [hg]; exact Nat.ne_of_lt (blk_lt (g := gb849) (o := .cells #[.int .i64 0, .int .i64 0] 75 (0, 0)) (by (with_reducible repeat (first | refine blk_drewN ?_ _ | refine blk_drew ?_ | refine blk_alloc ?_ _)); exact BK849.out)) : gb849 ≠ gb856)); have n11_ := Aside0.mk ((by rw [hg]; exact Nat.ne_of_gt (blk_lt (g := gb849) (o := .cells #[.int .i64 0, .int .i64 0] 75 (0, 0)) (by (with_reducible repeat (first | refine blk_drewN ?_ _ | refine blk_drew ?_ | refine blk_alloc ?_ _)); exact BK849.out)) : gb856 ≠ gb849)); have n12_ := Aside0.mk ((by rw [hg]; exact Nat.ne_of_lt (blk_lt (g := gb851) (o := .cells #[.int .i64 x852000_1, .int .i64 x852001_1] 75 (0, 0)) (by (with_reducible repeat (first | refine blk_drewN ?_ _ | refine blk_drew ?_ | refine blk_alloc ?_ _)); exact BK851.out)) : gb851 ≠ gb856)); have n13_ := Aside0.mk ((by rw [hg]; exact Nat.ne_of_gt (blk_lt (g := gb851) (o := .cells #[.int .i64 x852000_1, .int .i64 x852001_1] 75 (0, 0)) (by (with_reducible repeat (first | refine blk_drewN ?_ _ | refine blk_drew ?_ | refine blk_alloc ?_ _)); exact BK851.out)) : gb856 ≠ gb851)); clear HO_20; clear BK848; clear BK849; clear BK851; clear HB; have HO_20 := n0_; have BK848 := n1_; have BK849 := n2_; have BK851 := n3_; have HB := n4_; have BK856 := n5_; have GW856 := n6_; have GE856 := n7_; have NB848_856 := n8_; have NB856_848 := n9_; have NB849_856 := n10_; have NB856_849 := n11_; have NB851_856 := n12_; have NB856_851 := n13_; clear n0_ n1_ n2_ n3_ n4_ n5_ n6_ n7_ n8_ n9_ n10_ n11_ n12_ n13_; clear hb hbox hg; have hnb38 := NB856_848.out; have hnc38 := NB848_856.out; have hnb39 := NB856_849.out; have hnc39 := NB849_856.out; have hnb40 := NB856_851.out; have hnc40 := NB851_856.out; have hcz41_0 : w37.cell? ⟨gb856, 0, none⟩ = some (.int .i64 0) := (blk_cell BK856.out 0).trans rfl; have hcz41_1 : w37.cell? ⟨gb856, 1, none⟩ = some (.int .i64 0) := (blk_cell BK856.out 1).trans rfl; have hfz41_0 := blk_frozen BK856.out 0; have hfz41_1 := blk_frozen BK856.out 1))
                          have n0_ : Aside0 (Kd.R kA2int 75 ((w37.setCell ⟨gb856, 0, none⟩ (.int .i64 ((rd_TA2int t852 x22_1).f0))).setCell ⟨gb856, 1, none⟩ (.int .i64 ((rd_TA2int t852 x22_1).f1))) w.heap.size (fun k_ => k_ ≠ gb849 ∧ k_ ≠ gb851 ∧ k_ ≠ gb856) (.slice (some ad855) t852.length co16) t852) := ⟨by (with_reducible repeat (first | apply Kd.R_alloc | apply Kd.R_drewN | apply Kd.R_drew)); exact Kd.R_mono (Kd.R_far (p := ⟨gb856, 1, none⟩) (Kd.R_far (p := ⟨gb856, 0, none⟩) (Kd.R_mono HO_20.out (fun k_ hk => (⟨hk, hk.2⟩ : _ ∧ k_ ≠ gb856))) (fun _ hk => hk.2) (.int .i64 ((rd_TA2int t852 x22_1).f0))) (fun _ hk => hk.2) (.int .i64 ((rd_TA2int t852 x22_1).f1))) (fun _ hk => ⟨hk.1.1.1, ⟨hk.1.1.2, hk.1.2⟩⟩)⟩
                          have n1_ : Aside0 (((w37.setCell ⟨gb856, 0, none⟩ (.int .i64 ((rd_TA2int t852 x22_1).f0))).setCell ⟨gb856, 1, none⟩ (.int .i64 ((rd_TA2int t852 x22_1).f1))).heap[gb848]? = some (.cells #[.slice A0_0 l0_0.length c0_0] 26 (0, 0))) := ⟨by (with_reducible repeat (first | refine blk_drewN ?_ _ | refine blk_drew ?_ | refine blk_alloc ?_ _)); refine blk_far ?_ NB848_856.out _; (with_reducible repeat (first | refine blk_drewN ?_ _ | refine blk_drew ?_ | refine blk_alloc ?_ _)); refine blk_far ?_ NB848_856.out _; (with_reducible repeat (first | refine blk_drewN ?_ _ | refine blk_drew ?_ | refine blk_alloc ?_ _)); exact BK848.out⟩
                          have n2_ : Aside0 (((w37.setCell ⟨gb856, 0, none⟩ (.int .i64 ((rd_TA2int t852 x22_1).f0))).setCell ⟨gb856, 1, none⟩ (.int .i64 ((rd_TA2int t852 x22_1).f1))).heap[gb849]? = some (.cells #[.int .i64 0, .int .i64 0] 75 (0, 0))) := ⟨by (with_reducible repeat (first | refine blk_drewN ?_ _ | refine blk_drew ?_ | refine blk_alloc ?_ _)); refine blk_far ?_ NB849_856.out _; (with_reducible repeat (first | refine blk_drewN ?_ _ | refine blk_drew ?_ | refine blk_alloc ?_ _)); refine blk_far ?_ NB849_856.out _; (with_reducible repeat (first | refine blk_drewN ?_ _ | refine blk_drew ?_ | refine blk_alloc ?_ _)); exact BK849.out⟩
                          have n3_ : Aside0 (((w37.setCell ⟨gb856, 0, none⟩ (.int .i64 ((rd_TA2int t852 x22_1).f0))).setCell ⟨gb856, 1, none⟩ (.int .i64 ((rd_TA2int t852 x22_1).f1))).heap[gb851]? = some (.cells #[.int .i64 x852000_1, .int .i64 x852001_1] 75 (0, 0))) := ⟨by (with_reducible repeat (first | refine blk_drewN ?_ _ | refine blk_drew ?_ | refine blk_alloc ?_ _)); refine blk_far ?_ NB851_856.out _; (with_reducible repeat (first | refine blk_drewN ?_ _ | refine blk_drew ?_ | refine blk_alloc ?_ _)); refine blk_far ?_ NB851_856.out _; (with_reducible repeat (first | refine blk_drewN ?_ _ | refine blk_drew ?_ | refine blk_alloc ?_ _)); exact BK851.out⟩
                          have n4_ : Aside0 (((w37.setCell ⟨gb856, 0, none⟩ (.int .i64 ((rd_TA2int t852 x22_1).f0))).setCell ⟨gb856, 1, none⟩ (.int .i64 ((rd_TA2int t852 x22_1).f1))).heap[gb856]? = some (.cells #[.int .i64 ((rd_TA2int t852 x22_1).f0), .int .i64 ((rd_TA2int t852 x22_1).f1)] 75 (0, 0))) := ⟨by (with_reducible repeat (first | refine blk_drewN ?_ _ | refine blk_drew ?_ | refine blk_alloc ?_ _)); refine blk_put (cs := #[.int .i64 ((rd_TA2int t852 x22_1).f0), .int .i64 0]) ?_ 1 _ rfl; (with_reducible repeat (first | refine blk_drewN ?_ _ | refine blk_drew ?_ | refine blk_alloc ?_ _)); refine blk_put (cs := #[.int .i64 0, .int .i64 0]) ?_ 0 _ rfl; (with_reducible repeat (first | refine blk_drewN ?_ _ | refine blk_drew ?_ | refine blk_alloc ?_ _)); exact BK856.out⟩
                          have n5_ : Aside0 (Below w.heap.size w ((w37.setCell ⟨gb856, 0, none⟩ (.int .i64 ((rd_TA2int t852 x22_1).f0))).setCell ⟨gb856, 1, none⟩ (.int .i64 ((rd_TA2int t852 x22_1).f1)))) := ⟨by repeat (first | (with_reducible first | exact HB.out | apply below_alloc | apply pw_below_drewN | apply below_drew1 | refine below_set ?_ GE848.out | refine below_set ?_ GE849.out | refine below_set ?_ GE851.out | refine below_set ?_ GE856.out) | exact HB.out)⟩
                          (try clear HO_20)
                          (try clear BK848)
                          (try clear BK849)
                          (try clear BK851)
                          (try clear BK856)
                          (try clear HB)
                          generalize ((w37.setCell ⟨gb856, 0, none⟩ (.int .i64 ((rd_TA2int t852 x22_1).f0))).setCell ⟨gb856, 1, none⟩ (.int .i64 ((rd_TA2int t852 x22_1).f1))) = w42 at n0_ n1_ n2_ n3_ n4_ n5_ ⊢
                          have HO_20 := n0_
                          have BK848 := n1_
                          have BK849 := n2_
                          have BK851 := n3_
                          have BK856 := n4_
                          have HB := n5_
                          clear n0_ n1_ n2_ n3_ n4_ n5_
                          have n0_ := Aside0.mk (Kd.R_drew HO_20.out)
                          have n1_ := Aside0.mk (blk_drew BK848.out)
                          have n2_ := Aside0.mk (blk_drew BK849.out)
                          have n3_ := Aside0.mk (blk_drew BK851.out)
                          have n4_ := Aside0.mk (blk_drew BK856.out)
                          have n5_ := Aside0.mk (below_drew1 HB.out)
                          clear HO_20
                          clear BK848
                          clear BK849
                          clear BK851
                          clear BK856
                          clear HB
                          have HO_20 := n0_
                          have BK848 := n1_
                          have BK849 := n2_
                          have BK851 := n3_
                          have BK856 := n4_
                          have HB := n5_
                          clear n0_ n1_ n2_ n3_ n4_ n5_
                          have p857 : 0 ≤ (((rd_TA2int t852 x22_1).f0) : Int) := of_decide_eq_true (by first | (with_reducible assumption) | assumption)
                          have q857 : ((rd_TA2int t852 x22_1).f0) < (l1.length : Int) := of_decide_eq_true (by first | (with_reducible assumption) | assumption)
                          obtain ⟨ad857, e857, hx857_0, hx857_1, hx857_2, hx857_3, hx857_4, hx857_5, hx857_6⟩ := at_TimplLoan HR1.out ((rd_TA2int t852 x22_1).f0) p857 q857
                          have hw857_6 := hx857_6
                          have hw857_5 := hx857_5
                          have hw857_4 := hx857_4
                          have hw857_3 := hx857_3
                          have hw857_2 := hx857_2
                          have hw857_1 := hx857_1
                          have hw857_0 := hx857_0
                          cases e857
                          replace hx857_0 := (HB.out.cell (World.block_lt_of_cell? w _ hx857_0)).trans hx857_0
                          replace hx857_1 := (HB.out.cell (World.block_lt_of_cell? w _ hx857_1)).trans hx857_1
                          replace hx857_2 := (HB.out.cell (World.block_lt_of_cell? w _ hx857_2)).trans hx857_2
                          replace hx857_3 := (HB.out.cell (World.block_lt_of_cell? w _ hx857_3)).trans hx857_3
                          replace hx857_4 := (HB.out.cell (World.block_lt_of_cell? w _ hx857_4)).trans hx857_4
                          replace hx857_5 := (HB.out.cell (World.block_lt_of_cell? w _ hx857_5)).trans hx857_5
                          replace hx857_6 := (HB.out.cell (World.block_lt_of_cell? w _ hx857_6)).trans hx857_6
                          replace p857 := eq_true p857
                          replace q857 := eq_true q857
                          have p858 : 0 ≤ (((rd_TA2int t852 x22_1).f1) : Int) := of_decide_eq_true (by first | (with_reducible assumption) | assumption)
                          have q858 : ((rd_TA2int t852 x22_1).f1) < (l1.length : Int) := of_decide_eq_true (by first | (with_reducible assumption) | assumption)
                          obtain ⟨ad858, e858, hx858_0, hx858_1, hx858_2, hx858_3, hx858_4, hx858_5, hx858_6⟩ := at_TimplLoan HR1.out ((rd_TA2int t852 x22_1).f1) p858 q858
                          have hw858_6 := hx858_6
                          have hw858_5 := hx858_5
                          have hw858_4 := hx858_4
                          have hw858_3 := hx858_3
                          have hw858_2 := hx858_2
                          have hw858_1 := hx858_1
                          have hw858_0 := hx858_0
                          obtain rfl : ad857 = ad858 := (by injection e858)
                          replace hx858_0 := (HB.out.cell (World.block_lt_of_cell? w _ hx858_0)).trans hx858_0
                          replace hx858_1 := (HB.out.cell (World.block_lt_of_cell? w _ hx858_1)).trans hx858_1
                          replace hx858_2 := (HB.out.cell (World.block_lt_of_cell? w _ hx858_2)).trans hx858_2
                          replace hx858_3 := (HB.out.cell (World.block_lt_of_cell? w _ hx858_3)).trans hx858_3
                          replace hx858_4 := (HB.out.cell (World.block_lt_of_cell? w _ hx858_4)).trans hx858_4
                          replace hx858_5 := (HB.out.cell (World.block_lt_of_cell? w _ hx858_5)).trans hx858_5
                          replace hx858_6 := (HB.out.cell (World.block_lt_of_cell? w _ hx858_6)).trans hx858_6
                          replace p858 := eq_true p858
                          replace q858 := eq_true q858
                          refine start_ (n := 14) (S := fun w' => w'.cell? ⟨gb856, 0, none⟩ = some (.int .i64 ((rd_TA2int t852 x22_1).f0)) ∧ w'.cell? ⟨gb856, 1, none⟩ = some (.int .i64 ((rd_TA2int t852 x22_1).f1)) ∧ w'.cell? (ad857.add ((((rd_TA2int t852 x22_1).f0)).toNat * 7)) = some (.int .i64 ((rd_TimplLoan l1 ((rd_TA2int t852 x22_1).f0)).f0.f0)) ∧ w'.cell? ⟨(ad857.add ((((rd_TA2int t852 x22_1).f0)).toNat * 7)).block, (ad857.add ((((rd_TA2int t852 x22_1).f0)).toNat * 7)).off + 1, none⟩ = some (.int .i64 ((rd_TimplLoan l1 ((rd_TA2int t852 x22_1).f0)).f0.f1)) ∧ w'.cell? ⟨(ad857.add ((((rd_TA2int t852 x22_1).f0)).toNat * 7)).block, (ad857.add ((((rd_TA2int t852 x22_1).f0)).toNat * 7)).off + 2, none⟩ = some (.int .i64 ((rd_TimplLoan l1 ((rd_TA2int t852 x22_1).f0)).f0.f2)) ∧ w'.cell? ⟨(ad857.add ((((rd_TA2int t852 x22_1).f0)).toNat * 7)).block, (ad857.add ((((rd_TA2int t852 x22_1).f0)).toNat * 7)).off + 3, none⟩ = some (.int .i64 ((rd_TimplLoan l1 ((rd_TA2int t852 x22_1).f0)).f0.f3)) ∧ w'.cell? ⟨(ad857.add ((((rd_TA2int t852 x22_1).f0)).toNat * 7)).block, (ad857.add ((((rd_TA2int t852 x22_1).f0)).toNat * 7)).off + 4, none⟩ = some (.bool ((rd_TimplLoan l1 ((rd_TA2int t852 x22_1).f0)).f1)) ∧ w'.cell? ⟨(ad857.add ((((rd_TA2int t852 x22_1).f0)).toNat * 7)).block, (ad857.add ((((rd_TA2int t852 x22_1).f0)).toNat * 7)).off + 5, none⟩ = some (.int .i64 ((rd_TimplLoan l1 ((rd_TA2int t852 x22_1).f0)).f2)) ∧ w'.cell? ⟨(ad857.add ((((rd_TA2int t852 x22_1).f0)).toNat * 7)).block, (ad857.add ((((rd_TA2int t852 x22_1).f0)).toNat * 7)).off + 6, none⟩ = some (.int .i64 ((rd_TimplLoan l1 ((rd_TA2int t852 x22_1).f0)).f3)) ∧ w'.cell? (ad857.add ((((rd_TA2int t852 x22_1).f1)).toNat * 7)) = some (.int .i64 ((rd_TimplLoan l1 ((rd_TA2int t852 x22_1).f1)).f0.f0)) ∧ w'.cell? ⟨(ad857.add ((((rd_TA2int t852 x22_1).f1)).toNat * 7)).block, (ad857.add ((((rd_TA2int t852 x22_1).f1)).toNat * 7)).off + 1, none⟩ = some (.int .i64 ((rd_TimplLoan l1 ((rd_TA2int t852 x22_1).f1)).f0.f1)) ∧ w'.cell? ⟨(ad857.add ((((rd_TA2int t852 x22_1).f1)).toNat * 7)).block, (ad857.add ((((rd_TA2int t852 x22_1).f1)).toNat * 7)).off + 2, none⟩ = some (.int .i64 ((rd_TimplLoan l1 ((rd_TA2int t852 x22_1).f1)).f0.f2)) ∧ w'.cell? ⟨(ad857.add ((((rd_TA2int t852 x22_1).f1)).toNat * 7)).block, (ad857.add ((((rd_TA2int t852 x22_1).f1)).toNat * 7)).off + 3, none⟩ = some (.int .i64 ((rd_TimplLoan l1 ((rd_TA2int t852 x22_1).f1)).f0.f3)) ∧ w'.cell? ⟨(ad857.add ((((rd_TA2int t852 x22_1).f1)).toNat * 7)).block, (ad857.add ((((rd_TA2int t852 x22_1).f1)).toNat * 7)).off + 4, none⟩ = some (.bool ((rd_TimplLoan l1 ((rd_TA2int t852 x22_1).f1)).f1)) ∧ w'.cell? ⟨(ad857.add ((((rd_TA2int t852 x22_1).f1)).toNat * 7)).block, (ad857.add ((((rd_TA2int t852 x22_1).f1)).toNat * 7)).off + 5, none⟩ = some (.int .i64 ((rd_TimplLoan l1 ((rd_TA2int t852 x22_1).f1)).f2)) ∧ w'.cell? ⟨(ad857.add ((((rd_TA2int t852 x22_1).f1)).toNat * 7)).block, (ad857.add ((((rd_TA2int t852 x22_1).f1)).toNat * 7)).off + 6, none⟩ = some (.int .i64 ((rd_TimplLoan l1 ((rd_TA2int t852 x22_1).f1)).f3))) (ds := []) #[false, false, false, false, false, false, false, false, false, false, false, false, false, false] (by kernel_rfl) rfl rfl ⟨(blk_cell BK856.out 0).trans rfl, (blk_cell BK856.out 1).trans rfl, (by have h_ := ((HB.out.cell (World.block_lt_of_cell? w _ hw857_0)).trans hw857_0); first | exact h_ | (simp only [*] at h_; exact h_) | simpa [*] using h_), (by have h_ := ((HB.out.cell (World.block_lt_of_cell? w _ hw857_1)).trans hw857_1); first | exact h_ | (simp only [*] at h_; exact h_) | simpa [*] using h_), (by have h_ := ((HB.out.cell (World.block_lt_of_cell? w _ hw857_2)).trans hw857_2); first | exact h_ | (simp only [*] at h_; exact h_) | simpa [*] using h_), (by have h_ := ((HB.out.cell (World.block_lt_of_cell? w _ hw857_3)).trans hw857_3); first | exact h_ | (simp only [*] at h_; exact h_) | simpa [*] using h_), (by have h_ := ((HB.out.cell (World.block_lt_of_cell? w _ hw857_4)).trans hw857_4); first | exact h_ | (simp only [*] at h_; exact h_) | simpa [*] using h_), (by have h_ := ((HB.out.cell (World.block_lt_of_cell? w _ hw857_5)).trans hw857_5); first | exact h_ | (simp only [*] at h_; exact h_) | simpa [*] using h_), (by have h_ := ((HB.out.cell (World.block_lt_of_cell? w _ hw857_6)).trans hw857_6); first | exact h_ | (simp only [*] at h_; exact h_) | simpa [*] using h_), (by have h_ := ((HB.out.cell (World.block_lt_of_cell? w _ hw858_0)).trans hw858_0); first | exact h_ | (simp only [*] at h_; exact h_) | simpa [*] using h_), (by have h_ := ((HB.out.cell (World.block_lt_of_cell? w _ hw858_1)).trans hw858_1); first | exact h_ | (simp only [*] at h_; exact h_) | simpa [*] using h_), (by have h_ := ((HB.out.cell (World.block_lt_of_cell? w _ hw858_2)).trans hw858_2); first | exact h_ | (simp only [*] at h_; exact h_) | simpa [*] using h_), (by have h_ := ((HB.out.cell (World.block_lt_of_cell? w _ hw858_3)).trans hw858_3); first | exact h_ | (simp only [*] at h_; exact h_) | simpa [*] using h_), (by have h_ := ((HB.out.cell (World.block_lt_of_cell? w _ hw858_4)).trans hw858_4); first | exact h_ | (simp only [*] at h_; exact h_) | simpa [*] using h_), (by have h_ := ((HB.out.cell (World.block_lt_of_cell? w _ hw858_5)).trans hw858_5); first | exact h_ | (simp only [*] at h_; exact h_) | simpa [*] using h_), (by have h_ := ((HB.out.cell (World.block_lt_of_cell? w _ hw858_6)).trans hw858_6); first | exact h_ | (simp only [*] at h_; exact h_) | simpa [*] using h_)⟩ (fun hHeld => ?_); refine with_tabW impl_FirstClash.tab7 impl_FirstClash.bits7 (fun HT_ HW_ => ?_)
                          generalize w42.drew = w43 at HO_20 BK848 BK849 BK851 BK856 HB hx857_0 hx857_1 hx857_2 hx857_3 hx857_4 hx857_5 hx857_6 hx858_0 hx858_1 hx858_2 hx858_3 hx858_4 hx858_5 hx858_6 hHeld ⊢
                          refine pure_ (i := 0) (N := some 26) (v := ?_) (a' := ?_) #[true, false, false, false, false, false, false, false, false, false, false, false, false, false] rfl rfl (any_of HT_.out (by kernel_rfl)) (fun _ _ _ h => h) (Or.inl ⟨by rfl, ?_⟩) ?_ ?_
                          rotate_left
                          · intro w'
                            go_simp
                            with_reducible rfl
                          rotate_left
                          · simp only [Act.put, List.setIfInBounds_toArray, List.set_cons_zero, List.set_cons_succ, i64_w, i32_w]
                            rfl
                          refine pure_ (i := 1) (N := some 27) (v := ?_) (a' := ?_) #[true, true, false, false, false, false, false, false, false, false, false, false, false, false] rfl rfl (any_of HT_.out (by kernel_rfl)) (fun _ _ _ h => h) (Or.inl ⟨by rfl, ?_⟩) ?_ ?_
                          rotate_left
                          · intro w'
                            go_simp
                            with_reducible rfl
                          rotate_left
                          · simp only [Act.put, List.setIfInBounds_toArray, List.set_cons_zero, List.set_cons_succ, i64_w, i32_w]
                            rfl
                          refine pure_ (i := 6) (N := some 32) (v := ?_) (a' := ?_) #[true, true, false, false, false, false, true, false, false, false, false, false, false, false] rfl rfl (any_of HT_.out (by kernel_rfl)) (fun _ _ _ h => h) (Or.inl ⟨by rfl, ?_⟩) ?_ ?_
                          rotate_left
                          · intro w'
                            go_simp
                            with_reducible rfl
                          rotate_left
                          · simp only [Act.put, List.setIfInBounds_toArray, List.set_cons_zero, List.set_cons_succ, i64_w, i32_w]
                            rfl
                          refine pure_ (i := 7) (N := some 33) (v := ?_) (a' := ?_) #[true, true, false, false, false, false, true, true, false, false, false, false, false, false] rfl rfl (any_of HT_.out (by kernel_rfl)) (fun _ _ _ h => h) (Or.inl ⟨by rfl, ?_⟩) ?_ ?_
                          rotate_left
                          · intro w'
                            go_simp
                            with_reducible rfl
                          rotate_left
                          · simp only [Act.put, List.setIfInBounds_toArray, List.set_cons_zero, List.set_cons_succ, i64_w, i32_w]
                            rfl
                          refine take_ (i := 2) (N := some 28) (v := ?_) (a' := ?_) #[true, true, true, false, false, false, true, true, false, false, false, false, false, false] rfl rfl (take_ofW HT_.out HW_.out (by kernel_rfl)) (fun _ _ _ h => h) (Or.inl ⟨by rfl, ?_⟩) hHeld ?_ ?_
                          rotate_left
                          · rintro w' ⟨s0, s1, s2, s3, s4, s5, s6, s7, s8, s9, s10, s11, s12, s13, s14, s15⟩
                            go_simp
                            with_reducible rfl
                          rotate_left
                          · simp only [Act.put, List.setIfInBounds_toArray, List.set_cons_zero, List.set_cons_succ, i64_w, i32_w]
                            rfl
                          refine pure_ (i := 3) (N := some 29) (v := ?_) (a' := ?_) #[true, true, true, true, false, false, true, true, false, false, false, false, false, false] rfl rfl (any_of HT_.out (by kernel_rfl)) (fun _ _ _ h => h) (Or.inl ⟨by rfl, ?_⟩) ?_ ?_
                          rotate_left
                          · intro w'
                            go_simp
                            with_reducible rfl
                          rotate_left
                          · simp only [Act.put, List.setIfInBounds_toArray, List.set_cons_zero, List.set_cons_succ, i64_w, i32_w]
                            rfl
                          refine pure_ (i := 4) (N := some 30) (v := ?_) (a' := ?_) #[true, true, true, true, true, false, true, true, false, false, false, false, false, false] rfl rfl (any_of HT_.out (by kernel_rfl)) (fun _ _ _ h => h) (Or.inl ⟨by rfl, ?_⟩) ?_ ?_
                          rotate_left
                          · intro w'
                            go_simp
                            with_reducible rfl
                          rotate_left
                          · simp only [Act.put, List.setIfInBounds_toArray, List.set_cons_zero, List.set_cons_succ, i64_w, i32_w]
                            rfl
                          refine take_ (i := 5) (N := some 31) (v := ?_) (a' := ?_) #[true, true, true, true, true, true, true, true, false, false, false, false, false, false] rfl rfl (take_ofW HT_.out HW_.out (by kernel_rfl)) (fun _ _ _ h => h) (Or.inl ⟨by rfl, ?_⟩) hHeld ?_ ?_
                          rotate_left
                          · rintro w' ⟨s0, s1, s2, s3, s4, s5, s6, s7, s8, s9, s10, s11, s12, s13, s14, s15⟩
                            go_simp
                            with_reducible rfl
                          rotate_left
                          · simp only [Act.put, List.setIfInBounds_toArray, List.set_cons_zero, List.set_cons_succ, i64_w, i32_w]
                            rfl
                          refine take_ (i := 8) (N := some 34) (v := ?_) (a' := ?_) #[true, true, true, true, true, true, true, true, true, false, false, false, false, false] rfl rfl (take_ofW HT_.out HW_.out (by kernel_rfl)) (fun _ _ _ h => h) (Or.inl ⟨by rfl, ?_⟩) hHeld ?_ ?_
                          rotate_left
                          · rintro w' ⟨s0, s1, s2, s3, s4, s5, s6, s7, s8, s9, s10, s11, s12, s13, s14, s15⟩
                            go_simp
                            with_reducible rfl
                          rotate_left
                          · simp only [Act.put, List.setIfInBounds_toArray, List.set_cons_zero, List.set_cons_succ, i64_w, i32_w]
                            rfl
                          refine pure_ (i := 9) (N := some 35) (v := ?_) (a' := ?_) #[true, true, true, true, true, true, true, true, true, true, false, false, false, false] rfl rfl (any_of HT_.out (by kernel_rfl)) (fun _ _ _ h => h) (Or.inl ⟨by rfl, ?_⟩) ?_ ?_
                          rotate_left
                          · intro w'
                            go_simp
                            with_reducible rfl
                          rotate_left
                          · simp only [Act.put, List.setIfInBounds_toArray, List.set_cons_zero, List.set_cons_succ, i64_w, i32_w]
                            rfl
                          refine pure_ (i := 10) (N := some 36) (v := ?_) (a' := ?_) #[true, true, true, true, true, true, true, true, true, true, true, false, false, false] rfl rfl (any_of HT_.out (by kernel_rfl)) (fun _ _ _ h => h) (Or.inl ⟨by rfl, ?_⟩) ?_ ?_
                          rotate_left
                          · intro w'
                            go_simp
                            with_reducible rfl
                          rotate_left
                          · simp only [Act.put, List.setIfInBounds_toArray, List.set_cons_zero, List.set_cons_succ, i64_w, i32_w]
                            rfl
                          refine take_ (i := 11) (N := some 37) (v := ?_) (a' := ?_) #[true, true, true, true, true, true, true, true, true, true, true, true, false, false] rfl rfl (take_ofW HT_.out HW_.out (by kernel_rfl)) (fun _ _ _ h => h) (Or.inl ⟨by rfl, ?_⟩) hHeld ?_ ?_
                          rotate_left
                          · rintro w' ⟨s0, s1, s2, s3, s4, s5, s6, s7, s8, s9, s10, s11, s12, s13, s14, s15⟩
                            go_simp
                            with_reducible rfl
                          rotate_left
                          · simp only [Act.put, List.setIfInBounds_toArray, List.set_cons_zero, List.set_cons_succ, i64_w, i32_w]
                            rfl
                          refine pure_ (i := 12) (N := some 38) (v := ?_) (a' := ?_) #[true, true, true, true, true, true, true, true, true, true, true, true, true, false] rfl rfl (any_of HT_.out (by kernel_rfl)) (fun _ _ _ h => h) (Or.inl ⟨by rfl, ?_⟩) ?_ ?_
                          rotate_left
                          · intro w'
                            go_simp
                            with_reducible rfl
                          rotate_left
                          · simp only [Act.put, List.setIfInBounds_toArray, List.set_cons_zero, List.set_cons_succ, i64_w, i32_w]
                            rfl
                          refine pure_ (i := 13) (N := some 12) (v := ?_) (a' := ?_) #[true, true, true, true, true, true, true, true, true, true, true, true, true, true] rfl rfl (any_of HT_.out (by kernel_rfl)) (fun _ _ _ h => h) (Or.inl ⟨by rfl, ?_⟩) ?_ ?_
                          rotate_left
                          · intro w'
                            go_simp
                            with_reducible rfl
                          rotate_left
                          · simp only [Act.put, List.setIfInBounds_toArray, List.set_cons_zero, List.set_cons_succ, i64_w, i32_w]
                            rfl
                          refine done_ (done_of HT_.out (by kernel_rfl)) ?_
                          try go_wp2
                          go_roundg k1
                          case measure => have := HK1.out; omega
                          case rel => exact ⟨(x7_1), (true), (wrap64 (x22_1 + 1)), (x852000_1), (x852001_1), (by first | rfl | (simp; done) | (simp [*]; done)), (by first | rfl | (simp; done) | (simp [*]; done)), (by first | rfl | (simp; done) | (simp [*]; done)), H', ⟨by have := HK1.out; omega⟩, ⟨by (with_reducible repeat (first | apply Kd.R_alloc | apply Kd.R_drewN | apply Kd.R_drew)); exact Kd.R_mono HO_20.out (fun _ hk => ⟨hk.1, hk.2.1⟩)⟩, ⟨by (with_reducible repeat (first | refine blk_drewN ?_ _ | refine blk_drew ?_ | refine blk_alloc ?_ _)); exact BK848.out⟩, ⟨by (with_reducible repeat (first | refine blk_drewN ?_ _ | refine blk_drew ?_ | refine blk_alloc ?_ _)); exact BK849.out⟩, ⟨by (with_reducible repeat (first | refine blk_drewN ?_ _ | refine blk_drew ?_ | refine blk_alloc ?_ _)); exact BK851.out⟩, ⟨by repeat (first | (with_reducible first | exact HB.out | apply below_alloc | apply pw_below_drewN | apply below_drew1 | refine below_set ?_ GE848.out | refine below_set ?_ GE849.out | refine below_set ?_ GE851.out | refine below_set ?_ GE856.out) | exact HB.out)⟩⟩
                      · replace c25 := Bool.eq_false_iff.mpr c25
                        subst c25
                        have H1 : (impl_FirstClash.l0 k1 l1 ji24 true t852 (t852.length : Int) (wrap64 (x22_1 + 1)) ((rd_TA2int t852 x22_1).f0) ((rd_TA2int t852 x22_1).f1)) = some (r1, r2, r3, r4) := by rw [if_neg (show ¬ (false = true) by decide)] at H; exact H
                        clear H
                        have H := H1
                        clear H1
                        have H' := Aside0.mk H
                        clear H
                        have p855 : 0 ≤ (x22_1 : Int) := of_decide_eq_true (by first | (with_reducible assumption) | assumption)
                        have q855 : x22_1 < (t852.length : Int) := of_decide_eq_true (by first | (with_reducible assumption) | assumption)
                        obtain ⟨ad855, e855, hx855_0, hx855_1⟩ := at_TA2int (Kd.R_reads' HO_20.out).2.2 x22_1 p855 q855
                        cases e855
                        replace p855 := eq_true p855
                        replace q855 := eq_true q855
                        try go_wp2_with (first | ((with_reducible refine gate_dst (N := 11) rfl ?_); refine box_event ?hg (N := 11) ?hd (cs := #[.int .i64 0, .int .i64 0]) (t := 75) ?hr ?_; (case hd => rfl); (case hg => rfl); (case hr => first | (go_simp; done) | (go_simp; rfl)); intro gb856 hg w44 hbox hb; have n0_ := Aside0.mk (Kd.R_below (Kd.R_elderB (by (with_reducible repeat (first | apply Kd.R_alloc | apply Kd.R_drewN | apply Kd.R_drew)); exact HO_20.out) gb856 (Nat.le_of_eq hg.symm)) hb); have n1_ := Aside0.mk (blk_below (g := gb848) (o := .cells #[.slice A0_0 l0_0.length c0_0] 26 (0, 0)) (by (with_reducible repeat (first | refine blk_drewN ?_ _ | refine blk_drew ?_ | refine blk_alloc ?_ _)); exact BK848.out) hb); have n2_ := Aside0.mk (blk_below (g := gb849) (o := .cells #[.int .i64 0, .int .i64 0] 75 (0, 0)) (by (with_reducible repeat (first | refine blk_drewN ?_ _ | refine blk_drew ?_ | refine blk_alloc ?_ _)); exact BK849.out) hb); have n3_ := Aside0.mk (blk_below (g := gb851) (o := .cells #[.int .i64 x852000_1, .int .i64 x852001_1] 75 (0, 0)) (by (with_reducible repeat (first | refine blk_drewN ?_ _ | refine blk_drew ?_ | refine blk_alloc ?_ _)); exact BK851.out) hb); have n4_ := Aside0.mk (below_step (by repeat (first | (with_reducible first | exact HB.out | apply below_alloc | apply pw_below_drewN | apply below_drew1 | refine below_set ?_ GE848.out | refine below_set ?_ GE849.out | refine below_set ?_ GE851.out) | exact HB.out)) hb); have n5_ := Aside0.mk (hbox); have n6_ := Aside0.mk ((by rw [hg]; exact (below_size (by repeat (first | (with_reducible first | exact HB.out | apply below_alloc | apply pw_below_drewN | apply below_drew1 | refine below_set ?_ GE848.out | refine below_set ?_ GE849.out | refine below_set ?_ GE851.out) | exact HB.out))) : w.heap.size ≤ gb856)); have n7_ := Aside0.mk ((by rw [hg]; exact (below_size (by repeat (first | (with_reducible first | exact HB.out | apply below_alloc | apply pw_below_drewN | apply below_drew1 | refine below_set ?_ GE848.out | refine below_set ?_ GE849.out | refine below_set ?_ GE851.out) | exact HB.out))) : w.heap.size ≤ gb856)); have n8_ := Aside0.mk ((by rw [hg]; exact Nat.ne_of_lt (blk_lt (g := gb848) (o := .cells #[.slice A0_0 l0_0.length c0_0] 26 (0, 0)) (by (with_reducible repeat (first | refine blk_drewN ?_ _ | refine blk_drew ?_ | refine blk_alloc ?_ _)); exact BK848.out)) : gb848 ≠ gb856)); have n9_ := Aside0.mk ((by rw [hg]; exact Nat.ne_of_gt (blk_lt (g := gb848) (o := .cells #[.slice A0_0 l0_0.length c0_0] 26 (0, 0)) (by (with_reducible repeat (first | refine blk_drewN ?_ _ | refine blk_drew ?_ | refine blk_alloc ?_ _)); exact BK848.out)) : gb856 ≠ gb848)); have n10_ := Aside0.mk ((by rw [hg]; exact Nat.ne_of_lt (blk_lt (g := gb849) (o := .cells #[.int .i64 0, .int .i64 0] 75 (0, 0)) (by (with_reducible repeat (first | refine blk_drewN ?_ _ | refine blk_drew ?_ | refine blk_alloc ?_ _)); exact BK849.out)) : gb849 ≠ gb856)); have n11_ := Aside0.mk ((by rw [hg]; exact Nat.ne_of_gt (blk_lt (g := gb849) (o := .cells #[.int .i64 0, .int .i64 0] 75 (0, 0)) (by (with_reducible repeat (first | refine blk_drewN ?_ _ | refine blk_drew ?_ | refine blk_alloc ?_ _)); exact BK849.out)) : gb856 ≠ gb849)); have n12_ := Aside0.mk ((by rw [hg]; exact Nat.ne_of_lt (blk_lt (g := gb851) (o := .cells #[.int .i64 x852000_1, .int .i64 x852001_1] 75 (0, 0)) (by (with_reducible repeat (first | refine blk_drewN ?_ _ | refine blk_drew ?_ | refine blk_alloc ?_ _)); exact BK851.out)) : gb851 ≠ gb856)); have n13_ := Aside0.mk ((by rw [hg]; exact Nat.ne_of_gt (blk_lt (g := gb851) (o := .cells #[.int .i64 x852000_1, .int .i64 x852001_1] 75 (0, 0)) (by (with_reducible repeat (first | refine blk_drewN ?_ _ | refine blk_drew ?_ | refine blk_alloc ?_ _)); exact BK851.out)) : gb856 ≠ gb851)); clear HO_20; clear BK848; clear BK849; clear BK851; clear HB; have HO_20 := n0_; have BK848 := n1_; have BK849 := n2_; have BK851 := n3_; have HB := n4_; have BK856 := n5_; have GW856 := n6_; have GE856 := n7_; have NB848_856 := n8_; have NB856_848 := n9_; have NB849_856 := n10_; have NB856_849 := n11_; have NB851_856 := n12_; have NB856_851 := n13_; clear n0_ n1_ n2_ n3_ n4_ n5_ n6_ n7_ n8_ n9_ n10_ n11_ n12_ n13_; clear hb hbox hg; have hnb45 := NB856_848.out; have hnc45 := NB848_856.out; have hnb46 := NB856_849.out; have hnc46 := NB849_856.out; have hnb47 := NB856_851.out; have hnc47 := NB851_856.out; have hcz48_0 : w44.cell? ⟨gb856, 0, none⟩ = some (.int .i64 0) := (blk_cell BK856.out 0).trans rfl; have hcz48_1 : w44.cell? ⟨gb856, 1, none⟩ = some (.int .i64 0) := (blk_cell BK856.out 1).trans rfl; have hfz48_0 := blk_frozen BK856.out 0; have hfz48_1 := blk_frozen BK856.out 1))
                        have n0_ : Aside0 (Kd.R kA2int 75 ((w44.setCell ⟨gb856, 0, none⟩ (.int .i64 ((rd_TA2int t852 x22_1).f0))).setCell ⟨gb856, 1, none⟩ (.int .i64 ((rd_TA2int t852 x22_1).f1))) w.heap.size (fun k_ => k_ ≠ gb849 ∧ k_ ≠ gb851 ∧ k_ ≠ gb856) (.slice (some ad855) t852.length co16) t852) := ⟨by (with_reducible repeat (first | apply Kd.R_alloc | apply Kd.R_drewN | apply Kd.R_drew)); exact Kd.R_mono (Kd.R_far (p := ⟨gb856, 1, none⟩) (Kd.R_far (p := ⟨gb856, 0, none⟩) (Kd.R_mono HO_20.out (fun k_ hk => (⟨hk, hk.2⟩ : _ ∧ k_ ≠ gb856))) (fun _ hk => hk.2) (.int .i64 ((rd_TA2int t852 x22_1).f0))) (fun _ hk => hk.2) (.int .i64 ((rd_TA2int t852 x22_1).f1))) (fun _ hk => ⟨hk.1.1.1, ⟨hk.1.1.2, hk.1.2⟩⟩)⟩
                        have n1_ : Aside0 (((w44.setCell ⟨gb856, 0, none⟩ (.int .i64 ((rd_TA2int t852 x22_1).f0))).setCell ⟨gb856, 1, none⟩ (.int .i64 ((rd_TA2int t852 x22_1).f1))).heap[gb848]? = some (.cells #[.slice A0_0 l0_0.length c0_0] 26 (0, 0))) := ⟨by (with_reducible repeat (first | refine blk_drewN ?_ _ | refine blk_drew ?_ | refine blk_alloc ?_ _)); refine blk_far ?_ NB848_856.out _; (with_reducible repeat (first | refine blk_drewN ?_ _ | refine blk_drew ?_ | refine blk_alloc ?_ _)); refine blk_far ?_ NB848_856.out _; (with_reducible repeat (first | refine blk_drewN ?_ _ | refine blk_drew ?_ | refine blk_alloc ?_ _)); exact BK848.out⟩
                        have n2_ : Aside0 (((w44.setCell ⟨gb856, 0, none⟩ (.int .i64 ((rd_TA2int t852 x22_1).f0))).setCell ⟨gb856, 1, none⟩ (.int .i64 ((rd_TA2int t852 x22_1).f1))).heap[gb849]? = some (.cells #[.int .i64 0, .int .i64 0] 75 (0, 0))) := ⟨by (with_reducible repeat (first | refine blk_drewN ?_ _ | refine blk_drew ?_ | refine blk_alloc ?_ _)); refine blk_far ?_ NB849_856.out _; (with_reducible repeat (first | refine blk_drewN ?_ _ | refine blk_drew ?_ | refine blk_alloc ?_ _)); refine blk_far ?_ NB849_856.out _; (with_reducible repeat (first | refine blk_drewN ?_ _ | refine blk_drew ?_ | refine blk_alloc ?_ _)); exact BK849.out⟩
                        have n3_ : Aside0 (((w44.setCell ⟨gb856, 0, none⟩ (.int .i64 ((rd_TA2int t852 x22_1).f0))).setCell ⟨gb856, 1, none⟩ (.int .i64 ((rd_TA2int t852 x22_1).f1))).heap[gb851]? = some (.cells #[.int .i64 x852000_1, .int .i64 x852001_1] 75 (0, 0))) := ⟨by (with_reducible repeat (first | refine blk_drewN ?_ _ | refine blk_drew ?_ | refine blk_alloc ?_ _)); refine blk_far ?_ NB851_856.out _; (with_reducible repeat (first | refine blk_drewN ?_ _ | refine blk_drew ?_ | refine blk_alloc ?_ _)); refine blk_far ?_ NB851_856.out _; (with_reducible repeat (first | refine blk_drewN ?_ _ | refine blk_drew ?_ | refine blk_alloc ?_ _)); exact BK851.out⟩
                        have n4_ : Aside0 (((w44.setCell ⟨gb856, 0, none⟩ (.int .i64 ((rd_TA2int t852 x22_1).f0))).setCell ⟨gb856, 1, none⟩ (.int .i64 ((rd_TA2int t852 x22_1).f1))).heap[gb856]? = some (.cells #[.int .i64 ((rd_TA2int t852 x22_1).f0), .int .i64 ((rd_TA2int t852 x22_1).f1)] 75 (0, 0))) := ⟨by (with_reducible repeat (first | refine blk_drewN ?_ _ | refine blk_drew ?_ | refine blk_alloc ?_ _)); refine blk_put (cs := #[.int .i64 ((rd_TA2int t852 x22_1).f0), .int .i64 0]) ?_ 1 _ rfl; (with_reducible repeat (first | refine blk_drewN ?_ _ | refine blk_drew ?_ | refine blk_alloc ?_ _)); refine blk_put (cs := #[.int .i64 0, .int .i64 0]) ?_ 0 _ rfl; (with_reducible repeat (first | refine blk_drewN ?_ _ | refine blk_drew ?_ | refine blk_alloc ?_ _)); exact BK856.out⟩
                        have n5_ : Aside0 (Below w.heap.size w ((w44.setCell ⟨gb856, 0, none⟩ (.int .i64 ((rd_TA2int t852 x22_1).f0))).setCell ⟨gb856, 1, none⟩ (.int .i64 ((rd_TA2int t852 x22_1).f1)))) := ⟨by repeat (first | (with_reducible first | exact HB.out | apply below_alloc | apply pw_below_drewN | apply below_drew1 | refine below_set ?_ GE848.out | refine below_set ?_ GE849.out | refine below_set ?_ GE851.out | refine below_set ?_ GE856.out) | exact HB.out)⟩
                        (try clear HO_20)
                        (try clear BK848)
                        (try clear BK849)
                        (try clear BK851)
                        (try clear BK856)
                        (try clear HB)
                        generalize ((w44.setCell ⟨gb856, 0, none⟩ (.int .i64 ((rd_TA2int t852 x22_1).f0))).setCell ⟨gb856, 1, none⟩ (.int .i64 ((rd_TA2int t852 x22_1).f1))) = w49 at n0_ n1_ n2_ n3_ n4_ n5_ ⊢
                        have HO_20 := n0_
                        have BK848 := n1_
                        have BK849 := n2_
                        have BK851 := n3_
                        have BK856 := n4_
                        have HB := n5_
                        clear n0_ n1_ n2_ n3_ n4_ n5_
                        have n0_ := Aside0.mk (Kd.R_drew HO_20.out)
                        have n1_ := Aside0.mk (blk_drew BK848.out)
                        have n2_ := Aside0.mk (blk_drew BK849.out)
                        have n3_ := Aside0.mk (blk_drew BK851.out)
                        have n4_ := Aside0.mk (blk_drew BK856.out)
                        have n5_ := Aside0.mk (below_drew1 HB.out)
                        clear HO_20
                        clear BK848
                        clear BK849
                        clear BK851
                        clear BK856
                        clear HB
                        have HO_20 := n0_
                        have BK848 := n1_
                        have BK849 := n2_
                        have BK851 := n3_
                        have BK856 := n4_
                        have HB := n5_
                        clear n0_ n1_ n2_ n3_ n4_ n5_
                        have p857 : 0 ≤ (((rd_TA2int t852 x22_1).f0) : Int) := of_decide_eq_true (by first | (with_reducible assumption) | assumption)
                        have q857 : ((rd_TA2int t852 x22_1).f0) < (l1.length : Int) := of_decide_eq_true (by first | (with_reducible assumption) | assumption)
                        obtain ⟨ad857, e857, hx857_0, hx857_1, hx857_2, hx857_3, hx857_4, hx857_5, hx857_6⟩ := at_TimplLoan HR1.out ((rd_TA2int t852 x22_1).f0) p857 q857
                        have hw857_6 := hx857_6
                        have hw857_5 := hx857_5
                        have hw857_4 := hx857_4
                        have hw857_3 := hx857_3
                        have hw857_2 := hx857_2
                        have hw857_1 := hx857_1
                        have hw857_0 := hx857_0
                        cases e857
                        replace hx857_0 := (HB.out.cell (World.block_lt_of_cell? w _ hx857_0)).trans hx857_0
                        replace hx857_1 := (HB.out.cell (World.block_lt_of_cell? w _ hx857_1)).trans hx857_1
                        replace hx857_2 := (HB.out.cell (World.block_lt_of_cell? w _ hx857_2)).trans hx857_2
                        replace hx857_3 := (HB.out.cell (World.block_lt_of_cell? w _ hx857_3)).trans hx857_3
                        replace hx857_4 := (HB.out.cell (World.block_lt_of_cell? w _ hx857_4)).trans hx857_4
                        replace hx857_5 := (HB.out.cell (World.block_lt_of_cell? w _ hx857_5)).trans hx857_5
                        replace hx857_6 := (HB.out.cell (World.block_lt_of_cell? w _ hx857_6)).trans hx857_6
                        replace p857 := eq_true p857
                        replace q857 := eq_true q857
                        have p858 : 0 ≤ (((rd_TA2int t852 x22_1).f1) : Int) := of_decide_eq_true (by first | (with_reducible assumption) | assumption)
                        have q858 : ((rd_TA2int t852 x22_1).f1) < (l1.length : Int) := of_decide_eq_true (by first | (with_reducible assumption) | assumption)
                        obtain ⟨ad858, e858, hx858_0, hx858_1, hx858_2, hx858_3, hx858_4, hx858_5, hx858_6⟩ := at_TimplLoan HR1.out ((rd_TA2int t852 x22_1).f1) p858 q858
                        have hw858_6 := hx858_6
                        have hw858_5 := hx858_5
                        have hw858_4 := hx858_4
                        have hw858_3 := hx858_3
                        have hw858_2 := hx858_2
                        have hw858_1 := hx858_1
                        have hw858_0 := hx858_0
                        obtain rfl : ad857 = ad858 := (by injection e858)
                        replace hx858_0 := (HB.out.cell (World.block_lt_of_cell? w _ hx858_0)).trans hx858_0
                        replace hx858_1 := (HB.out.cell (World.block_lt_of_cell? w _ hx858_1)).trans hx858_1
                        replace hx858_2 := (HB.out.cell (World.block_lt_of_cell? w _ hx858_2)).trans hx858_2
                        replace hx858_3 := (HB.out.cell (World.block_lt_of_cell? w _ hx858_3)).trans hx858_3
                        replace hx858_4 := (HB.out.cell (World.block_lt_of_cell? w _ hx858_4)).trans hx858_4
                        replace hx858_5 := (HB.out.cell (World.block_lt_of_cell? w _ hx858_5)).trans hx858_5
                        replace hx858_6 := (HB.out.cell (World.block_lt_of_cell? w _ hx858_6)).trans hx858_6
                        replace p858 := eq_true p858
                        replace q858 := eq_true q858
                        refine start_ (n := 14) (S := fun w' => w'.cell? ⟨gb856, 0, none⟩ = some (.int .i64 ((rd_TA2int t852 x22_1).f0)) ∧ w'.cell? ⟨gb856, 1, none⟩ = some (.int .i64 ((rd_TA2int t852 x22_1).f1)) ∧ w'.cell? (ad857.add ((((rd_TA2int t852 x22_1).f0)).toNat * 7)) = some (.int .i64 ((rd_TimplLoan l1 ((rd_TA2int t852 x22_1).f0)).f0.f0)) ∧ w'.cell? ⟨(ad857.add ((((rd_TA2int t852 x22_1).f0)).toNat * 7)).block, (ad857.add ((((rd_TA2int t852 x22_1).f0)).toNat * 7)).off + 1, none⟩ = some (.int .i64 ((rd_TimplLoan l1 ((rd_TA2int t852 x22_1).f0)).f0.f1)) ∧ w'.cell? ⟨(ad857.add ((((rd_TA2int t852 x22_1).f0)).toNat * 7)).block, (ad857.add ((((rd_TA2int t852 x22_1).f0)).toNat * 7)).off + 2, none⟩ = some (.int .i64 ((rd_TimplLoan l1 ((rd_TA2int t852 x22_1).f0)).f0.f2)) ∧ w'.cell? ⟨(ad857.add ((((rd_TA2int t852 x22_1).f0)).toNat * 7)).block, (ad857.add ((((rd_TA2int t852 x22_1).f0)).toNat * 7)).off + 3, none⟩ = some (.int .i64 ((rd_TimplLoan l1 ((rd_TA2int t852 x22_1).f0)).f0.f3)) ∧ w'.cell? ⟨(ad857.add ((((rd_TA2int t852 x22_1).f0)).toNat * 7)).block, (ad857.add ((((rd_TA2int t852 x22_1).f0)).toNat * 7)).off + 4, none⟩ = some (.bool ((rd_TimplLoan l1 ((rd_TA2int t852 x22_1).f0)).f1)) ∧ w'.cell? ⟨(ad857.add ((((rd_TA2int t852 x22_1).f0)).toNat * 7)).block, (ad857.add ((((rd_TA2int t852 x22_1).f0)).toNat * 7)).off + 5, none⟩ = some (.int .i64 ((rd_TimplLoan l1 ((rd_TA2int t852 x22_1).f0)).f2)) ∧ w'.cell? ⟨(ad857.add ((((rd_TA2int t852 x22_1).f0)).toNat * 7)).block, (ad857.add ((((rd_TA2int t852 x22_1).f0)).toNat * 7)).off + 6, none⟩ = some (.int .i64 ((rd_TimplLoan l1 ((rd_TA2int t852 x22_1).f0)).f3)) ∧ w'.cell? (ad857.add ((((rd_TA2int t852 x22_1).f1)).toNat * 7)) = some (.int .i64 ((rd_TimplLoan l1 ((rd_TA2int t852 x22_1).f1)).f0.f0)) ∧ w'.cell? ⟨(ad857.add ((((rd_TA2int t852 x22_1).f1)).toNat * 7)).block, (ad857.add ((((rd_TA2int t852 x22_1).f1)).toNat * 7)).off + 1, none⟩ = some (.int .i64 ((rd_TimplLoan l1 ((rd_TA2int t852 x22_1).f1)).f0.f1)) ∧ w'.cell? ⟨(ad857.add ((((rd_TA2int t852 x22_1).f1)).toNat * 7)).block, (ad857.add ((((rd_TA2int t852 x22_1).f1)).toNat * 7)).off + 2, none⟩ = some (.int .i64 ((rd_TimplLoan l1 ((rd_TA2int t852 x22_1).f1)).f0.f2)) ∧ w'.cell? ⟨(ad857.add ((((rd_TA2int t852 x22_1).f1)).toNat * 7)).block, (ad857.add ((((rd_TA2int t852 x22_1).f1)).toNat * 7)).off + 3, none⟩ = some (.int .i64 ((rd_TimplLoan l1 ((rd_TA2int t852 x22_1).f1)).f0.f3)) ∧ w'.cell? ⟨(ad857.add ((((rd_TA2int t852 x22_1).f1)).toNat * 7)).block, (ad857.add ((((rd_TA2int t852 x22_1).f1)).toNat * 7)).off + 4, none⟩ = some (.bool ((rd_TimplLoan l1 ((rd_TA2int t852 x22_1).f1)).f1)) ∧ w'.cell? ⟨(ad857.add ((((rd_TA2int t852 x22_1).f1)).toNat * 7)).block, (ad857.add ((((rd_TA2int t852 x22_1).f1)).toNat * 7)).off + 5, none⟩ = some (.int .i64 ((rd_TimplLoan l1 ((rd_TA2int t852 x22_1).f1)).f2)) ∧ w'.cell? ⟨(ad857.add ((((rd_TA2int t852 x22_1).f1)).toNat * 7)).block, (ad857.add ((((rd_TA2int t852 x22_1).f1)).toNat * 7)).off + 6, none⟩ = some (.int .i64 ((rd_TimplLoan l1 ((rd_TA2int t852 x22_1).f1)).f3))) (ds := []) #[false, false, false, false, false, false, false, false, false, false, false, false, false, false] (by kernel_rfl) rfl rfl ⟨(blk_cell BK856.out 0).trans rfl, (blk_cell BK856.out 1).trans rfl, (by have h_ := ((HB.out.cell (World.block_lt_of_cell? w _ hw857_0)).trans hw857_0); first | exact h_ | (simp only [*] at h_; exact h_) | simpa [*] using h_), (by have h_ := ((HB.out.cell (World.block_lt_of_cell? w _ hw857_1)).trans hw857_1); first | exact h_ | (simp only [*] at h_; exact h_) | simpa [*] using h_), (by have h_ := ((HB.out.cell (World.block_lt_of_cell? w _ hw857_2)).trans hw857_2); first | exact h_ | (simp only [*] at h_; exact h_) | simpa [*] using h_), (by have h_ := ((HB.out.cell (World.block_lt_of_cell? w _ hw857_3)).trans hw857_3); first | exact h_ | (simp only [*] at h_; exact h_) | simpa [*] using h_), (by have h_ := ((HB.out.cell (World.block_lt_of_cell? w _ hw857_4)).trans hw857_4); first | exact h_ | (simp only [*] at h_; exact h_) | simpa [*] using h_), (by have h_ := ((HB.out.cell (World.block_lt_of_cell? w _ hw857_5)).trans hw857_5); first | exact h_ | (simp only [*] at h_; exact h_) | simpa [*] using h_), (by have h_ := ((HB.out.cell (World.block_lt_of_cell? w _ hw857_6)).trans hw857_6); first | exact h_ | (simp only [*] at h_; exact h_) | simpa [*] using h_), (by have h_ := ((HB.out.cell (World.block_lt_of_cell? w _ hw858_0)).trans hw858_0); first | exact h_ | (simp only [*] at h_; exact h_) | simpa [*] using h_), (by have h_ := ((HB.out.cell (World.block_lt_of_cell? w _ hw858_1)).trans hw858_1); first | exact h_ | (simp only [*] at h_; exact h_) | simpa [*] using h_), (by have h_ := ((HB.out.cell (World.block_lt_of_cell? w _ hw858_2)).trans hw858_2); first | exact h_ | (simp only [*] at h_; exact h_) | simpa [*] using h_), (by have h_ := ((HB.out.cell (World.block_lt_of_cell? w _ hw858_3)).trans hw858_3); first | exact h_ | (simp only [*] at h_; exact h_) | simpa [*] using h_), (by have h_ := ((HB.out.cell (World.block_lt_of_cell? w _ hw858_4)).trans hw858_4); first | exact h_ | (simp only [*] at h_; exact h_) | simpa [*] using h_), (by have h_ := ((HB.out.cell (World.block_lt_of_cell? w _ hw858_5)).trans hw858_5); first | exact h_ | (simp only [*] at h_; exact h_) | simpa [*] using h_), (by have h_ := ((HB.out.cell (World.block_lt_of_cell? w _ hw858_6)).trans hw858_6); first | exact h_ | (simp only [*] at h_; exact h_) | simpa [*] using h_)⟩ (fun hHeld => ?_); refine with_tabW impl_FirstClash.tab7 impl_FirstClash.bits7 (fun HT_ HW_ => ?_)
                        generalize w49.drew = w50 at HO_20 BK848 BK849 BK851 BK856 HB hx857_0 hx857_1 hx857_2 hx857_3 hx857_4 hx857_5 hx857_6 hx858_0 hx858_1 hx858_2 hx858_3 hx858_4 hx858_5 hx858_6 hHeld ⊢
                        refine pure_ (i := 0) (N := some 26) (v := ?_) (a' := ?_) #[true, false, false, false, false, false, false, false, false, false, false, false, false, false] rfl rfl (any_of HT_.out (by kernel_rfl)) (fun _ _ _ h => h) (Or.inl ⟨by rfl, ?_⟩) ?_ ?_
                        rotate_left
                        · intro w'
                          go_simp
                          with_reducible rfl
                        rotate_left
                        · simp only [Act.put, List.setIfInBounds_toArray, List.set_cons_zero, List.set_cons_succ, i64_w, i32_w]
                          rfl
                        refine pure_ (i := 1) (N := some 27) (v := ?_) (a' := ?_) #[true, true, false, false, false, false, false, false, false, false, false, false, false, false] rfl rfl (any_of HT_.out (by kernel_rfl)) (fun _ _ _ h => h) (Or.inl ⟨by rfl, ?_⟩) ?_ ?_
                        rotate_left
                        · intro w'
                          go_simp
                          with_reducible rfl
                        rotate_left
                        · simp only [Act.put, List.setIfInBounds_toArray, List.set_cons_zero, List.set_cons_succ, i64_w, i32_w]
                          rfl
                        refine pure_ (i := 6) (N := some 32) (v := ?_) (a' := ?_) #[true, true, false, false, false, false, true, false, false, false, false, false, false, false] rfl rfl (any_of HT_.out (by kernel_rfl)) (fun _ _ _ h => h) (Or.inl ⟨by rfl, ?_⟩) ?_ ?_
                        rotate_left
                        · intro w'
                          go_simp
                          with_reducible rfl
                        rotate_left
                        · simp only [Act.put, List.setIfInBounds_toArray, List.set_cons_zero, List.set_cons_succ, i64_w, i32_w]
                          rfl
                        refine pure_ (i := 7) (N := some 33) (v := ?_) (a' := ?_) #[true, true, false, false, false, false, true, true, false, false, false, false, false, false] rfl rfl (any_of HT_.out (by kernel_rfl)) (fun _ _ _ h => h) (Or.inl ⟨by rfl, ?_⟩) ?_ ?_
                        rotate_left
                        · intro w'
                          go_simp
                          with_reducible rfl
                        rotate_left
                        · simp only [Act.put, List.setIfInBounds_toArray, List.set_cons_zero, List.set_cons_succ, i64_w, i32_w]
                          rfl
                        refine take_ (i := 2) (N := some 28) (v := ?_) (a' := ?_) #[true, true, true, false, false, false, true, true, false, false, false, false, false, false] rfl rfl (take_ofW HT_.out HW_.out (by kernel_rfl)) (fun _ _ _ h => h) (Or.inl ⟨by rfl, ?_⟩) hHeld ?_ ?_
                        rotate_left
                        · rintro w' ⟨s0, s1, s2, s3, s4, s5, s6, s7, s8, s9, s10, s11, s12, s13, s14, s15⟩
                          go_simp
                          with_reducible rfl
                        rotate_left
                        · simp only [Act.put, List.setIfInBounds_toArray, List.set_cons_zero, List.set_cons_succ, i64_w, i32_w]
                          rfl
                        refine pure_ (i := 3) (N := some 29) (v := ?_) (a' := ?_) #[true, true, true, true, false, false, true, true, false, false, false, false, false, false] rfl rfl (any_of HT_.out (by kernel_rfl)) (fun _ _ _ h => h) (Or.inl ⟨by rfl, ?_⟩) ?_ ?_
                        rotate_left
                        · intro w'
                          go_simp
                          with_reducible rfl
                        rotate_left
                        · simp only [Act.put, List.setIfInBounds_toArray, List.set_cons_zero, List.set_cons_succ, i64_w, i32_w]
                          rfl
                        refine pure_ (i := 4) (N := some 30) (v := ?_) (a' := ?_) #[true, true, true, true, true, false, true, true, false, false, false, false, false, false] rfl rfl (any_of HT_.out (by kernel_rfl)) (fun _ _ _ h => h) (Or.inl ⟨by rfl, ?_⟩) ?_ ?_
                        rotate_left
                        · intro w'
                          go_simp
                          with_reducible rfl
                        rotate_left
                        · simp only [Act.put, List.setIfInBounds_toArray, List.set_cons_zero, List.set_cons_succ, i64_w, i32_w]
                          rfl
                        refine take_ (i := 5) (N := some 31) (v := ?_) (a' := ?_) #[true, true, true, true, true, true, true, true, false, false, false, false, false, false] rfl rfl (take_ofW HT_.out HW_.out (by kernel_rfl)) (fun _ _ _ h => h) (Or.inl ⟨by rfl, ?_⟩) hHeld ?_ ?_
                        rotate_left
                        · rintro w' ⟨s0, s1, s2, s3, s4, s5, s6, s7, s8, s9, s10, s11, s12, s13, s14, s15⟩
                          go_simp
                          with_reducible rfl
                        rotate_left
                        · simp only [Act.put, List.setIfInBounds_toArray, List.set_cons_zero, List.set_cons_succ, i64_w, i32_w]
                          rfl
                        refine take_ (i := 8) (N := some 34) (v := ?_) (a' := ?_) #[true, true, true, true, true, true, true, true, true, false, false, false, false, false] rfl rfl (take_ofW HT_.out HW_.out (by kernel_rfl)) (fun _ _ _ h => h) (Or.inl ⟨by rfl, ?_⟩) hHeld ?_ ?_
                        rotate_left
                        · rintro w' ⟨s0, s1, s2, s3, s4, s5, s6, s7, s8, s9, s10, s11, s12, s13, s14, s15⟩
                          go_simp
                          with_reducible rfl
                        rotate_left
                        · simp only [Act.put, List.setIfInBounds_toArray, List.set_cons_zero, List.set_cons_succ, i64_w, i32_w]
                          rfl
                        refine pure_ (i := 9) (N := some 35) (v := ?_) (a' := ?_) #[true, true, true, true, true, true, true, true, true, true, false, false, false, false] rfl rfl (any_of HT_.out (by kernel_rfl)) (fun _ _ _ h => h) (Or.inl ⟨by rfl, ?_⟩) ?_ ?_
                        rotate_left
                        · intro w'
                          go_simp
                          with_reducible rfl
                        rotate_left
                        · simp only [Act.put, List.setIfInBounds_toArray, List.set_cons_zero, List.set_cons_succ, i64_w, i32_w]
                          rfl
                        refine pure_ (i := 10) (N := some 36) (v := ?_) (a' := ?_) #[true, true, true, true, true, true, true, true, true, true, true, false, false, false] rfl rfl (any_of HT_.out (by kernel_rfl)) (fun _ _ _ h => h) (Or.inl ⟨by rfl, ?_⟩) ?_ ?_
                        rotate_left
                        · intro w'
                          go_simp
                          with_reducible rfl
                        rotate_left
                        · simp only [Act.put, List.setIfInBounds_toArray, List.set_cons_zero, List.set_cons_succ, i64_w, i32_w]
                          rfl
                        refine take_ (i := 11) (N := some 37) (v := ?_) (a' := ?_) #[true, true, true, true, true, true, true, true, true, true, true, true, false, false] rfl rfl (take_ofW HT_.out HW_.out (by kernel_rfl)) (fun _ _ _ h => h) (Or.inl ⟨by rfl, ?_⟩) hHeld ?_ ?_
                        rotate_left
                        · rintro w' ⟨s0, s1, s2, s3, s4, s5, s6, s7, s8, s9, s10, s11, s12, s13, s14, s15⟩
                          go_simp
                          with_reducible rfl
                        rotate_left
                        · simp only [Act.put, List.setIfInBounds_toArray, List.set_cons_zero, List.set_cons_succ, i64_w, i32_w]
                          rfl
                        refine pure_ (i := 12) (N := some 38) (v := ?_) (a' := ?_) #[true, true, true, true, true, true, true, true, true, true, true, true, true, false] rfl rfl (any_of HT_.out (by kernel_rfl)) (fun _ _ _ h => h) (Or.inl ⟨by rfl, ?_⟩) ?_ ?_
                        rotate_left
                        · intro w'
                          go_simp
                          with_reducible rfl
                        rotate_left
                        · simp only [Act.put, List.setIfInBounds_toArray, List.set_cons_zero, List.set_cons_succ, i64_w, i32_w]
                          rfl
                        refine pure_ (i := 13) (N := some 12) (v := ?_) (a' := ?_) #[true, true, true, true, true, true, true, true, true, true, true, true, true, true] rfl rfl (any_of HT_.out (by kernel_rfl)) (fun _ _ _ h => h) (Or.inl ⟨by rfl, ?_⟩) ?_ ?_
                        rotate_left
                        · intro w'
                          go_simp
                          with_reducible rfl
                        rotate_left
                        · simp only [Act.put, List.setIfInBounds_toArray, List.set_cons_zero, List.set_cons_succ, i64_w, i32_w]
                          rfl
                        refine done_ (done_of HT_.out (by kernel_rfl)) ?_
                        try go_wp2
                        have n0_ := Aside0.mk (Kd.R_drew HO_20.out)
                        have n1_ := Aside0.mk (blk_drew BK848.out)
                        have n2_ := Aside0.mk (blk_drew BK849.out)
                        have n3_ := Aside0.mk (blk_drew BK851.out)
                        have n4_ := Aside0.mk (blk_drew BK856.out)
                        have n5_ := Aside0.mk (below_drew1 HB.out)
                        clear HO_20
                        clear BK848
                        clear BK849
                        clear BK851
                        clear BK856
                        clear HB
                        have HO_20 := n0_
                        have BK848 := n1_
                        have BK849 := n2_
                        have BK851 := n3_
                        have BK856 := n4_
                        have HB := n5_
                        clear n0_ n1_ n2_ n3_ n4_ n5_
                        refine start_ (n := 5) (S := fun w' => w'.cell? ⟨gb856, 0, none⟩ = some (.int .i64 ((rd_TA2int t852 x22_1).f0)) ∧ w'.cell? ⟨gb856, 1, none⟩ = some (.int .i64 ((rd_TA2int t852 x22_1).f1))) (ds := []) #[false, false, false, false, false] (by kernel_rfl) rfl rfl ⟨(blk_cell BK856.out 0).trans rfl, (blk_cell BK856.out 1).trans rfl⟩ (fun hHeld => ?_)
                        generalize w50.drew = w51 at HO_20 BK848 BK849 BK851 BK856 HB hHeld ⊢
                        refine pure_ (i := 0) (N := some 46) (v := ?_) (a' := ?_) #[true, false, false, false, false] rfl rfl (by kernel_rfl) (fun _ _ _ h => h) (Or.inl ⟨by rfl, ?_⟩) ?_ ?_
                        rotate_left
                        · intro w'
                          go_simp
                          with_reducible rfl
                        rotate_left
                        · simp only [Act.put, List.setIfInBounds_toArray, List.set_cons_zero, List.set_cons_succ, i64_w, i32_w]
                          rfl
                        refine pure_ (i := 2) (N := some 7) (v := ?_) (a' := ?_) #[true, false, true, false, false] rfl rfl (by kernel_rfl) (fun _ _ _ h => h) (Or.inl ⟨by rfl, ?_⟩) ?_ ?_
                        rotate_left
                        · intro w'
                          go_simp
                          with_reducible rfl
                        rotate_left
                        · simp only [Act.put, List.setIfInBounds_toArray, List.set_cons_zero, List.set_cons_succ, i64_w, i32_w]
                          rfl
                        refine take_ (i := 1) (N := some 47) (v := ?_) (a' := ?_) #[true, true, true, false, false] rfl rfl (by kernel_rfl) (fun _ _ _ h => h) (Or.inl ⟨by rfl, ?_⟩) hHeld ?_ ?_
                        rotate_left
                        · rintro w' ⟨s0, s1⟩
                          go_simp
                          with_reducible rfl
                        rotate_left
                        · simp only [Act.put, List.setIfInBounds_toArray, List.set_cons_zero, List.set_cons_succ, i64_w, i32_w]
                          rfl
                        refine one_ (i := 3) (N := none) #[true, true, true, true, false] rfl rfl (by kernel_rfl) (by decide) (fun K hK => ?_)
                        have hs52 : w51.cell? ⟨gb851, 0, none⟩ = some (.int .i64 x852000_1) := (blk_cell BK851.out 0).trans rfl
                        have hfs52 := blk_frozen BK851.out 0
                        have hns52_0 := NB848_851.out
                        have hns52_1 := NB849_851.out
                        have hns52_3 := NB856_851.out
                        have hms52_0 := NB851_848.out
                        have hms52_1 := NB851_849.out
                        have hms52_3 := NB851_856.out
                        have hs53 : w51.cell? ⟨gb851, 1, none⟩ = some (.int .i64 x852001_1) := (blk_cell BK851.out 1).trans rfl
                        have hfs53 := blk_frozen BK851.out 1
                        have hns53_0 := NB848_851.out
                        have hns53_1 := NB849_851.out
                        have hns53_3 := NB856_851.out
                        have hms53_0 := NB851_848.out
                        have hms53_1 := NB851_849.out
                        have hms53_3 := NB851_856.out
                        refine skip_ (w1 := ?_) (by rfl) rfl ?_ ?_
                        rotate_left
                        · go_simp
                          rfl
                        refine hK.out _ _ ⟨((cell_far (p := ⟨gb851, _, none⟩) NB856_851.out _).trans (((cell_far (p := ⟨gb851, _, none⟩) NB856_851.out _).trans (hHeld.1)))), ((cell_far (p := ⟨gb851, _, none⟩) NB856_851.out _).trans (((cell_far (p := ⟨gb851, _, none⟩) NB856_851.out _).trans (hHeld.2))))⟩ (fun hHeld => ?_)
                        clear hK K
                        refine pure_ (i := 4) (N := some 9) (v := ?_) (a' := ?_) #[true, true, true, true, true] rfl rfl (by kernel_rfl) (fun _ _ _ h => h) (Or.inl ⟨by rfl, ?_⟩) ?_ ?_
                        rotate_left
                        · intro w'
                          go_simp
                          with_reducible rfl
                        rotate_left
                        · simp only [Act.put, List.setIfInBounds_toArray, List.set_cons_zero, List.set_cons_succ, i64_w, i32_w]
                          rfl
                        refine done_ (by kernel_rfl) ?_
                        try go_wp2
                        go_roundg k1
                        case measure => have := HK1.out; omega
                        case rel => exact ⟨(ji24), (true), (wrap64 (x22_1 + 1)), ((rd_TA2int t852 x22_1).f0), ((rd_TA2int t852 x22_1).f1), (by first | rfl | (simp; done) | (simp only [← hji24] <;> (first | rfl | simp)) | (simp [*]; done)), (by first | rfl | (simp; done) | (simp [*]; done)), (by first | rfl | (simp; done) | (simp [*]; done)), H', ⟨by have := HK1.out; omega⟩, ⟨by (with_reducible repeat (first | apply Kd.R_alloc | apply Kd.R_drewN | apply Kd.R_drew)); exact Kd.R_mono (Kd.R_far (p := ⟨gb851, 1, none⟩) (Kd.R_far (p := ⟨gb851, 0, none⟩) (Kd.R_mono HO_20.out (fun k_ hk => (⟨hk, hk.2.1⟩ : _ ∧ k_ ≠ gb851))) (fun _ hk => hk.2) (.int .i64 ((rd_TA2int t852 x22_1).f0))) (fun _ hk => hk.2) (.int .i64 ((rd_TA2int t852 x22_1).f1))) (fun _ hk => ⟨hk.1.1, hk.1.2.1⟩)⟩, ⟨by (with_reducible repeat (first | refine blk_drewN ?_ _ | refine blk_drew ?_ | refine blk_alloc ?_ _)); refine blk_far ?_ NB848_851.out _; (with_reducible repeat (first | refine blk_drewN ?_ _ | refine blk_drew ?_ | refine blk_alloc ?_ _)); refine blk_far ?_ NB848_851.out _; (with_reducible repeat (first | refine blk_drewN ?_ _ | refine blk_drew ?_ | refine blk_alloc ?_ _)); exact BK848.out⟩, ⟨by (with_reducible repeat (first | refine blk_drewN ?_ _ | refine blk_drew ?_ | refine blk_alloc ?_ _)); refine blk_far ?_ NB849_851.out _; (with_reducible repeat (first | refine blk_drewN ?_ _ | refine blk_drew ?_ | refine blk_alloc ?_ _)); refine blk_far ?_ NB849_851.out _; (with_reducible repeat (first | refine blk_drewN ?_ _ | refine blk_drew ?_ | refine blk_alloc ?_ _)); exact BK849.out⟩, ⟨by (with_reducible repeat (first | refine blk_drewN ?_ _ | refine blk_drew ?_ | refine blk_alloc ?_ _)); refine blk_put (cs := #[.int .i64 ((rd_TA2int t852 x22_1).f0), .int .i64 x852001_1]) ?_ 1 _ rfl; (with_reducible repeat (first | refine blk_drewN ?_ _ | refine blk_drew ?_ | refine blk_alloc ?_ _)); refine blk_put (cs := #[.int .i64 x852000_1, .int .i64 x852001_1]) ?_ 0 _ rfl; (with_reducible repeat (first | refine blk_drewN ?_ _ | refine blk_drew ?_ | refine blk_alloc ?_ _)); exact BK851.out⟩, ⟨by repeat (first | (with_reducible first | exact HB.out | apply below_alloc | apply pw_below_drewN | apply below_drew1 | refine below_set ?_ GE848.out | refine below_set ?_ GE849.out | refine below_set ?_ GE851.out | refine below_set ?_ GE856.out) | exact HB.out)⟩⟩
                    · rw [if_neg c23] at H
                      exact absurd H (by simp)
                  · rw [if_neg c22] at H
                    exact absurd H (by simp)
                · rw [if_neg c21] at H
                  exact absurd H (by simp)
              · rw [if_neg c20] at H
                exact absurd H (by simp)
            · rw [if_neg c19] at H
              exact absurd H (by simp)
          · rw [if_neg c18] at H
            exact absurd H (by simp)
        · rw [if_neg c17] at H
          have c17b0 : decide (x22_1 < (t852.length : Int)) = false := decide_eq_false c17
          clear c17
          simp only [Option.some.injEq, Prod.mk.injEq] at H
          obtain ⟨rfl, rfl, rfl, rfl⟩ := H
          try go_wp2
          have n0_ := Aside0.mk (Kd.R_drew HO_20.out)
          have n1_ := Aside0.mk (blk_drew BK848.out)
          have n2_ := Aside0.mk (blk_drew BK849.out)
          have n3_ := Aside0.mk (blk_drew BK851.out)
          have n4_ := Aside0.mk (below_drew1 HB.out)
          clear HO_20
          clear BK848
          clear BK849
          clear BK851
          clear HB
          have HO_20 := n0_
          have BK848 := n1_
          have BK849 := n2_
          have BK851 := n3_
          have HB := n4_
          clear n0_ n1_ n2_ n3_ n4_
          refine start_ (n := 6) (S := fun w' => w'.cell? ⟨gb851, 0, none⟩ = some (.int .i64 x852000_1) ∧ w'.cell? ⟨gb851, 1, none⟩ = some (.int .i64 x852001_1)) (ds := []) #[false, false, false, false, false, false] (by kernel_rfl) rfl rfl ⟨(blk_cell BK851.out 0).trans rfl, (blk_cell BK851.out 1).trans rfl⟩ (fun hHeld => ?_)
          generalize wr.drew = w54 at HO_20 BK848 BK849 BK851 HB hHeld ⊢
          refine pure_ (i := 0) (N := some 49) (v := ?_) (a' := ?_) #[true, false, false, false, false, false] rfl rfl (by kernel_rfl) (fun _ _ _ h => h) (Or.inl ⟨by rfl, ?_⟩) ?_ ?_
          rotate_left
          · intro w'
            go_simp
            with_reducible rfl
          rotate_left
          · simp only [Act.put, List.setIfInBounds_toArray, List.set_cons_zero, List.set_cons_succ, i64_w, i32_w]
            rfl
          refine pure_ (i := 2) (N := some 51) (v := ?_) (a' := ?_) #[true, false, true, false, false, false] rfl rfl (by kernel_rfl) (fun _ _ _ h => h) (Or.inl ⟨by rfl, ?_⟩) ?_ ?_
          rotate_left
          · intro w'
            go_simp
            with_reducible rfl
          rotate_left
          · simp only [Act.put, List.setIfInBounds_toArray, List.set_cons_zero, List.set_cons_succ, i64_w, i32_w]
            rfl
          refine pure_ (i := 3) (N := some 4) (v := ?_) (a' := ?_) #[true, false, true, true, false, false] rfl rfl (by kernel_rfl) (fun _ _ _ h => h) (Or.inl ⟨by rfl, ?_⟩) ?_ ?_
          rotate_left
          · intro w'
            go_simp
            with_reducible rfl
          rotate_left
          · simp only [Act.put, List.setIfInBounds_toArray, List.set_cons_zero, List.set_cons_succ, i64_w, i32_w]
            rfl
          refine take_ (i := 1) (N := some 50) (v := ?_) (a' := ?_) #[true, true, true, true, false, false] rfl rfl (by kernel_rfl) (fun _ _ _ h => h) (Or.inl ⟨by rfl, ?_⟩) hHeld ?_ ?_
          rotate_left
          · rintro w' ⟨s0, s1⟩
            go_simp
            with_reducible rfl
          rotate_left
          · simp only [Act.put, List.setIfInBounds_toArray, List.set_cons_zero, List.set_cons_succ, i64_w, i32_w]
            rfl
          refine one_ (i := 4) (N := none) #[true, true, true, true, true, false] rfl rfl (by kernel_rfl) (by decide) (fun K hK => ?_)
          have hs55 : w54.cell? ⟨gb849, 0, none⟩ = some (.int .i64 0) := (blk_cell BK849.out 0).trans rfl
          have hfs55 := blk_frozen BK849.out 0
          have hns55_0 := NB848_849.out
          have hns55_2 := NB851_849.out
          have hms55_0 := NB849_848.out
          have hms55_2 := NB849_851.out
          have hs56 : w54.cell? ⟨gb849, 1, none⟩ = some (.int .i64 0) := (blk_cell BK849.out 1).trans rfl
          have hfs56 := blk_frozen BK849.out 1
          have hns56_0 := NB848_849.out
          have hns56_2 := NB851_849.out
          have hms56_0 := NB849_848.out
          have hms56_2 := NB849_851.out
          refine skip_ (w1 := ?_) (by rfl) rfl ?_ ?_
          rotate_left
          · go_simp
            rfl
          refine hK.out _ _ ⟨((cell_far (p := ⟨gb849, _, none⟩) NB851_849.out _).trans (((cell_far (p := ⟨gb849, _, none⟩) NB851_849.out _).trans (hHeld.1)))), ((cell_far (p := ⟨gb849, _, none⟩) NB851_849.out _).trans (((cell_far (p := ⟨gb849, _, none⟩) NB851_849.out _).trans (hHeld.2))))⟩ (fun hHeld => ?_)
          clear hK K
          refine pure_ (i := 5) (N := some 6) (v := ?_) (a' := ?_) #[true, true, true, true, true, true] rfl rfl (by kernel_rfl) (fun _ _ _ h => h) (Or.inl ⟨by rfl, ?_⟩) ?_ ?_
          rotate_left
          · intro w'
            go_simp
            with_reducible rfl
          rotate_left
          · simp only [Act.put, List.setIfInBounds_toArray, List.set_cons_zero, List.set_cons_succ, i64_w, i32_w]
            rfl
          refine done_ (by kernel_rfl) ?_
          try go_wp2
          refine bodyPost_ret (results_list (rs := [.tmp 4, .cell 5 75, .tmp 6]) rfl (by simp) (.tmp (.cell gb849 75 #[.int .i64 x852000_1, .int .i64 x852001_1] (0, 0) _ rfl (by (with_reducible repeat (first | refine blk_drewN ?_ _ | refine blk_drew ?_ | refine blk_alloc ?_ _)); refine blk_put (cs := #[.int .i64 x852000_1, .int .i64 0]) ?_ 1 _ rfl; (with_reducible repeat (first | refine blk_drewN ?_ _ | refine blk_drew ?_ | refine blk_alloc ?_ _)); refine blk_put (cs := #[.int .i64 0, .int .i64 0]) ?_ 0 _ rfl; (with_reducible repeat (first | refine blk_drewN ?_ _ | refine blk_drew ?_ | refine blk_alloc ?_ _)); exact BK849.out) Try.underlying75 rfl (by kernel_rfl) (.tmp .nil)))) rfl ?_
          exact ⟨by first | rfl | (simp [errW_none, errW_some] <;> rfl) | (simp [*, errW_none, errW_some] <;> rfl), by repeat (first | (with_reducible first | exact HB.out | apply below_alloc | apply pw_below_drewN | apply below_drew1 | refine below_set ?_ GE848.out | refine below_set ?_ GE849.out | refine below_set ?_ GE851.out) | exact HB.out)⟩
  · replace c4 := Bool.eq_false_iff.mpr c4
    subst c4
    have H1 : (some (0, 0, 0, false)) = some (r1, r2, r3, r4) := by rw [if_neg (show ¬ (false = true) by decide)] at H; exact H
    clear H
    have H := H1
    clear H1
    simp only [Option.some.injEq, Prod.mk.injEq] at H
    obtain ⟨rfl, rfl, rfl, rfl⟩ := H
    go_enter Try.func45, Try.ntmps45
    go_wp2_with (first | ((with_reducible refine gate_dst (N := 2) rfl ?_); refine box_event ?hg (N := 2) ?hd (cs := #[.slice A0_0 l0_0.length c0_0]) (t := 26) ?hr ?_; (case hd => rfl); (case hg => rfl); (case hr => first | (go_simp; done) | (go_simp; rfl)); intro gb848 hg w57 hbox hb; have n0_ := Aside0.mk (below_step (by repeat (first | (with_reducible first | exact HB.out | apply below_alloc | apply pw_below_drewN | apply below_drew1) | exact HB.out)) hb); have n1_ := Aside0.mk (hbox); have n2_ := Aside0.mk ((by rw [hg]; exact (below_size (by repeat (first | (with_reducible first | exact HB.out | apply below_alloc | apply pw_below_drewN | apply below_drew1) | exact HB.out))) : w.heap.size ≤ gb848)); have n3_ := Aside0.mk ((by rw [hg]; exact (below_size (by repeat (first | (with_reducible first | exact HB.out | apply below_alloc | apply pw_below_drewN | apply below_drew1) | exact HB.out))) : w.heap.size ≤ gb848)); clear HB; have HB := n0_; have BK848 := n1_; have GW848 := n2_; have GE848 := n3_; clear n0_ n1_ n2_ n3_; clear hb hbox hg) | ((with_reducible refine gate_dst (N := 5) rfl ?_); refine box_event ?hg (N := 5) ?hd (cs := #[.int .i64 0, .int .i64 0]) (t := 75) ?hr ?_; (case hd => rfl); (case hg => rfl); (case hr => first | (go_simp; done) | (go_simp; rfl)); intro gb849 hg w58 hbox hb; have n0_ := Aside0.mk (blk_below (g := gb848) (o := .cells #[.slice A0_0 l0_0.length c0_0] 26 (0, 0)) (by (with_reducible repeat (first | refine blk_drewN ?_ _ | refine blk_drew ?_ | refine blk_alloc ?_ _)); exact BK848.out) hb); have n1_ := Aside0.mk (below_step (by repeat (first | (with_reducible first | exact HB.out | apply below_alloc | apply pw_below_drewN | apply below_drew1 | refine below_set ?_ GE848.out) | exact HB.out)) hb); have n2_ := Aside0.mk (hbox); have n3_ := Aside0.mk ((by rw [hg]; exact (below_size (by repeat (first | (with_reducible first | exact HB.out | apply below_alloc | apply pw_below_drewN | apply below_drew1 | refine below_set ?_ GE848.out) | exact HB.out))) : w.heap.size ≤ gb849)); have n4_ := Aside0.mk ((by rw [hg]; exact (below_size (by repeat (first | (with_reducible first | exact HB.out | apply below_alloc | apply pw_below_drewN | apply below_drew1 | refine below_set ?_ GE848.out) | exact HB.out))) : w.heap.size ≤ gb849)); have n5_ := Aside0.mk ((by rw [hg]; exact Nat.ne_of_lt (blk_lt (g := gb848) (o := .cells #[.slice A0_0 l0_0.length c0_0] 26 (0, 0)) (by (with_reducible repeat (first | refine blk_drewN ?_ _ | refine blk_drew ?_ | refine blk_alloc ?_ _)); exact BK848.out)) : gb848 ≠ gb849)); have n6_ := Aside0.mk ((by rw [hg]; exact Nat.ne_of_gt (blk_lt (g := gb848) (o := .cells #[.slice A0_0 l0_0.length c0_0] 26 (0, 0)) (by (with_reducible repeat (first | refine blk_drewN ?_ _ | refine blk_drew ?_ | refine blk_alloc ?_ _)); exact BK848.out)) : gb849 ≠ gb848)); clear BK848; clear HB; have BK848 := n0_; have HB := n1_; have BK849 := n2_; have GW849 := n3_; have GE849 := n4_; have NB848_849 := n5_; have NB849_848 := n6_; clear n0_ n1_ n2_ n3_ n4_ n5_ n6_; clear hb hbox hg; have hnb59 := NB848_849.out; have hnc59 := NB849_848.out; have hcz60_0 : w58.cell? ⟨gb848, 0, none⟩ = some (.slice A0_0 l0_0.length c0_0) := (blk_cell BK848.out 0).trans rfl; have hfz60_0 := blk_frozen BK848.out 0) | ((with_reducible refine gate_callee (f := 76) rfl ?_); refine goesL_ (some 15) rfl rfl Try.func76 (by kernel_rfl) rfl #[.agg #[.slice A0_0 l0_0.length c0_0], .slice A1 l1.length c1] rfl (by (try simp only [List.map_toArray, List.map_cons, List.map_nil]); first | done | rfl | (simp only [List.length_drop, List.length_take]; rfl)) ?_; (with_reducible refine (impl_areLoans.calls _ _ l0_0 _ _ l1 false _ ?side1 ?side2 ?side3 ?side4 A3.out).mono ?_); (case side1 => repeat (first | exact (Kd.C_below HR0_0.out HB.out) | (with_reducible refine Kd.C_alloc ?_ _) | (with_reducible refine Kd.C_drewN ?_ _) | (with_reducible refine Kd.C_drew ?_))); (case side2 => exact HC0_0.out); (case side3 => repeat (first | exact (Kd.C_below HR1.out HB.out) | (with_reducible refine Kd.C_alloc ?_ _) | (with_reducible refine Kd.C_drewN ?_ _) | (with_reducible refine Kd.C_drew ?_))); (case side4 => exact HC1.out); rintro e w61 ⟨rfl, hb⟩; refine ⟨_, rfl, ?_⟩; have n0_ := Aside0.mk (blk_below (g := gb848) (o := .cells #[.slice A0_0 l0_0.length c0_0] 26 (0, 0)) (by (with_reducible repeat (first | refine blk_drewN ?_ _ | refine blk_drew ?_ | refine blk_alloc ?_ _)); exact BK848.out) hb); have n1_ := Aside0.mk (blk_below (g := gb849) (o := .cells #[.int .i64 0, .int .i64 0] 75 (0, 0)) (by (with_reducible repeat (first | refine blk_drewN ?_ _ | refine blk_drew ?_ | refine blk_alloc ?_ _)); exact BK849.out) hb); have n2_ := Aside0.mk (below_step (by repeat (first | (with_reducible first | exact HB.out | apply below_alloc | apply pw_below_drewN | apply below_drew1 | refine below_set ?_ GE848.out | refine below_set ?_ GE849.out) | exact HB.out)) hb); clear BK848; clear BK849; clear HB; have BK848 := n0_; have BK849 := n1_; have HB := n2_; clear n0_ n1_ n2_; (try clear hb); (try clear hb2); (try clear hk); (try clear hi); have hcz62_0 : w61.cell? ⟨gb849, 0, none⟩ = some (.int .i64 0) := (blk_cell BK849.out 0).trans rfl; have hcz62_1 : w61.cell? ⟨gb849, 1, none⟩ = some (.int .i64 0) := (blk_cell BK849.out 1).trans rfl; have hfz62_0 := blk_frozen BK849.out 0; have hfz62_1 := blk_frozen BK849.out 1))
    refine bodyPost_ret (results_list (rs := [.tmp 4, .cell 5 75, .tmp 6]) rfl (by simp) (.tmp (.cell gb849 75 #[.int .i64 0, .int .i64 0] (0, 0) _ rfl (by (with_reducible repeat (first | refine blk_drewN ?_ _ | refine blk_drew ?_ | refine blk_alloc ?_ _)); refine blk_put (cs := #[.int .i64 0, .int .i64 0]) ?_ 1 _ rfl; (with_reducible repeat (first | refine blk_drewN ?_ _ | refine blk_drew ?_ | refine blk_alloc ?_ _)); refine blk_put (cs := #[.int .i64 0, .int .i64 0]) ?_ 0 _ rfl; (with_reducible repeat (first | refine blk_drewN ?_ _ | refine blk_drew ?_ | refine blk_alloc ?_ _)); exact BK849.out) Try.underlying75 rfl (by kernel_rfl) (.tmp .nil)))) rfl ?_
    exact ⟨by first | rfl | (simp [errW_none, errW_some] <;> rfl) | (simp [*, errW_none, errW_some] <;> rfl), by repeat (first | (with_reducible first | exact HB.out | apply below_alloc | apply pw_below_drewN | apply below_drew1 | refine below_set ?_ GE848.out | refine below_set ?_ GE849.out) | exact HB.out)⟩

end Go.Proofs.Ytpbboooeahmgpaa.P


namespace Go.Proofs.Ytpbboooeahmgpaa.P
open Go.RowKit Go.Proofs.YtpbboooeahmgpaaW.PrintWords Go.Proofs.YtpbboooeahmgpaaW.PrintLast Go.Proofs.YtpbboooeahmgpaaW.PrintMore
attribute [local go_sem] max2_int min2_int max_two min_two max_three min_three max_four min_four   -- for this text's walks alone
set_option linter.unusedVariables false
set_option linter.unusedSimpArgs false

/-! ### spec_FirstClash: function 44 -/
def spec_FirstClash.l0 : Nat → List (SimplLoan) → List (SA2int) → Int → Int → Int → Int → Option (Int × Int × Int × Bool)
  | 0, _, _, _, _, _, _ => none
  | k + 1, x1, x7, x8, x10, x840000, x840001 => if x10 < (x7.length : Int) then (if 0 ≤ x10 then (if 0 ≤ ((rd_TA2int x7 x10).f0) then (if ((rd_TA2int x7 x10).f0) < (x1.length : Int) then (if 0 ≤ ((rd_TA2int x7 x10).f1) then (if ((rd_TA2int x7 x10).f1) < (x1.length : Int) then ((spec_l10Clash.f ((rd_TimplLoan x1 ((rd_TA2int x7 x10).f0)).f0.f0) ((rd_TimplLoan x1 ((rd_TA2int x7 x10).f0)).f0.f1) ((rd_TimplLoan x1 ((rd_TA2int x7 x10).f0)).f0.f2) ((rd_TimplLoan x1 ((rd_TA2int x7 x10).f0)).f0.f3) ((rd_TimplLoan x1 ((rd_TA2int x7 x10).f0)).f1) ((rd_TimplLoan x1 ((rd_TA2int x7 x10).f0)).f2) ((rd_TimplLoan x1 ((rd_TA2int x7 x10).f0)).f3) ((rd_TimplLoan x1 ((rd_TA2int x7 x10).f1)).f0.f0) ((rd_TimplLoan x1 ((rd_TA2int x7 x10).f1)).f0.f1) ((rd_TimplLoan x1 ((rd_TA2int x7 x10).f1)).f0.f2) ((rd_TimplLoan x1 ((rd_TA2int x7 x10).f1)).f0.f3) ((rd_TimplLoan x1 ((rd_TA2int x7 x10).f1)).f1) ((rd_TimplLoan x1 ((rd_TA2int x7 x10).f1)).f2) ((rd_TimplLoan x1 ((rd_TA2int x7 x10).f1)).f3)).bind fun t844 => (if x8 < 0 then (spec_FirstClash.l0 k x1 x7 t844 (wrap64 (x10 + 1)) ((rd_TA2int x7 x10).f0) ((rd_TA2int x7 x10).f1)) else (if t844 < x8 then (spec_FirstClash.l0 k x1 x7 t844 (wrap64 (x10 + 1)) ((rd_TA2int x7 x10).f0) ((rd_TA2int x7 x10).f1)) else (spec_FirstClash.l0 k x1 x7 x8 (wrap64 (x10 + 1)) x840000 x840001)))) else (none)) else (none)) else (none)) else (none)) else (none)) else ((spec_l1Most.f x8 0).bind fun t847 => (some (t847, x840000, x840001, decide (x8 ≥ 0))))
def spec_FirstClash.f (k : Nat) (l0_0 : List (List Int)) (l1 : List (SimplLoan)) : Option (Int × Int × Int × Bool) := (spec_l10Loans.f k l0_0 l1).bind fun t835 => (if t835 = true then ((spec_l10Pairs.f k l1).bind fun t836 => (spec_FirstClash.l0 k l1 t836 (-1) 0 0 0)) else (some (0, 0, 0, false)))
def spec_FirstClash.T7 : Bool × List (List Nat × List Nat) := (true, [([], []), ([], []), ([], []), ([1, 2], [1, 2]), ([3], [3]), ([4], [4]), ([0, 5], [0, 5]), ([6], [6]), ([], []), ([], []), ([], []), ([9, 10], [9, 10]), ([11], [11]), ([12], [12]), ([8, 13], [8, 13]), ([14], [14]), ([7, 15], [7, 15]), ([16, 16, 0, 1, 2, 3, 4, 5, 6, 7, 8, 9, 10, 11, 12, 13, 14, 15, 16], [16])])
def spec_FirstClash.B7 : List Nat := [0, 0, 0, 6, 14, 30, 63, 127, 0, 0, 0, 1536, 3584, 7680, 16128, 32512, 65535, 131071]
theorem spec_FirstClash.tab7 : rtab .any (opsOf Try.f44 7) = spec_FirstClash.T7 := by kernel_rfl
theorem spec_FirstClash.bits7 : waitsOk spec_FirstClash.T7.2 spec_FirstClash.B7 = true := by kernel_rfl
def spec_FirstClash.T11 : Bool × List (List Nat × List Nat) := (true, [([], []), ([0], [0]), ([], []), ([], []), ([3], [3]), ([1, 1, 0, 1], [1]), ([2, 5, 0, 1, 2, 5], [2]), ([4, 6, 0, 1, 2, 3, 4, 5, 6], [4])])
def spec_FirstClash.B11 : List Nat := [0, 1, 0, 0, 8, 3, 39, 127]
theorem spec_FirstClash.tab11 : rtab .any (opsOf Try.f44 11) = spec_FirstClash.T11 := by kernel_rfl
theorem spec_FirstClash.bits11 : waitsOk spec_FirstClash.T11.2 spec_FirstClash.B11 = true := by kernel_rfl
set_option maxHeartbeats 8000000 in
set_option maxRecDepth 100000 in
theorem spec_FirstClash.calls (k : Nat) (A0_0 : Option Addr) (c0_0 : Nat) (l0_0 : List (List Int)) (A1 : Option Addr) (c1 : Nat) (l1 : List (SimplLoan)) (r1 : Int) (r2 : Int) (r3 : Int) (r4 : Bool) (w : World) (hr0_0 : Kd.C (Kd.slice 5 (Kd.int .u8)) w A0_0 l0_0.length l0_0) (hc0_0 : l0_0.length ≤ c0_0) (hr1 : Kd.C kimplLoan w A1 l1.length l1) (hc1 : l1.length ≤ c1) (h : spec_FirstClash.f k l0_0 l1 = some (r1, r2, r3, r4)) :
    Calls Try.prog 44 #[.agg #[.slice A0_0 l0_0.length c0_0], .slice A1 l1.length c1] w fun e w' => e = .returned (.tuple #[.int .i64 r1, .agg #[.int .i64 r2, .int .i64 r3], .bool r4]) ∧ Below w.heap.size w w' := by
  have hu26 := Try.underlying26
  have hu75 := Try.underlying75
  have hu30 := Try.underlying30
  have HR0_0 := Aside0.mk hr0_0
  have HC0_0 := Aside0.mk hc0_0
  clear hr0_0 hc0_0
  have HR1 := Aside0.mk hr1
  have HC1 := Aside0.mk hc1
  clear hr1 hc1
  have HB := Aside0.mk (Below.refl w.heap.size w)
  have H : ((spec_l10Loans.f k l0_0 l1).bind fun t835 => (if t835 = true then ((spec_l10Pairs.f k l1).bind fun t836 => (spec_FirstClash.l0 k l1 t836 (-1) 0 0 0)) else (some (0, 0, 0, false)))) = some (r1, r2, r3, r4) := h
  clear h
  replace H := Option.bind_eq_some_iff.mp H
  obtain ⟨t835, A30, H⟩ := H
  replace H : (if t835 = true then ((spec_l10Pairs.f k l1).bind fun t836 => (spec_FirstClash.l0 k l1 t836 (-1) 0 0 0)) else (some (0, 0, 0, false))) = some (r1, r2, r3, r4) := H
  have A3 := Aside0.mk A30
  clear A30
  by_cases c4 : t835 = true
  · subst c4
    have H1 : ((spec_l10Pairs.f k l1).bind fun t836 => (spec_FirstClash.l0 k l1 t836 (-1) 0 0 0)) = some (r1, r2, r3, r4) := by rw [if_pos rfl] at H; exact H
    clear H
    have H := H1
    clear H1
    replace H := Option.bind_eq_some_iff.mp H
    obtain ⟨t836, A50, H⟩ := H
    replace H : (spec_FirstClash.l0 k l1 t836 (-1) 0 0 0) = some (r1, r2, r3, r4) := H
    have A5 := Aside0.mk A50
    clear A50
    have H' := Aside0.mk H
    clear H
    go_enter Try.func44, Try.ntmps44
    go_wp2_with (first | ((with_reducible refine gate_dst (N := 2) rfl ?_); refine box_event ?hg (N := 2) ?hd (cs := #[.slice A0_0 l0_0.length c0_0]) (t := 26) ?hr ?_; (case hd => rfl); (case hg => rfl); (case hr => first | (go_simp; done) | (go_simp; rfl)); intro gb833 hg w6 hbox hb; have n0_ := Aside0.mk (below_step (by repeat (first | (with_reducible first | exact HB.out | apply below_alloc | apply pw_below_drewN | apply below_drew1) | exact HB.out)) hb); have n1_ := Aside0.mk (hbox); have n2_ := Aside0.mk ((by rw [hg]; exact (below_size (by repeat (first | (with_reducible first | exact HB.out | apply below_alloc | apply pw_below_drewN | apply below_drew1) | exact HB.out))) : w.heap.size ≤ gb833)); have n3_ := Aside0.mk ((by rw [hg]; exact (below_size (by repeat (first | (with_reducible first | exact HB.out | apply below_alloc | apply pw_below_drewN | apply below_drew1) | exact HB.out))) : w.heap.size ≤ gb833)); clear HB; have HB := n0_; have BK833 := n1_; have GW833 := n2_; have GE833 := n3_; clear n0_ n1_ n2_ n3_; clear hb hbox hg) | ((with_reducible refine gate_dst (N := 5) rfl ?_); refine box_event ?hg (N := 5) ?hd (cs := #[.int .i64 0, .int .i64 0]) (t := 75) ?hr ?_; (case hd => rfl); (case hg => rfl); (case hr => first | (go_simp; done) | (go_simp; rfl)); intro gb834 hg w7 hbox hb; have n0_ := Aside0.mk (blk_below (g := gb833) (o := .cells #[.slice A0_0 l0_0.length c0_0] 26 (0, 0)) (by (with_reducible repeat (first | refine blk_drewN ?_ _ | refine blk_drew ?_ | refine blk_alloc ?_ _)); exact BK833.out) hb); have n1_ := Aside0.mk (below_step (by repeat (first | (with_reducible first | exact HB.out | apply below_alloc | apply pw_below_drewN | apply below_drew1 | refine below_set ?_ GE833.out) | exact HB.out)) hb); have n2_ := Aside0.mk (hbox); have n3_ := Aside0.mk ((by rw [hg]; exact (below_size (by repeat (first | (with_reducible first | exact HB.out | apply below_alloc | apply pw_below_drewN | apply below_drew1 | refine below_set ?_ GE833.out) | exact HB.out))) : w.heap.size ≤ gb834)); have n4_ := Aside0.mk ((by rw [hg]; exact (below_size (by repeat (first | (with_reducible first | exact HB.out | apply below_alloc | apply pw_below_drewN | apply below_drew1 | refine below_set ?_ GE833.out) | exact HB.out))) : w.heap.size ≤ gb834)); have n5_ := Aside0.mk ((by rw [hg]; exact Nat.ne_of_lt (blk_lt (g := gb833) (o := .cells #[.slice A0_0 l0_0.length c0_0] 26 (0, 0)) (by (with_reducible repeat (first | refine blk_drewN ?_ _ | refine blk_drew ?_ | refine blk_alloc ?_ _)); exact BK833.out)) : gb833 ≠ gb834)); have n6_ := Aside0.mk ((by rw [hg]; exact Nat.ne_of_gt (blk_lt (g := gb833) (o := .cells #[.slice A0_0 l0_0.length c0_0] 26 (0, 0)) (by (with_reducible repeat (first | refine blk_drewN ?_ _ | refine blk_drew ?_ | refine blk_alloc ?_ _)); exact BK833.out)) : gb834 ≠ gb833)); clear BK833; clear HB; have BK833 := n0_; have HB := n1_; have BK834 := n2_; have GW834 := n3_; have GE834 := n4_; have NB833_834 := n5_; have NB834_833 := n6_; clear n0_ n1_ n2_ n3_ n4_ n5_ n6_; clear hb hbox hg; have hnb8 := NB833_834.out; have hnc8 := NB834_833.out; have hcz9_0 : w7.cell? ⟨gb833, 0, none⟩ = some (.slice A0_0 l0_0.length c0_0) := (blk_cell BK833.out 0).trans rfl; have hfz9_0 := blk_frozen BK833.out 0) | ((with_reducible refine gate_callee (f := 83) rfl ?_); refine goesL_ (some 14) rfl rfl Try.func83 (by kernel_rfl) rfl #[.agg #[.slice A0_0 l0_0.length c0_0], .slice A1 l1.length c1] rfl (by (try simp only [List.map_toArray, List.map_cons, List.map_nil]); first | done | rfl | (simp only [List.length_drop, List.length_take]; rfl)) ?_; (with_reducible refine (spec_l10Loans.calls k _ _ l0_0 _ _ l1 true _ ?side1 ?side2 ?side3 ?side4 A3.out).mono ?_); (case side1 => repeat (first | exact (Kd.C_below HR0_0.out HB.out) | (with_reducible refine Kd.C_alloc ?_ _) | (with_reducible refine Kd.C_drewN ?_ _) | (with_reducible refine Kd.C_drew ?_))); (case side2 => exact HC0_0.out); (case side3 => repeat (first | exact (Kd.C_below HR1.out HB.out) | (with_reducible refine Kd.C_alloc ?_ _) | (with_reducible refine Kd.C_drewN ?_ _) | (with_reducible refine Kd.C_drew ?_))); (case side4 => exact HC1.out); rintro e w10 ⟨rfl, hb⟩; refine ⟨_, rfl, ?_⟩; have n0_ := Aside0.mk (blk_below (g := gb833) (o := .cells #[.slice A0_0 l0_0.length c0_0] 26 (0, 0)) (by (with_reducible repeat (first | refine blk_drewN ?_ _ | refine blk_drew ?_ | refine blk_alloc ?_ _)); exact BK833.out) hb); have n1_ := Aside0.mk (blk_below (g := gb834) (o := .cells #[.int .i64 0, .int .i64 0] 75 (0, 0)) (by (with_reducible repeat (first | refine blk_drewN ?_ _ | refine blk_drew ?_ | refine blk_alloc ?_ _)); exact BK834.out) hb); have n2_ := Aside0.mk (below_step (by repeat (first | (with_reducible first | exact HB.out | apply below_alloc | apply pw_below_drewN | apply below_drew1 | refine below_set ?_ GE833.out | refine below_set ?_ GE834.out) | exact HB.out)) hb); clear BK833; clear BK834; clear HB; have BK833 := n0_; have BK834 := n1_; have HB := n2_; clear n0_ n1_ n2_; (try clear hb); (try clear hb2); (try clear hk); (try clear hi)) | ((with_reducible refine gate_callee (f := 96) rfl ?_); refine goesL_ (some 18) rfl rfl Try.func96 (by kernel_rfl) rfl #[.slice A1 l1.length c1] rfl (by (try simp only [List.map_toArray, List.map_cons, List.map_nil]); first | done | rfl | (simp only [List.length_drop, List.length_take]; rfl)) ?_; (with_reducible refine (spec_l10Pairs.calls k _ _ l1 t836 _ ?side1 ?side2 A5.out).mono ?_); (case side1 => repeat (first | exact (Kd.C_below HR1.out HB.out) | (with_reducible refine Kd.C_alloc ?_ _) | (with_reducible refine Kd.C_drewN ?_ _) | (with_reducible refine Kd.C_drew ?_))); (case side2 => exact HC1.out); rintro e w11 ⟨v837, rfl, ho0, hb⟩; refine ⟨_, rfl, ?_⟩; have n0_ := Aside0.mk (Kd.R_lower (Kd.R_newB ho0 (g := gb834) (o := .cells #[.int .i64 0, .int .i64 0] 75 (0, 0)) (by (with_reducible repeat (first | refine blk_drewN ?_ _ | refine blk_drew ?_ | refine blk_alloc ?_ _)); exact BK834.out)) (below_size (by repeat (first | (with_reducible first | exact HB.out | apply below_alloc | apply pw_below_drewN | apply below_drew1 | refine below_set ?_ GE833.out | refine below_set ?_ GE834.out) | exact HB.out)))); have n1_ := Aside0.mk (blk_below (g := gb833) (o := .cells #[.slice A0_0 l0_0.length c0_0] 26 (0, 0)) (by (with_reducible repeat (first | refine blk_drewN ?_ _ | refine blk_drew ?_ | refine blk_alloc ?_ _)); exact BK833.out) hb); have n2_ := Aside0.mk (blk_below (g := gb834) (o := .cells #[.int .i64 0, .int .i64 0] 75 (0, 0)) (by (with_reducible repeat (first | refine blk_drewN ?_ _ | refine blk_drew ?_ | refine blk_alloc ?_ _)); exact BK834.out) hb); have n3_ := Aside0.mk (below_step (by repeat (first | (with_reducible first | exact HB.out | apply below_alloc | apply pw_below_drewN | apply below_drew1 | refine below_set ?_ GE833.out | refine below_set ?_ GE834.out) | exact HB.out)) hb); clear BK833; clear BK834; clear HB; have HO838 := n0_; have BK833 := n1_; have BK834 := n2_; have HB := n3_; clear n0_ n1_ n2_ n3_; (try clear hb); (try clear hb2); (try clear hk); (try clear hi); (try clear ho0)) | ((with_reducible refine gate_dst (N := 9) rfl ?_); refine box_event ?hg (N := 9) ?hd (cs := #[.int .i64 0, .int .i64 0]) (t := 75) ?hr ?_; (case hd => rfl); (case hg => rfl); (case hr => first | (go_simp; done) | (go_simp; rfl)); intro gb839 hg w12 hbox hb; have n0_ := Aside0.mk (Kd.R_below (Kd.R_elderB (by (with_reducible repeat (first | apply Kd.R_alloc | apply Kd.R_drewN | apply Kd.R_drew)); exact HO838.out) gb839 (Nat.le_of_eq hg.symm)) hb); have n1_ := Aside0.mk (blk_below (g := gb833) (o := .cells #[.slice A0_0 l0_0.length c0_0] 26 (0, 0)) (by (with_reducible repeat (first | refine blk_drewN ?_ _ | refine blk_drew ?_ | refine blk_alloc ?_ _)); exact BK833.out) hb); have n2_ := Aside0.mk (blk_below (g := gb834) (o := .cells #[.int .i64 0, .int .i64 0] 75 (0, 0)) (by (with_reducible repeat (first | refine blk_drewN ?_ _ | refine blk_drew ?_ | refine blk_alloc ?_ _)); exact BK834.out) hb); have n3_ := Aside0.mk (below_step (by repeat (first | (with_reducible first | exact HB.out | apply below_alloc | apply pw_below_drewN | apply below_drew1 | refine below_set ?_ GE833.out | refine below_set ?_ GE834.out) | exact HB.out)) hb); have n4_ := Aside0.mk (hbox); have n5_ := Aside0.mk ((by rw [hg]; exact (below_size (by repeat (first | (with_reducible first | exact HB.out | apply below_alloc | apply pw_below_drewN | apply below_drew1 | refine below_set ?_ GE833.out | refine below_set ?_ GE834.out) | exact HB.out))) : w.heap.size ≤ gb839)); have n6_ := Aside0.mk ((by rw [hg]; exact (below_size (by repeat (first | (with_reducible first | exact HB.out | apply below_alloc | apply pw_below_drewN | apply below_drew1 | refine below_set ?_ GE833.out | refine below_set ?_ GE834.out) | exact HB.out))) : w.heap.size ≤ gb839)); have n7_ := Aside0.mk ((by rw [hg]; exact Nat.ne_of_lt (blk_lt (g := gb833) (o := .cells #[.slice A0_0 l0_0.length c0_0] 26 (0, 0)) (by (with_reducible repeat (first | refine blk_drewN ?_ _ | refine blk_drew ?_ | refine blk_alloc ?_ _)); exact BK833.out)) : gb833 ≠ gb839)); have n8_ := Aside0.mk ((by rw [hg]; exact Nat.ne_of_gt (blk_lt (g := gb833) (o := .cells #[.slice A0_0 l0_0.length c0_0] 26 (0, 0)) (by (with_reducible repeat (first | refine blk_drewN ?_ _ | refine blk_drew ?_ | refine blk_alloc ?_ _)); exact BK833.out)) : gb839 ≠ gb833)); have n9_ := Aside0.mk ((by rw [hg]; exact Nat.ne_of_lt (blk_lt (g := gb834) (o := .cells #[.int .i64 0, .int .i64 0] 75 (0, 0)) (by (with_reducible repeat (first | refine blk_drewN ?_ _ | refine blk_drew ?_ | refine blk_alloc ?_ _)); exact BK834.out)) : gb834 ≠ gb839)); have n10_ := Aside0.mk ((by rw [hg]; exact Nat.ne_of_gt (blk_lt (g := gb834) (o := .cells #[.int .i64 0, .int .i64 0] 75 (0, 0)) (by (with_reducible repeat (first | refine blk_drewN ?_ _ | refine blk_drew ?_ | refine blk_alloc ?_ _)); exact BK834.out)) : gb839 ≠ gb834)); clear HO838; clear BK833; clear BK834; clear HB; have HO838 := n0_; have BK833 := n1_; have BK834 := n2_; have HB := n3_; have BK839 := n4_; have GW839 := n5_; have GE839 := n6_; have NB833_839 := n7_; have NB839_833 := n8_; have NB834_839 := n9_; have NB839_834 := n10_; clear n0_ n1_ n2_ n3_ n4_ n5_ n6_ n7_ n8_ n9_ n10_; clear hb hbox hg; have hnb13 := NB839_833.out; have hnc13 := NB833_839.out; have hnb14 := NB839_834.out; have hnc14 := NB834_839.out; have hcz15_0 : w12.cell? ⟨gb839, 0, none⟩ = some (.int .i64 0) := (blk_cell BK839.out 0).trans rfl; have hcz15_1 : w12.cell? ⟨gb839, 1, none⟩ = some (.int .i64 0) := (blk_cell BK839.out 1).trans rfl; have hfz15_0 := blk_frozen BK839.out 0; have hfz15_1 := blk_frozen BK839.out 1))
    go_loopg [8, 10] k (fun kq v8 v10 w' => ∃ (x8_1 : Int) (x10_1 : Int) (x840000_1 : Int) (x840001_1 : Int), v8 = .int .i64 x8_1 ∧ v10 = .int .i64 x10_1 ∧ Aside0 (spec_FirstClash.l0 kq l1 t836 x8_1 x10_1 x840000_1 x840001_1 = some (r1, r2, r3, r4)) ∧ Aside0 (kq ≤ k) ∧ Aside0 (Kd.R kA2int 75 w' w.heap.size (fun k_ => k_ ≠ gb834 ∧ k_ ≠ gb839) v837 t836) ∧ Aside0 (w'.heap[gb833]? = some (.cells #[(.slice A0_0 l0_0.length c0_0)] 26 (0, 0))) ∧ Aside0 (w'.heap[gb834]? = some (.cells #[.int .i64 0, .int .i64 0] 75 (0, 0))) ∧ Aside0 (w'.heap[gb839]? = some (.cells #[.int .i64 x840000_1, .int .i64 x840001_1] 75 (0, 0))) ∧ Aside0 (Below w.heap.size w w'))
    case atStart => exact ⟨((-1)), (0), (0), (0), (by first | rfl | (simp; done) | (simp [*]; done)), (by first | rfl | (simp; done) | (simp [*]; done)), H', ⟨Nat.le_refl _⟩, ⟨by (with_reducible repeat (first | apply Kd.R_alloc | apply Kd.R_drewN | apply Kd.R_drew)); exact Kd.R_mono (Kd.R_far (p := ⟨gb839, 1, none⟩) (Kd.R_far (p := ⟨gb839, 0, none⟩) (Kd.R_mono HO838.out (fun k_ hk => (⟨hk, hk.2⟩ : _ ∧ k_ ≠ gb839))) (fun _ hk => hk.2) (.int .i64 0)) (fun _ hk => hk.2) (.int .i64 0)) (fun _ hk => ⟨hk.1.1.2, hk.1.2⟩)⟩, ⟨by (with_reducible repeat (first | refine blk_drewN ?_ _ | refine blk_drew ?_ | refine blk_alloc ?_ _)); refine blk_far ?_ NB833_839.out _; (with_reducible repeat (first | refine blk_drewN ?_ _ | refine blk_drew ?_ | refine blk_alloc ?_ _)); refine blk_far ?_ NB833_839.out _; (with_reducible repeat (first | refine blk_drewN ?_ _ | refine blk_drew ?_ | refine blk_alloc ?_ _)); exact BK833.out⟩, ⟨by (with_reducible repeat (first | refine blk_drewN ?_ _ | refine blk_drew ?_ | refine blk_alloc ?_ _)); refine blk_far ?_ NB834_839.out _; (with_reducible repeat (first | refine blk_drewN ?_ _ | refine blk_drew ?_ | refine blk_alloc ?_ _)); refine blk_far ?_ NB834_839.out _; (with_reducible repeat (first | refine blk_drewN ?_ _ | refine blk_drew ?_ | refine blk_alloc ?_ _)); exact BK834.out⟩, ⟨by (with_reducible repeat (first | refine blk_drewN ?_ _ | refine blk_drew ?_ | refine blk_alloc ?_ _)); refine blk_put (cs := #[.int .i64 0, .int .i64 0]) ?_ 1 _ rfl; (with_reducible repeat (first | refine blk_drewN ?_ _ | refine blk_drew ?_ | refine blk_alloc ?_ _)); refine blk_put (cs := #[.int .i64 0, .int .i64 0]) ?_ 0 _ rfl; (with_reducible repeat (first | refine blk_drewN ?_ _ | refine blk_drew ?_ | refine blk_alloc ?_ _)); exact BK839.out⟩, ⟨by repeat (first | (with_reducible first | exact HB.out | apply below_alloc | apply pw_below_drewN | apply below_drew1 | refine below_set ?_ GE833.out | refine below_set ?_ GE834.out | refine below_set ?_ GE839.out) | exact HB.out)⟩⟩
    case round =>
      clear H'
      try clear c1
      try clear p2
      try clear c4
      try clear c8
      try clear c9
      try clear c13
      try clear c14
      try clear hcz15_0
      try clear hcz15_1
      try clear hcz9_0
      try clear hfz15_0
      try clear hfz15_1
      try clear hfz9_0
      obtain ⟨x8_1, x10_1, x840000_1, x840001_1, rfl, rfl, HA, HK1, HO_7, BK833, BK834, BK839, HB⟩ := hrel
      cases gk with
      | zero => exact absurd HA.out (by simp [spec_FirstClash.l0])
      | succ k1 =>
        have H := HA.out
        clear HA
        simp only [spec_FirstClash.l0] at H
        by_cases c16 : x10_1 < (t836.length : Int)
        · rw [if_pos c16] at H
          have c16b0 : decide (x10_1 < (t836.length : Int)) = true := decide_eq_true c16
          clear c16
          by_cases c17 : 0 ≤ x10_1
          · rw [if_pos c17] at H
            have c17b0 : decide (0 ≤ x10_1) = true := decide_eq_true c17
            clear c17
            by_cases c18 : 0 ≤ ((rd_TA2int t836 x10_1).f0)
            · rw [if_pos c18] at H
              have c18b0 : decide (0 ≤ ((rd_TA2int t836 x10_1).f0)) = true := decide_eq_true c18
              clear c18
              by_cases c19 : ((rd_TA2int t836 x10_1).f0) < (l1.length : Int)
              · rw [if_pos c19] at H
                have c19b0 : decide (((rd_TA2int t836 x10_1).f0) < (l1.length : Int)) = true := decide_eq_true c19
                clear c19
                by_cases c20 : 0 ≤ ((rd_TA2int t836 x10_1).f1)
                · rw [if_pos c20] at H
                  have c20b0 : decide (0 ≤ ((rd_TA2int t836 x10_1).f1)) = true := decide_eq_true c20
                  clear c20
                  by_cases c21 : ((rd_TA2int t836 x10_1).f1) < (l1.length : Int)
                  · rw [if_pos c21] at H
                    have c21b0 : decide (((rd_TA2int t836 x10_1).f1) < (l1.length : Int)) = true := decide_eq_true c21
                    clear c21
                    replace H := Option.bind_eq_some_iff.mp H
                    obtain ⟨t844, A220, H⟩ := H
                    replace H : (if x8_1 < 0 then (spec_FirstClash.l0 k1 l1 t836 t844 (wrap64 (x10_1 + 1)) ((rd_TA2int t836 x10_1).f0) ((rd_TA2int t836 x10_1).f1)) else (if t844 < x8_1 then (spec_FirstClash.l0 k1 l1 t836 t844 (wrap64 (x10_1 + 1)) ((rd_TA2int t836 x10_1).f0) ((rd_TA2int t836 x10_1).f1)) else (spec_FirstClash.l0 k1 l1 t836 x8_1 (wrap64 (x10_1 + 1)) x840000_1 x840001_1))) = some (r1, r2, r3, r4) := H
                    have A22 := Aside0.mk A220
                    clear A220
                    by_cases c23 : x8_1 < 0
                    · rw [if_pos c23] at H
                      have c23b0 : decide (x8_1 < 0) = true := decide_eq_true c23
                      clear c23
                      have H' := Aside0.mk H
                      clear H
                      obtain ⟨Ao24, co24, eo24⟩ := Kd.R_slice HO_7.out
                      subst eo24
                      try go_wp2
                      have n0_ := Aside0.mk (Kd.R_drew HO_7.out)
                      have n1_ := Aside0.mk (blk_drew BK833.out)
                      have n2_ := Aside0.mk (blk_drew BK834.out)
                      have n3_ := Aside0.mk (blk_drew BK839.out)
                      have n4_ := Aside0.mk (below_drew1 HB.out)
                      clear HO_7
                      clear BK833
                      clear BK834
                      clear BK839
                      clear HB
                      have HO_7 := n0_
                      have BK833 := n1_
                      have BK834 := n2_
                      have BK839 := n3_
                      have HB := n4_
                      clear n0_ n1_ n2_ n3_ n4_
                      have p840 : 0 ≤ (x10_1 : Int) := of_decide_eq_true (by first | (with_reducible assumption) | assumption)
                      have q840 : x10_1 < (t836.length : Int) := of_decide_eq_true (by first | (with_reducible assumption) | assumption)
                      obtain ⟨ad840, e840, hx840_0, hx840_1⟩ := at_TA2int (Kd.R_reads' HO_7.out).2.2 x10_1 p840 q840
                      cases e840
                      replace p840 := eq_true p840
                      replace q840 := eq_true q840
                      have p841 : 0 ≤ (((rd_TA2int t836 x10_1).f0) : Int) := of_decide_eq_true (by first | (with_reducible assumption) | assumption)
                      have q841 : ((rd_TA2int t836 x10_1).f0) < (l1.length : Int) := of_decide_eq_true (by first | (with_reducible assumption) | assumption)
                      obtain ⟨ad841, e841, hx841_0, hx841_1, hx841_2, hx841_3, hx841_4, hx841_5, hx841_6⟩ := at_TimplLoan HR1.out ((rd_TA2int t836 x10_1).f0) p841 q841
                      have hw841_6 := hx841_6
                      have hw841_5 := hx841_5
                      have hw841_4 := hx841_4
                      have hw841_3 := hx841_3
                      have hw841_2 := hx841_2
                      have hw841_1 := hx841_1
                      have hw841_0 := hx841_0
                      cases e841
                      replace hx841_0 := (HB.out.cell (World.block_lt_of_cell? w _ hx841_0)).trans hx841_0
                      replace hx841_1 := (HB.out.cell (World.block_lt_of_cell? w _ hx841_1)).trans hx841_1
                      replace hx841_2 := (HB.out.cell (World.block_lt_of_cell? w _ hx841_2)).trans hx841_2
                      replace hx841_3 := (HB.out.cell (World.block_lt_of_cell? w _ hx841_3)).trans hx841_3
                      replace hx841_4 := (HB.out.cell (World.block_lt_of_cell? w _ hx841_4)).trans hx841_4
                      replace hx841_5 := (HB.out.cell (World.block_lt_of_cell? w _ hx841_5)).trans hx841_5
                      replace hx841_6 := (HB.out.cell (World.block_lt_of_cell? w _ hx841_6)).trans hx841_6
                      replace p841 := eq_true p841
                      replace q841 := eq_true q841
                      have p842 : 0 ≤ (x10_1 : Int) := of_decide_eq_true (by first | (with_reducible assumption) | assumption)
                      have q842 : x10_1 < (t836.length : Int) := of_decide_eq_true (by first | (with_reducible assumption) | assumption)
                      obtain ⟨ad842, e842, hx842_0, hx842_1⟩ := at_TA2int (Kd.R_reads' HO_7.out).2.2 x10_1 p842 q842
                      obtain rfl : ad840 = ad842 := (by injection e842)
                      replace p842 := eq_true p842
                      replace q842 := eq_true q842
                      have p843 : 0 ≤ (((rd_TA2int t836 x10_1).f1) : Int) := of_decide_eq_true (by first | (with_reducible assumption) | assumption)
                      have q843 : ((rd_TA2int t836 x10_1).f1) < (l1.length : Int) := of_decide_eq_true (by first | (with_reducible assumption) | assumption)
                      obtain ⟨ad843, e843, hx843_0, hx843_1, hx843_2, hx843_3, hx843_4, hx843_5, hx843_6⟩ := at_TimplLoan HR1.out ((rd_TA2int t836 x10_1).f1) p843 q843
                      have hw843_6 := hx843_6
                      have hw843_5 := hx843_5
                      have hw843_4 := hx843_4
                      have hw843_3 := hx843_3
                      have hw843_2 := hx843_2
                      have hw843_1 := hx843_1
                      have hw843_0 := hx843_0
                      obtain rfl : ad841 = ad843 := (by injection e843)
                      replace hx843_0 := (HB.out.cell (World.block_lt_of_cell? w _ hx843_0)).trans hx843_0
                      replace hx843_1 := (HB.out.cell (World.block_lt_of_cell? w _ hx843_1)).trans hx843_1
                      replace hx843_2 := (HB.out.cell (World.block_lt_of_cell? w _ hx843_2)).trans hx843_2
                      replace hx843_3 := (HB.out.cell (World.block_lt_of_cell? w _ hx843_3)).trans hx843_3
                      replace hx843_4 := (HB.out.cell (World.block_lt_of_cell? w _ hx843_4)).trans hx843_4
                      replace hx843_5 := (HB.out.cell (World.block_lt_of_cell? w _ hx843_5)).trans hx843_5
                      replace hx843_6 := (HB.out.cell (World.block_lt_of_cell? w _ hx843_6)).trans hx843_6
                      replace p843 := eq_true p843
                      replace q843 := eq_true q843
                      refine start_ (n := 18) (S := fun w' => w'.cell? (ad840.add ((x10_1).toNat * 2)) = some (.int .i64 ((rd_TA2int t836 x10_1).f0)) ∧ w'.cell? ⟨(ad840.add ((x10_1).toNat * 2)).block, (ad840.add ((x10_1).toNat * 2)).off + 1, none⟩ = some (.int .i64 ((rd_TA2int t836 x10_1).f1)) ∧ w'.cell? (ad841.add ((((rd_TA2int t836 x10_1).f0)).toNat * 7)) = some (.int .i64 ((rd_TimplLoan l1 ((rd_TA2int t836 x10_1).f0)).f0.f0)) ∧ w'.cell? ⟨(ad841.add ((((rd_TA2int t836 x10_1).f0)).toNat * 7)).block, (ad841.add ((((rd_TA2int t836 x10_1).f0)).toNat * 7)).off + 1, none⟩ = some (.int .i64 ((rd_TimplLoan l1 ((rd_TA2int t836 x10_1).f0)).f0.f1)) ∧ w'.cell? ⟨(ad841.add ((((rd_TA2int t836 x10_1).f0)).toNat * 7)).block, (ad841.add ((((rd_TA2int t836 x10_1).f0)).toNat * 7)).off + 2, none⟩ = some (.int .i64 ((rd_TimplLoan l1 ((rd_TA2int t836 x10_1).f0)).f0.f2)) ∧ w'.cell? ⟨(ad841.add ((((rd_TA2int t836 x10_1).f0)).toNat * 7)).block, (ad841.add ((((rd_TA2int t836 x10_1).f0)).toNat * 7)).off + 3, none⟩ = some (.int .i64 ((rd_TimplLoan l1 ((rd_TA2int t836 x10_1).f0)).f0.f3)) ∧ w'.cell? ⟨(ad841.add ((((rd_TA2int t836 x10_1).f0)).toNat * 7)).block, (ad841.add ((((rd_TA2int t836 x10_1).f0)).toNat * 7)).off + 4, none⟩ = some (.bool ((rd_TimplLoan l1 ((rd_TA2int t836 x10_1).f0)).f1)) ∧ w'.cell? ⟨(ad841.add ((((rd_TA2int t836 x10_1).f0)).toNat * 7)).block, (ad841.add ((((rd_TA2int t836 x10_1).f0)).toNat * 7)).off + 5, none⟩ = some (.int .i64 ((rd_TimplLoan l1 ((rd_TA2int t836 x10_1).f0)).f2)) ∧ w'.cell? ⟨(ad841.add ((((rd_TA2int t836 x10_1).f0)).toNat * 7)).block, (ad841.add ((((rd_TA2int t836 x10_1).f0)).toNat * 7)).off + 6, none⟩ = some (.int .i64 ((rd_TimplLoan l1 ((rd_TA2int t836 x10_1).f0)).f3)) ∧ w'.cell? (ad840.add ((x10_1).toNat * 2)) = some (.int .i64 ((rd_TA2int t836 x10_1).f0)) ∧ w'.cell? ⟨(ad840.add ((x10_1).toNat * 2)).block, (ad840.add ((x10_1).toNat * 2)).off + 1, none⟩ = some (.int .i64 ((rd_TA2int t836 x10_1).f1)) ∧ w'.cell? (ad841.add ((((rd_TA2int t836 x10_1).f1)).toNat * 7)) = some (.int .i64 ((rd_TimplLoan l1 ((rd_TA2int t836 x10_1).f1)).f0.f0)) ∧ w'.cell? ⟨(ad841.add ((((rd_TA2int t836 x10_1).f1)).toNat * 7)).block, (ad841.add ((((rd_TA2int t836 x10_1).f1)).toNat * 7)).off + 1, none⟩ = some (.int .i64 ((rd_TimplLoan l1 ((rd_TA2int t836 x10_1).f1)).f0.f1)) ∧ w'.cell? ⟨(ad841.add ((((rd_TA2int t836 x10_1).f1)).toNat * 7)).block, (ad841.add ((((rd_TA2int t836 x10_1).f1)).toNat * 7)).off + 2, none⟩ = some (.int .i64 ((rd_TimplLoan l1 ((rd_TA2int t836 x10_1).f1)).f0.f2)) ∧ w'.cell? ⟨(ad841.add ((((rd_TA2int t836 x10_1).f1)).toNat * 7)).block, (ad841.add ((((rd_TA2int t836 x10_1).f1)).toNat * 7)).off + 3, none⟩ = some (.int .i64 ((rd_TimplLoan l1 ((rd_TA2int t836 x10_1).f1)).f0.f3)) ∧ w'.cell? ⟨(ad841.add ((((rd_TA2int t836 x10_1).f1)).toNat * 7)).block, (ad841.add ((((rd_TA2int t836 x10_1).f1)).toNat * 7)).off + 4, none⟩ = some (.bool ((rd_TimplLoan l1 ((rd_TA2int t836 x10_1).f1)).f1)) ∧ w'.cell? ⟨(ad841.add ((((rd_TA2int t836 x10_1).f1)).toNat * 7)).block, (ad841.add ((((rd_TA2int t836 x10_1).f1)).toNat * 7)).off + 5, none⟩ = some (.int .i64 ((rd_TimplLoan l1 ((rd_TA2int t836 x10_1).f1)).f2)) ∧ w'.cell? ⟨(ad841.add ((((rd_TA2int t836 x10_1).f1)).toNat * 7)).block, (ad841.add ((((rd_TA2int t836 x10_1).f1)).toNat * 7)).off + 6, none⟩ = some (.int .i64 ((rd_TimplLoan l1 ((rd_TA2int t836 x10_1).f1)).f3))) (ds := []) #[false, false, false, false, false, false, false, false, false, false, false, false, false, false, false, false, false, false] (by kernel_rfl) rfl rfl ⟨hx840_0, hx840_1, (by have h_ := ((HB.out.cell (World.block_lt_of_cell? w _ hw841_0)).trans hw841_0); first | exact h_ | (simp only [*] at h_; exact h_) | simpa [*] using h_), (by have h_ := ((HB.out.cell (World.block_lt_of_cell? w _ hw841_1)).trans hw841_1); first | exact h_ | (simp only [*] at h_; exact h_) | simpa [*] using h_), (by have h_ := ((HB.out.cell (World.block_lt_of_cell? w _ hw841_2)).trans hw841_2); first | exact h_ | (simp only [*] at h_; exact h_) | simpa [*] using h_), (by have h_ := ((HB.out.cell (World.block_lt_of_cell? w _ hw841_3)).trans hw841_3); first | exact h_ | (simp only [*] at h_; exact h_) | simpa [*] using h_), (by have h_ := ((HB.out.cell (World.block_lt_of_cell? w _ hw841_4)).trans hw841_4); first | exact h_ | (simp only [*] at h_; exact h_) | simpa [*] using h_), (by have h_ := ((HB.out.cell (World.block_lt_of_cell? w _ hw841_5)).trans hw841_5); first | exact h_ | (simp only [*] at h_; exact h_) | simpa [*] using h_), (by have h_ := ((HB.out.cell (World.block_lt_of_cell? w _ hw841_6)).trans hw841_6); first | exact h_ | (simp only [*] at h_; exact h_) | simpa [*] using h_), hx842_0, hx842_1, (by have h_ := ((HB.out.cell (World.block_lt_of_cell? w _ hw843_0)).trans hw843_0); first | exact h_ | (simp only [*] at h_; exact h_) | simpa [*] using h_), (by have h_ := ((HB.out.cell (World.block_lt_of_cell? w _ hw843_1)).trans hw843_1); first | exact h_ | (simp only [*] at h_; exact h_) | simpa [*] using h_), (by have h_ := ((HB.out.cell (World.block_lt_of_cell? w _ hw843_2)).trans hw843_2); first | exact h_ | (simp only [*] at h_; exact h_) | simpa [*] using h_), (by have h_ := ((HB.out.cell (World.block_lt_of_cell? w _ hw843_3)).trans hw843_3); first | exact h_ | (simp only [*] at h_; exact h_) | simpa [*] using h_), (by have h_ := ((HB.out.cell (World.block_lt_of_cell? w _ hw843_4)).trans hw843_4); first | exact h_ | (simp only [*] at h_; exact h_) | simpa [*] using h_), (by have h_ := ((HB.out.cell (World.block_lt_of_cell? w _ hw843_5)).trans hw843_5); first | exact h_ | (simp only [*] at h_; exact h_) | simpa [*] using h_), (by have h_ := ((HB.out.cell (World.block_lt_of_cell? w _ hw843_6)).trans hw843_6); first | exact h_ | (simp only [*] at h_; exact h_) | simpa [*] using h_)⟩ (fun hHeld => ?_); refine with_tabW spec_FirstClash.tab7 spec_FirstClash.bits7 (fun HT_ HW_ => ?_)
                      generalize wr.drew = w25 at HO_7 BK833 BK834 BK839 HB hx840_0 hx840_1 hx841_0 hx841_1 hx841_2 hx841_3 hx841_4 hx841_5 hx841_6 hx842_0 hx842_1 hx843_0 hx843_1 hx843_2 hx843_3 hx843_4 hx843_5 hx843_6 hHeld ⊢
                      refine pure_ (i := 0) (N := some 26) (v := ?_) (a' := ?_) #[true, false, false, false, false, false, false, false, false, false, false, false, false, false, false, false, false, false] rfl rfl (any_of HT_.out (by kernel_rfl)) (fun _ _ _ h => h) (Or.inl ⟨by rfl, ?_⟩) ?_ ?_
                      rotate_left
                      · intro w'
                        go_simp
                        with_reducible rfl
                      rotate_left
                      · simp only [Act.put, List.setIfInBounds_toArray, List.set_cons_zero, List.set_cons_succ, i64_w, i32_w]
                        rfl
                      refine pure_ (i := 1) (N := some 27) (v := ?_) (a' := ?_) #[true, true, false, false, false, false, false, false, false, false, false, false, false, false, false, false, false, false] rfl rfl (any_of HT_.out (by kernel_rfl)) (fun _ _ _ h => h) (Or.inl ⟨by rfl, ?_⟩) ?_ ?_
                      rotate_left
                      · intro w'
                        go_simp
                        with_reducible rfl
                      rotate_left
                      · simp only [Act.put, List.setIfInBounds_toArray, List.set_cons_zero, List.set_cons_succ, i64_w, i32_w]
                        rfl
                      refine pure_ (i := 2) (N := some 28) (v := ?_) (a' := ?_) #[true, true, true, false, false, false, false, false, false, false, false, false, false, false, false, false, false, false] rfl rfl (any_of HT_.out (by kernel_rfl)) (fun _ _ _ h => h) (Or.inl ⟨by rfl, ?_⟩) ?_ ?_
                      rotate_left
                      · intro w'
                        go_simp
                        with_reducible rfl
                      rotate_left
                      · simp only [Act.put, List.setIfInBounds_toArray, List.set_cons_zero, List.set_cons_succ, i64_w, i32_w]
                        rfl
                      refine pure_ (i := 3) (N := some 29) (v := ?_) (a' := ?_) #[true, true, true, true, false, false, false, false, false, false, false, false, false, false, false, false, false, false] rfl rfl (any_of HT_.out (by kernel_rfl)) (fun _ _ _ h => h) (Or.inl ⟨by rfl, ?_⟩) ?_ ?_
                      rotate_left
                      · intro w'
                        go_simp
                        with_reducible rfl
                      rotate_left
                      · simp only [Act.put, List.setIfInBounds_toArray, List.set_cons_zero, List.set_cons_succ, i64_w, i32_w]
                        rfl
                      refine pure_ (i := 4) (N := some 30) (v := ?_) (a' := ?_) #[true, true, true, true, true, false, false, false, false, false, false, false, false, false, false, false, false, false] rfl rfl (any_of HT_.out (by kernel_rfl)) (fun _ _ _ h => h) (Or.inl ⟨by rfl, ?_⟩) ?_ ?_
                      rotate_left
                      · intro w'
                        go_simp
                        with_reducible rfl
                      rotate_left
                      · simp only [Act.put, List.setIfInBounds_toArray, List.set_cons_zero, List.set_cons_succ, i64_w, i32_w]
                        rfl
                      refine pure_ (i := 8) (N := some 34) (v := ?_) (a' := ?_) #[true, true, true, true, true, false, false, false, true, false, false, false, false, false, false, false, false, false] rfl rfl (any_of HT_.out (by kernel_rfl)) (fun _ _ _ h => h) (Or.inl ⟨by rfl, ?_⟩) ?_ ?_
                      rotate_left
                      · intro w'
                        go_simp
                        with_reducible rfl
                      rotate_left
                      · simp only [Act.put, List.setIfInBounds_toArray, List.set_cons_zero, List.set_cons_succ, i64_w, i32_w]
                        rfl
                      refine pure_ (i := 9) (N := some 35) (v := ?_) (a' := ?_) #[true, true, true, true, true, false, false, false, true, true, false, false, false, false, false, false, false, false] rfl rfl (any_of HT_.out (by kernel_rfl)) (fun _ _ _ h => h) (Or.inl ⟨by rfl, ?_⟩) ?_ ?_
                      rotate_left
                      · intro w'
                        go_simp
                        with_reducible rfl
                      rotate_left
                      · simp only [Act.put, List.setIfInBounds_toArray, List.set_cons_zero, List.set_cons_succ, i64_w, i32_w]
                        rfl
                      refine pure_ (i := 10) (N := some 36) (v := ?_) (a' := ?_) #[true, true, true, true, true, false, false, false, true, true, true, false, false, false, false, false, false, false] rfl rfl (any_of HT_.out (by kernel_rfl)) (fun _ _ _ h => h) (Or.inl ⟨by rfl, ?_⟩) ?_ ?_
                      rotate_left
                      · intro w'
                        go_simp
                        with_reducible rfl
                      rotate_left
                      · simp only [Act.put, List.setIfInBounds_toArray, List.set_cons_zero, List.set_cons_succ, i64_w, i32_w]
                        rfl
                      refine pure_ (i := 11) (N := some 37) (v := ?_) (a' := ?_) #[true, true, true, true, true, false, false, false, true, true, true, true, false, false, false, false, false, false] rfl rfl (any_of HT_.out (by kernel_rfl)) (fun _ _ _ h => h) (Or.inl ⟨by rfl, ?_⟩) ?_ ?_
                      rotate_left
                      · intro w'
                        go_simp
                        with_reducible rfl
                      rotate_left
                      · simp only [Act.put, List.setIfInBounds_toArray, List.set_cons_zero, List.set_cons_succ, i64_w, i32_w]
                        rfl
                      refine pure_ (i := 12) (N := some 38) (v := ?_) (a' := ?_) #[true, true, true, true, true, false, false, false, true, true, true, true, true, false, false, false, false, false] rfl rfl (any_of HT_.out (by kernel_rfl)) (fun _ _ _ h => h) (Or.inl ⟨by rfl, ?_⟩) ?_ ?_
                      rotate_left
                      · intro w'
                        go_simp
                        with_reducible rfl
                      rotate_left
                      · simp only [Act.put, List.setIfInBounds_toArray, List.set_cons_zero, List.set_cons_succ, i64_w, i32_w]
                        rfl
                      refine take_ (i := 5) (N := some 31) (v := ?_) (a' := ?_) #[true, true, true, true, true, true, false, false, true, true, true, true, true, false, false, false, false, false] rfl rfl (take_ofW HT_.out HW_.out (by kernel_rfl)) (fun _ _ _ h => h) (Or.inl ⟨by rfl, ?_⟩) hHeld ?_ ?_
                      rotate_left
                      · rintro w' ⟨s0, s1, s2, s3, s4, s5, s6, s7, s8, s9, s10, s11, s12, s13, s14, s15, s16, s17⟩
                        go_simp
                        with_reducible rfl
                      rotate_left
                      · simp only [Act.put, List.setIfInBounds_toArray, List.set_cons_zero, List.set_cons_succ, i64_w, i32_w]
                        rfl
                      refine pure_ (i := 6) (N := some 32) (v := ?_) (a' := ?_) #[true, true, true, true, true, true, true, false, true, true, true, true, true, false, false, false, false, false] rfl rfl (any_of HT_.out (by kernel_rfl)) (fun _ _ _ h => h) (Or.inl ⟨by rfl, ?_⟩) ?_ ?_
                      rotate_left
                      · intro w'
                        go_simp
                        with_reducible rfl
                      rotate_left
                      · simp only [Act.put, List.setIfInBounds_toArray, List.set_cons_zero, List.set_cons_succ, i64_w, i32_w]
                        rfl
                      refine take_ (i := 7) (N := some 33) (v := ?_) (a' := ?_) #[true, true, true, true, true, true, true, true, true, true, true, true, true, false, false, false, false, false] rfl rfl (take_ofW HT_.out HW_.out (by kernel_rfl)) (fun _ _ _ h => h) (Or.inl ⟨by rfl, ?_⟩) hHeld ?_ ?_
                      rotate_left
                      · rintro w' ⟨s0, s1, s2, s3, s4, s5, s6, s7, s8, s9, s10, s11, s12, s13, s14, s15, s16, s17⟩
                        go_simp
                        with_reducible rfl
                      rotate_left
                      · simp only [Act.put, List.setIfInBounds_toArray, List.set_cons_zero, List.set_cons_succ, i64_w, i32_w]
                        rfl
                      refine take_ (i := 13) (N := some 39) (v := ?_) (a' := ?_) #[true, true, true, true, true, true, true, true, true, true, true, true, true, true, false, false, false, false] rfl rfl (take_ofW HT_.out HW_.out (by kernel_rfl)) (fun _ _ _ h => h) (Or.inl ⟨by rfl, ?_⟩) hHeld ?_ ?_
                      rotate_left
                      · rintro w' ⟨s0, s1, s2, s3, s4, s5, s6, s7, s8, s9, s10, s11, s12, s13, s14, s15, s16, s17⟩
                        go_simp
                        with_reducible rfl
                      rotate_left
                      · simp only [Act.put, List.setIfInBounds_toArray, List.set_cons_zero, List.set_cons_succ, i64_w, i32_w]
                        rfl
                      refine pure_ (i := 14) (N := some 40) (v := ?_) (a' := ?_) #[true, true, true, true, true, true, true, true, true, true, true, true, true, true, true, false, false, false] rfl rfl (any_of HT_.out (by kernel_rfl)) (fun _ _ _ h => h) (Or.inl ⟨by rfl, ?_⟩) ?_ ?_
                      rotate_left
                      · intro w'
                        go_simp
                        with_reducible rfl
                      rotate_left
                      · simp only [Act.put, List.setIfInBounds_toArray, List.set_cons_zero, List.set_cons_succ, i64_w, i32_w]
                        rfl
                      refine take_ (i := 15) (N := some 41) (v := ?_) (a' := ?_) #[true, true, true, true, true, true, true, true, true, true, true, true, true, true, true, true, false, false] rfl rfl (take_ofW HT_.out HW_.out (by kernel_rfl)) (fun _ _ _ h => h) (Or.inl ⟨by rfl, ?_⟩) hHeld ?_ ?_
                      rotate_left
                      · rintro w' ⟨s0, s1, s2, s3, s4, s5, s6, s7, s8, s9, s10, s11, s12, s13, s14, s15, s16, s17⟩
                        go_simp
                        with_reducible rfl
                      rotate_left
                      · simp only [Act.put, List.setIfInBounds_toArray, List.set_cons_zero, List.set_cons_succ, i64_w, i32_w]
                        rfl
                      refine one_ (i := 16) (N := some 42) #[true, true, true, true, true, true, true, true, true, true, true, true, true, true, true, true, true, false] rfl rfl (one_of HT_.out (by kernel_rfl)) (by decide) (fun K hK => ?_)
                      refine goes_ Try.func98 (by kernel_rfl) rfl #[.agg #[.int .i64 ((rd_TimplLoan l1 ((rd_TA2int t836 x10_1).f0)).f0.f0), .int .i64 ((rd_TimplLoan l1 ((rd_TA2int t836 x10_1).f0)).f0.f1), .int .i64 ((rd_TimplLoan l1 ((rd_TA2int t836 x10_1).f0)).f0.f2), .int .i64 ((rd_TimplLoan l1 ((rd_TA2int t836 x10_1).f0)).f0.f3), .bool ((rd_TimplLoan l1 ((rd_TA2int t836 x10_1).f0)).f1), .int .i64 ((rd_TimplLoan l1 ((rd_TA2int t836 x10_1).f0)).f2), .int .i64 ((rd_TimplLoan l1 ((rd_TA2int t836 x10_1).f0)).f3)], .agg #[.int .i64 ((rd_TimplLoan l1 ((rd_TA2int t836 x10_1).f1)).f0.f0), .int .i64 ((rd_TimplLoan l1 ((rd_TA2int t836 x10_1).f1)).f0.f1), .int .i64 ((rd_TimplLoan l1 ((rd_TA2int t836 x10_1).f1)).f0.f2), .int .i64 ((rd_TimplLoan l1 ((rd_TA2int t836 x10_1).f1)).f0.f3), .bool ((rd_TimplLoan l1 ((rd_TA2int t836 x10_1).f1)).f1), .int .i64 ((rd_TimplLoan l1 ((rd_TA2int t836 x10_1).f1)).f2), .int .i64 ((rd_TimplLoan l1 ((rd_TA2int t836 x10_1).f1)).f3)]] (by rfl) rfl rfl (by (try simp only [List.map_toArray, List.map_cons, List.map_nil]); first | done | rfl | (simp only [List.length_drop, List.length_take]; rfl)) ?_
                      with_reducible refine (spec_l10Clash.calls ((rd_TimplLoan l1 ((rd_TA2int t836 x10_1).f0)).f0.f0) ((rd_TimplLoan l1 ((rd_TA2int t836 x10_1).f0)).f0.f1) ((rd_TimplLoan l1 ((rd_TA2int t836 x10_1).f0)).f0.f2) ((rd_TimplLoan l1 ((rd_TA2int t836 x10_1).f0)).f0.f3) ((rd_TimplLoan l1 ((rd_TA2int t836 x10_1).f0)).f1) ((rd_TimplLoan l1 ((rd_TA2int t836 x10_1).f0)).f2) ((rd_TimplLoan l1 ((rd_TA2int t836 x10_1).f0)).f3) ((rd_TimplLoan l1 ((rd_TA2int t836 x10_1).f1)).f0.f0) ((rd_TimplLoan l1 ((rd_TA2int t836 x10_1).f1)).f0.f1) ((rd_TimplLoan l1 ((rd_TA2int t836 x10_1).f1)).f0.f2) ((rd_TimplLoan l1 ((rd_TA2int t836 x10_1).f1)).f0.f3) ((rd_TimplLoan l1 ((rd_TA2int t836 x10_1).f1)).f1) ((rd_TimplLoan l1 ((rd_TA2int t836 x10_1).f1)).f2) ((rd_TimplLoan l1 ((rd_TA2int t836 x10_1).f1)).f3) t844 _ A22.out).mono ?_
                      rintro e w26 ⟨rfl, hb⟩
                      have HS0_ := (hb.cell (World.block_lt_of_cell? _ _ (hHeld.1))).trans (hHeld.1)
                      have HS1_ := (hb.cell (World.block_lt_of_cell? _ _ (hHeld.2.1))).trans (hHeld.2.1)
                      have HS9_ := (hb.cell (World.block_lt_of_cell? _ _ (hHeld.2.2.2.2.2.2.2.2.2.1))).trans (hHeld.2.2.2.2.2.2.2.2.2.1)
                      have HS10_ := (hb.cell (World.block_lt_of_cell? _ _ (hHeld.2.2.2.2.2.2.2.2.2.2.1))).trans (hHeld.2.2.2.2.2.2.2.2.2.2.1)
                      refine ⟨_, rfl, ?_⟩
                      have n0_ := Aside0.mk (Kd.R_below (by (with_reducible repeat (first | apply Kd.R_alloc | apply Kd.R_drewN | apply Kd.R_drew)); exact HO_7.out) hb)
                      have n1_ := Aside0.mk (blk_below (g := gb833) (o := .cells #[.slice A0_0 l0_0.length c0_0] 26 (0, 0)) (by (with_reducible repeat (first | refine blk_drewN ?_ _ | refine blk_drew ?_ | refine blk_alloc ?_ _)); exact BK833.out) hb)
                      have n2_ := Aside0.mk (blk_below (g := gb834) (o := .cells #[.int .i64 0, .int .i64 0] 75 (0, 0)) (by (with_reducible repeat (first | refine blk_drewN ?_ _ | refine blk_drew ?_ | refine blk_alloc ?_ _)); exact BK834.out) hb)
                      have n3_ := Aside0.mk (blk_below (g := gb839) (o := .cells #[.int .i64 x840000_1, .int .i64 x840001_1] 75 (0, 0)) (by (with_reducible repeat (first | refine blk_drewN ?_ _ | refine blk_drew ?_ | refine blk_alloc ?_ _)); exact BK839.out) hb)
                      have n4_ := Aside0.mk (below_step (by repeat (first | (with_reducible first | exact HB.out | apply below_alloc | apply pw_below_drewN | apply below_drew1 | refine below_set ?_ GE833.out | refine below_set ?_ GE834.out | refine below_set ?_ GE839.out) | exact HB.out)) hb)
                      clear HO_7
                      clear BK833
                      clear BK834
                      clear BK839
                      clear HB
                      have HO_7 := n0_
                      have BK833 := n1_
                      have BK834 := n2_
                      have BK839 := n3_
                      have HB := n4_
                      clear n0_ n1_ n2_ n3_ n4_
                      (try clear hb)
                      (try clear hb2)
                      (try clear hk)
                      (try clear hi)
                      refine hK.out _ _ ⟨HS0_, HS1_, (by have h_ := ((HB.out.cell (World.block_lt_of_cell? w _ hw841_0)).trans hw841_0); first | exact h_ | (simp only [*] at h_; exact h_) | simpa [*] using h_), (by have h_ := ((HB.out.cell (World.block_lt_of_cell? w _ hw841_1)).trans hw841_1); first | exact h_ | (simp only [*] at h_; exact h_) | simpa [*] using h_), (by have h_ := ((HB.out.cell (World.block_lt_of_cell? w _ hw841_2)).trans hw841_2); first | exact h_ | (simp only [*] at h_; exact h_) | simpa [*] using h_), (by have h_ := ((HB.out.cell (World.block_lt_of_cell? w _ hw841_3)).trans hw841_3); first | exact h_ | (simp only [*] at h_; exact h_) | simpa [*] using h_), (by have h_ := ((HB.out.cell (World.block_lt_of_cell? w _ hw841_4)).trans hw841_4); first | exact h_ | (simp only [*] at h_; exact h_) | simpa [*] using h_), (by have h_ := ((HB.out.cell (World.block_lt_of_cell? w _ hw841_5)).trans hw841_5); first | exact h_ | (simp only [*] at h_; exact h_) | simpa [*] using h_), (by have h_ := ((HB.out.cell (World.block_lt_of_cell? w _ hw841_6)).trans hw841_6); first | exact h_ | (simp only [*] at h_; exact h_) | simpa [*] using h_), HS9_, HS10_, (by have h_ := ((HB.out.cell (World.block_lt_of_cell? w _ hw843_0)).trans hw843_0); first | exact h_ | (simp only [*] at h_; exact h_) | simpa [*] using h_), (by have h_ := ((HB.out.cell (World.block_lt_of_cell? w _ hw843_1)).trans hw843_1); first | exact h_ | (simp only [*] at h_; exact h_) | simpa [*] using h_), (by have h_ := ((HB.out.cell (World.block_lt_of_cell? w _ hw843_2)).trans hw843_2); first | exact h_ | (simp only [*] at h_; exact h_) | simpa [*] using h_), (by have h_ := ((HB.out.cell (World.block_lt_of_cell? w _ hw843_3)).trans hw843_3); first | exact h_ | (simp only [*] at h_; exact h_) | simpa [*] using h_), (by have h_ := ((HB.out.cell (World.block_lt_of_cell? w _ hw843_4)).trans hw843_4); first | exact h_ | (simp only [*] at h_; exact h_) | simpa [*] using h_), (by have h_ := ((HB.out.cell (World.block_lt_of_cell? w _ hw843_5)).trans hw843_5); first | exact h_ | (simp only [*] at h_; exact h_) | simpa [*] using h_), (by have h_ := ((HB.out.cell (World.block_lt_of_cell? w _ hw843_6)).trans hw843_6); first | exact h_ | (simp only [*] at h_; exact h_) | simpa [*] using h_)⟩ (fun hHeld => ?_)
                      clear hK K
                      refine norm_ (a' := ?_) ?_ ?_
                      rotate_left
                      · show Act.put _ (some 42) _ = _
                        simp only [Act.put, List.setIfInBounds_toArray, List.set_cons_zero, List.set_cons_succ, i64_w, i32_w]
                        rfl
                      refine pure_ (i := 17) (N := some 11) (v := ?_) (a' := ?_) #[true, true, true, true, true, true, true, true, true, true, true, true, true, true, true, true, true, true] rfl rfl (any_of HT_.out (by kernel_rfl)) (fun _ _ _ h => h) (Or.inl ⟨by rfl, ?_⟩) ?_ ?_
                      rotate_left
                      · intro w'
                        go_simp
                        with_reducible rfl
                      rotate_left
                      · simp only [Act.put, List.setIfInBounds_toArray, List.set_cons_zero, List.set_cons_succ, i64_w, i32_w]
                        rfl
                      refine done_ (done_of HT_.out (by kernel_rfl)) ?_
                      have p845 : 0 ≤ (x10_1 : Int) := of_decide_eq_true (by first | (with_reducible assumption) | assumption)
                      have q845 : x10_1 < (t836.length : Int) := of_decide_eq_true (by first | (with_reducible assumption) | assumption)
                      obtain ⟨ad845, e845, hx845_0, hx845_1⟩ := at_TA2int (Kd.R_reads' HO_7.out).2.2 x10_1 p845 q845
                      obtain rfl : ad840 = ad845 := (by injection e845)
                      replace p845 := eq_true p845
                      replace q845 := eq_true q845
                      have hnb27 := NB839_833.out
                      have hnc27 := NB833_839.out
                      have hnb28 := NB839_834.out
                      have hnc28 := NB834_839.out
                      have hcz29_0 : w26.cell? ⟨gb839, 0, none⟩ = some (.int .i64 x840000_1) := (blk_cell BK839.out 0).trans rfl
                      have hcz29_1 : w26.cell? ⟨gb839, 1, none⟩ = some (.int .i64 x840001_1) := (blk_cell BK839.out 1).trans rfl
                      have hfz29_0 := blk_frozen BK839.out 0
                      have hfz29_1 := blk_frozen BK839.out 1
                      try go_wp2
                      go_roundg k1
                      case measure => have := HK1.out; omega
                      case rel => exact ⟨(t844), (wrap64 (x10_1 + 1)), ((rd_TA2int t836 x10_1).f0), ((rd_TA2int t836 x10_1).f1), (by first | rfl | (simp; done) | (simp [*]; done)), (by first | rfl | (simp; done) | (simp [*]; done)), H', ⟨by have := HK1.out; omega⟩, ⟨by (with_reducible repeat (first | apply Kd.R_alloc | apply Kd.R_drewN | apply Kd.R_drew)); exact Kd.R_mono (Kd.R_far (p := ⟨gb839, 1, none⟩) (Kd.R_far (p := ⟨gb839, 0, none⟩) (Kd.R_mono HO_7.out (fun k_ hk => (⟨hk, hk.2⟩ : _ ∧ k_ ≠ gb839))) (fun _ hk => hk.2) (.int .i64 ((rd_TA2int t836 x10_1).f0))) (fun _ hk => hk.2) (.int .i64 ((rd_TA2int t836 x10_1).f1))) (fun _ hk => ⟨hk.1.1, hk.1.2⟩)⟩, ⟨by (with_reducible repeat (first | refine blk_drewN ?_ _ | refine blk_drew ?_ | refine blk_alloc ?_ _)); refine blk_far ?_ NB833_839.out _; (with_reducible repeat (first | refine blk_drewN ?_ _ | refine blk_drew ?_ | refine blk_alloc ?_ _)); refine blk_far ?_ NB833_839.out _; (with_reducible repeat (first | refine blk_drewN ?_ _ | refine blk_drew ?_ | refine blk_alloc ?_ _)); exact BK833.out⟩, ⟨by (with_reducible repeat (first | refine blk_drewN ?_ _ | refine blk_drew ?_ | refine blk_alloc ?_ _)); refine blk_far ?_ NB834_839.out _; (with_reducible repeat (first | refine blk_drewN ?_ _ | refine blk_drew ?_ | refine blk_alloc ?_ _)); refine blk_far ?_ NB834_839.out _; (with_reducible repeat (first | refine blk_drewN ?_ _ | refine blk_drew ?_ | refine blk_alloc ?_ _)); exact BK834.out⟩, ⟨by (with_reducible repeat (first | refine blk_drewN ?_ _ | refine blk_drew ?_ | refine blk_alloc ?_ _)); refine blk_put (cs := #[.int .i64 ((rd_TA2int t836 x10_1).f0), .int .i64 x840001_1]) ?_ 1 _ rfl; (with_reducible repeat (first | refine blk_drewN ?_ _ | refine blk_drew ?_ | refine blk_alloc ?_ _)); refine blk_put (cs := #[.int .i64 x840000_1, .int .i64 x840001_1]) ?_ 0 _ rfl; (with_reducible repeat (first | refine blk_drewN ?_ _ | refine blk_drew ?_ | refine blk_alloc ?_ _)); exact BK839.out⟩, ⟨by repeat (first | (with_reducible first | exact HB.out | apply below_alloc | apply pw_below_drewN | apply below_drew1 | refine below_set ?_ GE833.out | refine below_set ?_ GE834.out | refine below_set ?_ GE839.out) | exact HB.out)⟩⟩
                    · rw [if_neg c23] at H
                      have c23b0 : decide (x8_1 < 0) = false := decide_eq_false c23
                      clear c23
                      by_cases c30 : t844 < x8_1
                      · rw [if_pos c30] at H
                        have c30b0 : decide (t844 < x8_1) = true := decide_eq_true c30
                        clear c30
                        have H' := Aside0.mk H
                        clear H
                        obtain ⟨Ao31, co31, eo31⟩ := Kd.R_slice HO_7.out
                        subst eo31
                        try go_wp2
                        have n0_ := Aside0.mk (Kd.R_drew HO_7.out)
                        have n1_ := Aside0.mk (blk_drew BK833.out)
                        have n2_ := Aside0.mk (blk_drew BK834.out)
                        have n3_ := Aside0.mk (blk_drew BK839.out)
                        have n4_ := Aside0.mk (below_drew1 HB.out)
                        clear HO_7
                        clear BK833
                        clear BK834
                        clear BK839
                        clear HB
                        have HO_7 := n0_
                        have BK833 := n1_
                        have BK834 := n2_
                        have BK839 := n3_
                        have HB := n4_
                        clear n0_ n1_ n2_ n3_ n4_
                        have p840 : 0 ≤ (x10_1 : Int) := of_decide_eq_true (by first | (with_reducible assumption) | assumption)
                        have q840 : x10_1 < (t836.length : Int) := of_decide_eq_true (by first | (with_reducible assumption) | assumption)
                        obtain ⟨ad840, e840, hx840_0, hx840_1⟩ := at_TA2int (Kd.R_reads' HO_7.out).2.2 x10_1 p840 q840
                        cases e840
                        replace p840 := eq_true p840
                        replace q840 := eq_true q840
                        have p841 : 0 ≤ (((rd_TA2int t836 x10_1).f0) : Int) := of_decide_eq_true (by first | (with_reducible assumption) | assumption)
                        have q841 : ((rd_TA2int t836 x10_1).f0) < (l1.length : Int) := of_decide_eq_true (by first | (with_reducible assumption) | assumption)
                        obtain ⟨ad841, e841, hx841_0, hx841_1, hx841_2, hx841_3, hx841_4, hx841_5, hx841_6⟩ := at_TimplLoan HR1.out ((rd_TA2int t836 x10_1).f0) p841 q841
                        have hw841_6 := hx841_6
                        have hw841_5 := hx841_5
                        have hw841_4 := hx841_4
                        have hw841_3 := hx841_3
                        have hw841_2 := hx841_2
                        have hw841_1 := hx841_1
                        have hw841_0 := hx841_0
                        cases e841
                        replace hx841_0 := (HB.out.cell (World.block_lt_of_cell? w _ hx841_0)).trans hx841_0
                        replace hx841_1 := (HB.out.cell (World.block_lt_of_cell? w _ hx841_1)).trans hx841_1
                        replace hx841_2 := (HB.out.cell (World.block_lt_of_cell? w _ hx841_2)).trans hx841_2
                        replace hx841_3 := (HB.out.cell (World.block_lt_of_cell? w _ hx841_3)).trans hx841_3
                        replace hx841_4 := (HB.out.cell (World.block_lt_of_cell? w _ hx841_4)).trans hx841_4
                        replace hx841_5 := (HB.out.cell (World.block_lt_of_cell? w _ hx841_5)).trans hx841_5
                        replace hx841_6 := (HB.out.cell (World.block_lt_of_cell? w _ hx841_6)).trans hx841_6
                        replace p841 := eq_true p841
                        replace q841 := eq_true q841
                        have p842 : 0 ≤ (x10_1 : Int) := of_decide_eq_true (by first | (with_reducible assumption) | assumption)
                        have q842 : x10_1 < (t836.length : Int) := of_decide_eq_true (by first | (with_reducible assumption) | assumption)
                        obtain ⟨ad842, e842, hx842_0, hx842_1⟩ := at_TA2int (Kd.R_reads' HO_7.out).2.2 x10_1 p842 q842
                        obtain rfl : ad840 = ad842 := (by injection e842)
                        replace p842 := eq_true p842
                        replace q842 := eq_true q842
                        have p843 : 0 ≤ (((rd_TA2int t836 x10_1).f1) : Int) := of_decide_eq_true (by first | (with_reducible assumption) | assumption)
                        have q843 : ((rd_TA2int t836 x10_1).f1) < (l1.length : Int) := of_decide_eq_true (by first | (with_reducible assumption) | assumption)
                        obtain ⟨ad843, e843, hx843_0, hx843_1, hx843_2, hx843_3, hx843_4, hx843_5, hx843_6⟩ := at_TimplLoan HR1.out ((rd_TA2int t836 x10_1).f1) p843 q843
                        have hw843_6 := hx843_6
                        have hw843_5 := hx843_5
                        have hw843_4 := hx843_4
                        have hw843_3 := hx843_3
                        have hw843_2 := hx843_2
                        have hw843_1 := hx843_1
                        have hw843_0 := hx843_0
                        obtain rfl : ad841 = ad843 := (by injection e843)
                        replace hx843_0 := (HB.out.cell (World.block_lt_of_cell? w _ hx843_0)).trans hx843_0
                        replace hx843_1 := (HB.out.cell (World.block_lt_of_cell? w _ hx843_1)).trans hx843_1
                        replace hx843_2 := (HB.out.cell (World.block_lt_of_cell? w _ hx843_2)).trans hx843_2
                        replace hx843_3 := (HB.out.cell (World.block_lt_of_cell? w _ hx843_3)).trans hx843_3
                        replace hx843_4 := (HB.out.cell (World.block_lt_of_cell? w _ hx843_4)).trans hx843_4
                        replace hx843_5 := (HB.out.cell (World.block_lt_of_cell? w _ hx843_5)).trans hx843_5
                        replace hx843_6 := (HB.out.cell (World.block_lt_of_cell? w _ hx843_6)).trans hx843_6
                        replace p843 := eq_true p843
                        replace q843 := eq_true q843
                        refine start_ (n := 18) (S := fun w' => w'.cell? (ad840.add ((x10_1).toNat * 2)) = some (.int .i64 ((rd_TA2int t836 x10_1).f0)) ∧ w'.cell? ⟨(ad840.add ((x10_1).toNat * 2)).block, (ad840.add ((x10_1).toNat * 2)).off + 1, none⟩ = some (.int .i64 ((rd_TA2int t836 x10_1).f1)) ∧ w'.cell? (ad841.add ((((rd_TA2int t836 x10_1).f0)).toNat * 7)) = some (.int .i64 ((rd_TimplLoan l1 ((rd_TA2int t836 x10_1).f0)).f0.f0)) ∧ w'.cell? ⟨(ad841.add ((((rd_TA2int t836 x10_1).f0)).toNat * 7)).block, (ad841.add ((((rd_TA2int t836 x10_1).f0)).toNat * 7)).off + 1, none⟩ = some (.int .i64 ((rd_TimplLoan l1 ((rd_TA2int t836 x10_1).f0)).f0.f1)) ∧ w'.cell? ⟨(ad841.add ((((rd_TA2int t836 x10_1).f0)).toNat * 7)).block, (ad841.add ((((rd_TA2int t836 x10_1).f0)).toNat * 7)).off + 2, none⟩ = some (.int .i64 ((rd_TimplLoan l1 ((rd_TA2int t836 x10_1).f0)).f0.f2)) ∧ w'.cell? ⟨(ad841.add ((((rd_TA2int t836 x10_1).f0)).toNat * 7)).block, (ad841.add ((((rd_TA2int t836 x10_1).f0)).toNat * 7)).off + 3, none⟩ = some (.int .i64 ((rd_TimplLoan l1 ((rd_TA2int t836 x10_1).f0)).f0.f3)) ∧ w'.cell? ⟨(ad841.add ((((rd_TA2int t836 x10_1).f0)).toNat * 7)).block, (ad841.add ((((rd_TA2int t836 x10_1).f0)).toNat * 7)).off + 4, none⟩ = some (.bool ((rd_TimplLoan l1 ((rd_TA2int t836 x10_1).f0)).f1)) ∧ w'.cell? ⟨(ad841.add ((((rd_TA2int t836 x10_1).f0)).toNat * 7)).block, (ad841.add ((((rd_TA2int t836 x10_1).f0)).toNat * 7)).off + 5, none⟩ = some (.int .i64 ((rd_TimplLoan l1 ((rd_TA2int t836 x10_1).f0)).f2)) ∧ w'.cell? ⟨(ad841.add ((((rd_TA2int t836 x10_1).f0)).toNat * 7)).block, (ad841.add ((((rd_TA2int t836 x10_1).f0)).toNat * 7)).off + 6, none⟩ = some (.int .i64 ((rd_TimplLoan l1 ((rd_TA2int t836 x10_1).f0)).f3)) ∧ w'.cell? (ad840.add ((x10_1).toNat * 2)) = some (.int .i64 ((rd_TA2int t836 x10_1).f0)) ∧ w'.cell? ⟨(ad840.add ((x10_1).toNat * 2)).block, (ad840.add ((x10_1).toNat * 2)).off + 1, none⟩ = some (.int .i64 ((rd_TA2int t836 x10_1).f1)) ∧ w'.cell? (ad841.add ((((rd_TA2int t836 x10_1).f1)).toNat * 7)) = some (.int .i64 ((rd_TimplLoan l1 ((rd_TA2int t836 x10_1).f1)).f0.f0)) ∧ w'.cell? ⟨(ad841.add ((((rd_TA2int t836 x10_1).f1)).toNat * 7)).block, (ad841.add ((((rd_TA2int t836 x10_1).f1)).toNat * 7)).off + 1, none⟩ = some (.int .i64 ((rd_TimplLoan l1 ((rd_TA2int t836 x10_1).f1)).f0.f1)) ∧ w'.cell? ⟨(ad841.add ((((rd_TA2int t836 x10_1).f1)).toNat * 7)).block, (ad841.add ((((rd_TA2int t836 x10_1).f1)).toNat * 7)).off + 2, none⟩ = some (.int .i64 ((rd_TimplLoan l1 ((rd_TA2int t836 x10_1).f1)).f0.f2)) ∧ w'.cell? ⟨(ad841.add ((((rd_TA2int t836 x10_1).f1)).toNat * 7)).block, (ad841.add ((((rd_TA2int t836 x10_1).f1)).toNat * 7)).off + 3, none⟩ = some (.int .i64 ((rd_TimplLoan l1 ((rd_TA2int t836 x10_1).f1)).f0.f3)) ∧ w'.cell? ⟨(ad841.add ((((rd_TA2int t836 x10_1).f1)).toNat * 7)).block, (ad841.add ((((rd_TA2int t836 x10_1).f1)).toNat * 7)).off + 4, none⟩ = some (.bool ((rd_TimplLoan l1 ((rd_TA2int t836 x10_1).f1)).f1)) ∧ w'.cell? ⟨(ad841.add ((((rd_TA2int t836 x10_1).f1)).toNat * 7)).block, (ad841.add ((((rd_TA2int t836 x10_1).f1)).toNat * 7)).off + 5, none⟩ = some (.int .i64 ((rd_TimplLoan l1 ((rd_TA2int t836 x10_1).f1)).f2)) ∧ w'.cell? ⟨(ad841.add ((((rd_TA2int t836 x10_1).f1)).toNat * 7)).block, (ad841.add ((((rd_TA2int t836 x10_1).f1)).toNat * 7)).off + 6, none⟩ = some (.int .i64 ((rd_TimplLoan l1 ((rd_TA2int t836 x10_1).f1)).f3))) (ds := []) #[false, false, false, false, false, false, false, false, false, false, false, false, false, false, false, false, false, false] (by kernel_rfl) rfl rfl ⟨hx840_0, hx840_1, (by have h_ := ((HB.out.cell (World.block_lt_of_cell? w _ hw841_0)).trans hw841_0); first | exact h_ | (simp only [*] at h_; exact h_) | simpa [*] using h_), (by have h_ := ((HB.out.cell (World.block_lt_of_cell? w _ hw841_1)).trans hw841_1); first | exact h_ | (simp only [*] at h_; exact h_) | simpa [*] using h_), (by have h_ := ((HB.out.cell (World.block_lt_of_cell? w _ hw841_2)).trans hw841_2); first | exact h_ | (simp only [*] at h_; exact h_) | simpa [*] using h_), (by have h_ := ((HB.out.cell (World.block_lt_of_cell? w _ hw841_3)).trans hw841_3); first | exact h_ | (simp only [*] at h_; exact h_) | simpa [*] using h_), (by have h_ := ((HB.out.cell (World.block_lt_of_cell? w _ hw841_4)).trans hw841_4); first | exact h_ | (simp only [*] at h_; exact h_) | simpa [*] using h_), (by have h_ := ((HB.out.cell (World.block_lt_of_cell? w _ hw841_5)).trans hw841_5); first | exact h_ | (simp only [*] at h_; exact h_) | simpa [*] using h_), (by have h_ := ((HB.out.cell (World.block_lt_of_cell? w _ hw841_6)).trans hw841_6); first | exact h_ | (simp only [*] at h_; exact h_) | simpa [*] using h_), hx842_0, hx842_1, (by have h_ := ((HB.out.cell (World.block_lt_of_cell? w _ hw843_0)).trans hw843_0); first | exact h_ | (simp only [*] at h_; exact h_) | simpa [*] using h_), (by have h_ := ((HB.out.cell (World.block_lt_of_cell? w _ hw843_1)).trans hw843_1); first | exact h_ | (simp only [*] at h_; exact h_) | simpa [*] using h_), (by have h_ := ((HB.out.cell (World.block_lt_of_cell? w _ hw843_2)).trans hw843_2); first | exact h_ | (simp only [*] at h_; exact h_) | simpa [*] using h_), (by have h_ := ((HB.out.cell (World.block_lt_of_cell? w _ hw843_3)).trans hw843_3); first | exact h_ | (simp only [*] at h_; exact h_) | simpa [*] using h_), (by have h_ := ((HB.out.cell (World.block_lt_of_cell? w _ hw843_4)).trans hw843_4); first | exact h_ | (simp only [*] at h_; exact h_) | simpa [*] using h_), (by have h_ := ((HB.out.cell (World.block_lt_of_cell? w _ hw843_5)).trans hw843_5); first | exact h_ | (simp only [*] at h_; exact h_) | simpa [*] using h_), (by have h_ := ((HB.out.cell (World.block_lt_of_cell? w _ hw843_6)).trans hw843_6); first | exact h_ | (simp only [*] at h_; exact h_) | simpa [*] using h_)⟩ (fun hHeld => ?_); refine with_tabW spec_FirstClash.tab7 spec_FirstClash.bits7 (fun HT_ HW_ => ?_)
                        generalize wr.drew = w32 at HO_7 BK833 BK834 BK839 HB hx840_0 hx840_1 hx841_0 hx841_1 hx841_2 hx841_3 hx841_4 hx841_5 hx841_6 hx842_0 hx842_1 hx843_0 hx843_1 hx843_2 hx843_3 hx843_4 hx843_5 hx843_6 hHeld ⊢
                        refine pure_ (i := 0) (N := some 26) (v := ?_) (a' := ?_) #[true, false, false, false, false, false, false, false, false, false, false, false, false, false, false, false, false, false] rfl rfl (any_of HT_.out (by kernel_rfl)) (fun _ _ _ h => h) (Or.inl ⟨by rfl, ?_⟩) ?_ ?_
                        rotate_left
                        · intro w'
                          go_simp
                          with_reducible rfl
                        rotate_left
                        · simp only [Act.put, List.setIfInBounds_toArray, List.set_cons_zero, List.set_cons_succ, i64_w, i32_w]
                          rfl
                        refine pure_ (i := 1) (N := some 27) (v := ?_) (a' := ?_) #[true, true, false, false, false, false, false, false, false, false, false, false, false, false, false, false, false, false] rfl rfl (any_of HT_.out (by kernel_rfl)) (fun _ _ _ h => h) (Or.inl ⟨by rfl, ?_⟩) ?_ ?_
                        rotate_left
                        · intro w'
                          go_simp
                          with_reducible rfl
                        rotate_left
                        · simp only [Act.put, List.setIfInBounds_toArray, List.set_cons_zero, List.set_cons_succ, i64_w, i32_w]
                          rfl
                        refine pure_ (i := 2) (N := some 28) (v := ?_) (a' := ?_) #[true, true, true, false, false, false, false, false, false, false, false, false, false, false, false, false, false, false] rfl rfl (any_of HT_.out (by kernel_rfl)) (fun _ _ _ h => h) (Or.inl ⟨by rfl, ?_⟩) ?_ ?_
                        rotate_left
                        · intro w'
                          go_simp
                          with_reducible rfl
                        rotate_left
                        · simp only [Act.put, List.setIfInBounds_toArray, List.set_cons_zero, List.set_cons_succ, i64_w, i32_w]
                          rfl
                        refine pure_ (i := 3) (N := some 29) (v := ?_) (a' := ?_) #[true, true, true, true, false, false, false, false, false, false, false, false, false, false, false, false, false, false] rfl rfl (any_of HT_.out (by kernel_rfl)) (fun _ _ _ h => h) (Or.inl ⟨by rfl, ?_⟩) ?_ ?_
                        rotate_left
                        · intro w'
                          go_simp
                          with_reducible rfl
                        rotate_left
                        · simp only [Act.put, List.setIfInBounds_toArray, List.set_cons_zero, List.set_cons_succ, i64_w, i32_w]
                          rfl
                        refine pure_ (i := 4) (N := some 30) (v := ?_) (a' := ?_) #[true, true, true, true, true, false, false, false, false, false, false, false, false, false, false, false, false, false] rfl rfl (any_of HT_.out (by kernel_rfl)) (fun _ _ _ h => h) (Or.inl ⟨by rfl, ?_⟩) ?_ ?_
                        rotate_left
                        · intro w'
                          go_simp
                          with_reducible rfl
                        rotate_left
                        · simp only [Act.put, List.setIfInBounds_toArray, List.set_cons_zero, List.set_cons_succ, i64_w, i32_w]
                          rfl
                        refine pure_ (i := 8) (N := some 34) (v := ?_) (a' := ?_) #[true, true, true, true, true, false, false, false, true, false, false, false, false, false, false, false, false, false] rfl rfl (any_of HT_.out (by kernel_rfl)) (fun _ _ _ h => h) (Or.inl ⟨by rfl, ?_⟩) ?_ ?_
                        rotate_left
                        · intro w'
                          go_simp
                          with_reducible rfl
                        rotate_left
                        · simp only [Act.put, List.setIfInBounds_toArray, List.set_cons_zero, List.set_cons_succ, i64_w, i32_w]
                          rfl
                        refine pure_ (i := 9) (N := some 35) (v := ?_) (a' := ?_) #[true, true, true, true, true, false, false, false, true, true, false, false, false, false, false, false, false, false] rfl rfl (any_of HT_.out (by kernel_rfl)) (fun _ _ _ h => h) (Or.inl ⟨by rfl, ?_⟩) ?_ ?_
                        rotate_left
                        · intro w'
                          go_simp
                          with_reducible rfl
                        rotate_left
                        · simp only [Act.put, List.setIfInBounds_toArray, List.set_cons_zero, List.set_cons_succ, i64_w, i32_w]
                          rfl
                        refine pure_ (i := 10) (N := some 36) (v := ?_) (a' := ?_) #[true, true, true, true, true, false, false, false, true, true, true, false, false, false, false, false, false, false] rfl rfl (any_of HT_.out (by kernel_rfl)) (fun _ _ _ h => h) (Or.inl ⟨by rfl, ?_⟩) ?_ ?_
                        rotate_left
                        · intro w'
                          go_simp
                          with_reducible rfl
                        rotate_left
                        · simp only [Act.put, List.setIfInBounds_toArray, List.set_cons_zero, List.set_cons_succ, i64_w, i32_w]
                          rfl
                        refine pure_ (i := 11) (N := some 37) (v := ?_) (a' := ?_) #[true, true, true, true, true, false, false, false, true, true, true, true, false, false, false, false, false, false] rfl rfl (any_of HT_.out (by kernel_rfl)) (fun _ _ _ h => h) (Or.inl ⟨by rfl, ?_⟩) ?_ ?_
                        rotate_left
                        · intro w'
                          go_simp
                          with_reducible rfl
                        rotate_left
                        · simp only [Act.put, List.setIfInBounds_toArray, List.set_cons_zero, List.set_cons_succ, i64_w, i32_w]
                          rfl
                        refine pure_ (i := 12) (N := some 38) (v := ?_) (a' := ?_) #[true, true, true, true, true, false, false, false, true, true, true, true, true, false, false, false, false, false] rfl rfl (any_of HT_.out (by kernel_rfl)) (fun _ _ _ h => h) (Or.inl ⟨by rfl, ?_⟩) ?_ ?_
                        rotate_left
                        · intro w'
                          go_simp
                          with_reducible rfl
                        rotate_left
                        · simp only [Act.put, List.setIfInBounds_toArray, List.set_cons_zero, List.set_cons_succ, i64_w, i32_w]
                          rfl
                        refine take_ (i := 5) (N := some 31) (v := ?_) (a' := ?_) #[true, true, true, true, true, true, false, false, true, true, true, true, true, false, false, false, false, false] rfl rfl (take_ofW HT_.out HW_.out (by kernel_rfl)) (fun _ _ _ h => h) (Or.inl ⟨by rfl, ?_⟩) hHeld ?_ ?_
                        rotate_left
                        · rintro w' ⟨s0, s1, s2, s3, s4, s5, s6, s7, s8, s9, s10, s11, s12, s13, s14, s15, s16, s17⟩
                          go_simp
                          with_reducible rfl
                        rotate_left
                        · simp only [Act.put, List.setIfInBounds_toArray, List.set_cons_zero, List.set_cons_succ, i64_w, i32_w]
                          rfl
                        refine pure_ (i := 6) (N := some 32) (v := ?_) (a' := ?_) #[true, true, true, true, true, true, true, false, true, true, true, true, true, false, false, false, false, false] rfl rfl (any_of HT_.out (by kernel_rfl)) (fun _ _ _ h => h) (Or.inl ⟨by rfl, ?_⟩) ?_ ?_
                        rotate_left
                        · intro w'
                          go_simp
                          with_reducible rfl
                        rotate_left
                        · simp only [Act.put, List.setIfInBounds_toArray, List.set_cons_zero, List.set_cons_succ, i64_w, i32_w]
                          rfl
                        refine take_ (i := 7) (N := some 33) (v := ?_) (a' := ?_) #[true, true, true, true, true, true, true, true, true, true, true, true, true, false, false, false, false, false] rfl rfl (take_ofW HT_.out HW_.out (by kernel_rfl)) (fun _ _ _ h => h) (Or.inl ⟨by rfl, ?_⟩) hHeld ?_ ?_
                        rotate_left
                        · rintro w' ⟨s0, s1, s2, s3, s4, s5, s6, s7, s8, s9, s10, s11, s12, s13, s14, s15, s16, s17⟩
                          go_simp
                          with_reducible rfl
                        rotate_left
                        · simp only [Act.put, List.setIfInBounds_toArray, List.set_cons_zero, List.set_cons_succ, i64_w, i32_w]
                          rfl
                        refine take_ (i := 13) (N := some 39) (v := ?_) (a' := ?_) #[true, true, true, true, true, true, true, true, true, true, true, true, true, true, false, false, false, false] rfl rfl (take_ofW HT_.out HW_.out (by kernel_rfl)) (fun _ _ _ h => h) (Or.inl ⟨by rfl, ?_⟩) hHeld ?_ ?_
                        rotate_left
                        · rintro w' ⟨s0, s1, s2, s3, s4, s5, s6, s7, s8, s9, s10, s11, s12, s13, s14, s15, s16, s17⟩
                          go_simp
                          with_reducible rfl
                        rotate_left
                        · simp only [Act.put, List.setIfInBounds_toArray, List.set_cons_zero, List.set_cons_succ, i64_w, i32_w]
                          rfl
                        refine pure_ (i := 14) (N := some 40) (v := ?_) (a' := ?_) #[true, true, true, true, true, true, true, true, true, true, true, true, true, true, true, false, false, false] rfl rfl (any_of HT_.out (by kernel_rfl)) (fun _ _ _ h => h) (Or.inl ⟨by rfl, ?_⟩) ?_ ?_
                        rotate_left
                        · intro w'
                          go_simp
                          with_reducible rfl
                        rotate_left
                        · simp only [Act.put, List.setIfInBounds_toArray, List.set_cons_zero, List.set_cons_succ, i64_w, i32_w]
                          rfl
                        refine take_ (i := 15) (N := some 41) (v := ?_) (a' := ?_) #[true, true, true, true, true, true, true, true, true, true, true, true, true, true, true, true, false, false] rfl rfl (take_ofW HT_.out HW_.out (by kernel_rfl)) (fun _ _ _ h => h) (Or.inl ⟨by rfl, ?_⟩) hHeld ?_ ?_
                        rotate_left
                        · rintro w' ⟨s0, s1, s2, s3, s4, s5, s6, s7, s8, s9, s10, s11, s12, s13, s14, s15, s16, s17⟩
                          go_simp
                          with_reducible rfl
                        rotate_left
                        · simp only [Act.put, List.setIfInBounds_toArray, List.set_cons_zero, List.set_cons_succ, i64_w, i32_w]
                          rfl
                        refine one_ (i := 16) (N := some 42) #[true, true, true, true, true, true, true, true, true, true, true, true, true, true, true, true, true, false] rfl rfl (one_of HT_.out (by kernel_rfl)) (by decide) (fun K hK => ?_)
                        refine goes_ Try.func98 (by kernel_rfl) rfl #[.agg #[.int .i64 ((rd_TimplLoan l1 ((rd_TA2int t836 x10_1).f0)).f0.f0), .int .i64 ((rd_TimplLoan l1 ((rd_TA2int t836 x10_1).f0)).f0.f1), .int .i64 ((rd_TimplLoan l1 ((rd_TA2int t836 x10_1).f0)).f0.f2), .int .i64 ((rd_TimplLoan l1 ((rd_TA2int t836 x10_1).f0)).f0.f3), .bool ((rd_TimplLoan l1 ((rd_TA2int t836 x10_1).f0)).f1), .int .i64 ((rd_TimplLoan l1 ((rd_TA2int t836 x10_1).f0)).f2), .int .i64 ((rd_TimplLoan l1 ((rd_TA2int t836 x10_1).f0)).f3)], .agg #[.int .i64 ((rd_TimplLoan l1 ((rd_TA2int t836 x10_1).f1)).f0.f0), .int .i64 ((rd_TimplLoan l1 ((rd_TA2int t836 x10_1).f1)).f0.f1), .int .i64 ((rd_TimplLoan l1 ((rd_TA2int t836 x10_1).f1)).f0.f2), .int .i64 ((rd_TimplLoan l1 ((rd_TA2int t836 x10_1).f1)).f0.f3), .bool ((rd_TimplLoan l1 ((rd_TA2int t836 x10_1).f1)).f1), .int .i64 ((rd_TimplLoan l1 ((rd_TA2int t836 x10_1).f1)).f2), .int .i64 ((rd_TimplLoan l1 ((rd_TA2int t836 x10_1).f1)).f3)]] (by rfl) rfl rfl (by (try simp only [List.map_toArray, List.map_cons, List.map_nil]); first | done | rfl | (simp only [List.length_drop, List.length_take]; rfl)) ?_
                        with_reducible refine (spec_l10Clash.calls ((rd_TimplLoan l1 ((rd_TA2int t836 x10_1).f0)).f0.f0) ((rd_TimplLoan l1 ((rd_TA2int t836 x10_1).f0)).f0.f1) ((rd_TimplLoan l1 ((rd_TA2int t836 x10_1).f0)).f0.f2) ((rd_TimplLoan l1 ((rd_TA2int t836 x10_1).f0)).f0.f3) ((rd_TimplLoan l1 ((rd_TA2int t836 x10_1).f0)).f1) ((rd_TimplLoan l1 ((rd_TA2int t836 x10_1).f0)).f2) ((rd_TimplLoan l1 ((rd_TA2int t836 x10_1).f0)).f3) ((rd_TimplLoan l1 ((rd_TA2int t836 x10_1).f1)).f0.f0) ((rd_TimplLoan l1 ((rd_TA2int t836 x10_1).f1)).f0.f1) ((rd_TimplLoan l1 ((rd_TA2int t836 x10_1).f1)).f0.f2) ((rd_TimplLoan l1 ((rd_TA2int t836 x10_1).f1)).f0.f3) ((rd_TimplLoan l1 ((rd_TA2int t836 x10_1).f1)).f1) ((rd_TimplLoan l1 ((rd_TA2int t836 x10_1).f1)).f2) ((rd_TimplLoan l1 ((rd_TA2int t836 x10_1).f1)).f3) t844 _ A22.out).mono ?_
                        rintro e w33 ⟨rfl, hb⟩
                        have HS0_ := (hb.cell (World.block_lt_of_cell? _ _ (hHeld.1))).trans (hHeld.1)
                        have HS1_ := (hb.cell (World.block_lt_of_cell? _ _ (hHeld.2.1))).trans (hHeld.2.1)
                        have HS9_ := (hb.cell (World.block_lt_of_cell? _ _ (hHeld.2.2.2.2.2.2.2.2.2.1))).trans (hHeld.2.2.2.2.2.2.2.2.2.1)
                        have HS10_ := (hb.cell (World.block_lt_of_cell? _ _ (hHeld.2.2.2.2.2.2.2.2.2.2.1))).trans (hHeld.2.2.2.2.2.2.2.2.2.2.1)
                        refine ⟨_, rfl, ?_⟩
                        have n0_ := Aside0.mk (Kd.R_below (by (with_reducible repeat (first | apply Kd.R_alloc | apply Kd.R_drewN | apply Kd.R_drew)); exact HO_7.out) hb)
                        have n1_ := Aside0.mk (blk_below (g := gb833) (o := .cells #[.slice A0_0 l0_0.length c0_0] 26 (0, 0)) (by (with_reducible repeat (first | refine blk_drewN ?_ _ | refine blk_drew ?_ | refine blk_alloc ?_ _)); exact BK833.out) hb)
                        have n2_ := Aside0.mk (blk_below (g := gb834) (o := .cells #[.int .i64 0, .int .i64 0] 75 (0, 0)) (by (with_reducible repeat (first | refine blk_drewN ?_ _ | refine blk_drew ?_ | refine blk_alloc ?_ _)); exact BK834.out) hb)
                        have n3_ := Aside0.mk (blk_below (g := gb839) (o := .cells #[.int .i64 x840000_1, .int .i64 x840001_1] 75 (0, 0)) (by (with_reducible repeat (first | refine blk_drewN ?_ _ | refine blk_drew ?_ | refine blk_alloc ?_ _)); exact BK839.out) hb)
                        have n4_ := Aside0.mk (below_step (by repeat (first | (with_reducible first | exact HB.out | apply below_alloc | apply pw_below_drewN | apply below_drew1 | refine below_set ?_ GE833.out | refine below_set ?_ GE834.out | refine below_set ?_ GE839.out) | exact HB.out)) hb)
                        clear HO_7
                        clear BK833
                        clear BK834
                        clear BK839
                        clear HB
                        have HO_7 := n0_
                        have BK833 := n1_
                        have BK834 := n2_
                        have BK839 := n3_
                        have HB := n4_
                        clear n0_ n1_ n2_ n3_ n4_
                        (try clear hb)
                        (try clear hb2)
                        (try clear hk)
                        (try clear hi)
                        refine hK.out _ _ ⟨HS0_, HS1_, (by have h_ := ((HB.out.cell (World.block_lt_of_cell? w _ hw841_0)).trans hw841_0); first | exact h_ | (simp only [*] at h_; exact h_) | simpa [*] using h_), (by have h_ := ((HB.out.cell (World.block_lt_of_cell? w _ hw841_1)).trans hw841_1); first | exact h_ | (simp only [*] at h_; exact h_) | simpa [*] using h_), (by have h_ := ((HB.out.cell (World.block_lt_of_cell? w _ hw841_2)).trans hw841_2); first | exact h_ | (simp only [*] at h_; exact h_) | simpa [*] using h_), (by have h_ := ((HB.out.cell (World.block_lt_of_cell? w _ hw841_3)).trans hw841_3); first | exact h_ | (simp only [*] at h_; exact h_) | simpa [*] using h_), (by have h_ := ((HB.out.cell (World.block_lt_of_cell? w _ hw841_4)).trans hw841_4); first | exact h_ | (simp only [*] at h_; exact h_) | simpa [*] using h_), (by have h_ := ((HB.out.cell (World.block_lt_of_cell? w _ hw841_5)).trans hw841_5); first | exact h_ | (simp only [*] at h_; exact h_) | simpa [*] using h_), (by have h_ := ((HB.out.cell (World.block_lt_of_cell? w _ hw841_6)).trans hw841_6); first | exact h_ | (simp only [*] at h_; exact h_) | simpa [*] using h_), HS9_, HS10_, (by have h_ := ((HB.out.cell (World.block_lt_of_cell? w _ hw843_0)).trans hw843_0); first | exact h_ | (simp only [*] at h_; exact h_) | simpa [*] using h_), (by have h_ := ((HB.out.cell (World.block_lt_of_cell? w _ hw843_1)).trans hw843_1); first | exact h_ | (simp only [*] at h_; exact h_) | simpa [*] using h_), (by have h_ := ((HB.out.cell (World.block_lt_of_cell? w _ hw843_2)).trans hw843_2); first | exact h_ | (simp only [*] at h_; exact h_) | simpa [*] using h_), (by have h_ := ((HB.out.cell (World.block_lt_of_cell? w _ hw843_3)).trans hw843_3); first | exact h_ | (simp only [*] at h_; exact h_) | simpa [*] using h_), (by have h_ := ((HB.out.cell (World.block_lt_of_cell? w _ hw843_4)).trans hw843_4); first | exact h_ | (simp only [*] at h_; exact h_) | simpa [*] using h_), (by have h_ := ((HB.out.cell (World.block_lt_of_cell? w _ hw843_5)).trans hw843_5); first | exact h_ | (simp only [*] at h_; exact h_) | simpa [*] using h_), (by have h_ := ((HB.out.cell (World.block_lt_of_cell? w _ hw843_6)).trans hw843_6); first | exact h_ | (simp only [*] at h_; exact h_) | simpa [*] using h_)⟩ (fun hHeld => ?_)
                        clear hK K
                        refine norm_ (a' := ?_) ?_ ?_
                        rotate_left
                        · show Act.put _ (some 42) _ = _
                          simp only [Act.put, List.setIfInBounds_toArray, List.set_cons_zero, List.set_cons_succ, i64_w, i32_w]
                          rfl
                        refine pure_ (i := 17) (N := some 11) (v := ?_) (a' := ?_) #[true, true, true, true, true, true, true, true, true, true, true, true, true, true, true, true, true, true] rfl rfl (any_of HT_.out (by kernel_rfl)) (fun _ _ _ h => h) (Or.inl ⟨by rfl, ?_⟩) ?_ ?_
                        rotate_left
                        · intro w'
                          go_simp
                          with_reducible rfl
                        rotate_left
                        · simp only [Act.put, List.setIfInBounds_toArray, List.set_cons_zero, List.set_cons_succ, i64_w, i32_w]
                          rfl
                        refine done_ (done_of HT_.out (by kernel_rfl)) ?_
                        have p846 : 0 ≤ (x10_1 : Int) := of_decide_eq_true (by first | (with_reducible assumption) | assumption)
                        have q846 : x10_1 < (t836.length : Int) := of_decide_eq_true (by first | (with_reducible assumption) | assumption)
                        obtain ⟨ad846, e846, hx846_0, hx846_1⟩ := at_TA2int (Kd.R_reads' HO_7.out).2.2 x10_1 p846 q846
                        obtain rfl : ad840 = ad846 := (by injection e846)
                        replace p846 := eq_true p846
                        replace q846 := eq_true q846
                        have hnb34 := NB839_833.out
                        have hnc34 := NB833_839.out
                        have hnb35 := NB839_834.out
                        have hnc35 := NB834_839.out
                        have hcz36_0 : w33.cell? ⟨gb839, 0, none⟩ = some (.int .i64 x840000_1) := (blk_cell BK839.out 0).trans rfl
                        have hcz36_1 : w33.cell? ⟨gb839, 1, none⟩ = some (.int .i64 x840001_1) := (blk_cell BK839.out 1).trans rfl
                        have hfz36_0 := blk_frozen BK839.out 0
                        have hfz36_1 := blk_frozen BK839.out 1
                        try go_wp2
                        go_roundg k1
                        case measure => have := HK1.out; omega
                        case rel => exact ⟨(t844), (wrap64 (x10_1 + 1)), ((rd_TA2int t836 x10_1).f0), ((rd_TA2int t836 x10_1).f1), (by first | rfl | (simp; done) | (simp [*]; done)), (by first | rfl | (simp; done) | (simp [*]; done)), H', ⟨by have := HK1.out; omega⟩, ⟨by (with_reducible repeat (first | apply Kd.R_alloc | apply Kd.R_drewN | apply Kd.R_drew)); exact Kd.R_mono (Kd.R_far (p := ⟨gb839, 1, none⟩) (Kd.R_far (p := ⟨gb839, 0, none⟩) (Kd.R_mono HO_7.out (fun k_ hk => (⟨hk, hk.2⟩ : _ ∧ k_ ≠ gb839))) (fun _ hk => hk.2) (.int .i64 ((rd_TA2int t836 x10_1).f0))) (fun _ hk => hk.2) (.int .i64 ((rd_TA2int t836 x10_1).f1))) (fun _ hk => ⟨hk.1.1, hk.1.2⟩)⟩, ⟨by (with_reducible repeat (first | refine blk_drewN ?_ _ | refine blk_drew ?_ | refine blk_alloc ?_ _)); refine blk_far ?_ NB833_839.out _; (with_reducible repeat (first | refine blk_drewN ?_ _ | refine blk_drew ?_ | refine blk_alloc ?_ _)); refine blk_far ?_ NB833_839.out _; (with_reducible repeat (first | refine blk_drewN ?_ _ | refine blk_drew ?_ | refine blk_alloc ?_ _)); exact BK833.out⟩, ⟨by (with_reducible repeat (first | refine blk_drewN ?_ _ | refine blk_drew ?_ | refine blk_alloc ?_ _)); refine blk_far ?_ NB834_839.out _; (with_reducible repeat (first | refine blk_drewN ?_ _ | refine blk_drew ?_ | refine blk_alloc ?_ _)); refine blk_far ?_ NB834_839.out _; (with_reducible repeat (first | refine blk_drewN ?_ _ | refine blk_drew ?_ | refine blk_alloc ?_ _)); exact BK834.out⟩, ⟨by (with_reducible repeat (first | refine blk_drewN ?_ _ | refine blk_drew ?_ | refine blk_alloc ?_ _)); refine blk_put (cs := #[.int .i64 ((rd_TA2int t836 x10_1).f0), .int .i64 x840001_1]) ?_ 1 _ rfl; (with_reducible repeat (first | refine blk_drewN ?_ _ | refine blk_drew ?_ | refine blk_alloc ?_ _)); refine blk_put (cs := #[.int .i64 x840000_1, .int .i64 x840001_1]) ?_ 0 _ rfl; (with_reducible repeat (first | refine blk_drewN ?_ _ | refine blk_drew ?_ | refine blk_alloc ?_ _)); exact BK839.out⟩, ⟨by repeat (first | (with_reducible first | exact HB.out | apply below_alloc | apply pw_below_drewN | apply below_drew1 | refine below_set ?_ GE833.out | refine below_set ?_ GE834.out | refine below_set ?_ GE839.out) | exact HB.out)⟩⟩
                      · rw [if_neg c30] at H
                        have c30b0 : decide (t844 < x8_1) = false := decide_eq_false c30
                        clear c30
                        have H' := Aside0.mk H
                        clear H
                        obtain ⟨Ao37, co37, eo37⟩ := Kd.R_slice HO_7.out
                        subst eo37
                        try go_wp2
                        have n0_ := Aside0.mk (Kd.R_drew HO_7.out)
                        have n1_ := Aside0.mk (blk_drew BK833.out)
                        have n2_ := Aside0.mk (blk_drew BK834.out)
                        have n3_ := Aside0.mk (blk_drew BK839.out)
                        have n4_ := Aside0.mk (below_drew1 HB.out)
                        clear HO_7
                        clear BK833
                        clear BK834
                        clear BK839
                        clear HB
                        have HO_7 := n0_
                        have BK833 := n1_
                        have BK834 := n2_
                        have BK839 := n3_
                        have HB := n4_
                        clear n0_ n1_ n2_ n3_ n4_
                        have p840 : 0 ≤ (x10_1 : Int) := of_decide_eq_true (by first | (with_reducible assumption) | assumption)
                        have q840 : x10_1 < (t836.length : Int) := of_decide_eq_true (by first | (with_reducible assumption) | assumption)
                        obtain ⟨ad840, e840, hx840_0, hx840_1⟩ := at_TA2int (Kd.R_reads' HO_7.out).2.2 x10_1 p840 q840
                        cases e840
                        replace p840 := eq_true p840
                        replace q840 := eq_true q840
                        have p841 : 0 ≤ (((rd_TA2int t836 x10_1).f0) : Int) := of_decide_eq_true (by first | (with_reducible assumption) | assumption)
                        have q841 : ((rd_TA2int t836 x10_1).f0) < (l1.length : Int) := of_decide_eq_true (by first | (with_reducible assumption) | assumption)
                        obtain ⟨ad841, e841, hx841_0, hx841_1, hx841_2, hx841_3, hx841_4, hx841_5, hx841_6⟩ := at_TimplLoan HR1.out ((rd_TA2int t836 x10_1).f0) p841 q841
                        have hw841_6 := hx841_6
                        have hw841_5 := hx841_5
                        have hw841_4 := hx841_4
                        have hw841_3 := hx841_3
                        have hw841_2 := hx841_2
                        have hw841_1 := hx841_1
                        have hw841_0 := hx841_0
                        cases e841
                        replace hx841_0 := (HB.out.cell (World.block_lt_of_cell? w _ hx841_0)).trans hx841_0
                        replace hx841_1 := (HB.out.cell (World.block_lt_of_cell? w _ hx841_1)).trans hx841_1
                        replace hx841_2 := (HB.out.cell (World.block_lt_of_cell? w _ hx841_2)).trans hx841_2
                        replace hx841_3 := (HB.out.cell (World.block_lt_of_cell? w _ hx841_3)).trans hx841_3
                        replace hx841_4 := (HB.out.cell (World.block_lt_of_cell? w _ hx841_4)).trans hx841_4
                        replace hx841_5 := (HB.out.cell (World.block_lt_of_cell? w _ hx841_5)).trans hx841_5
                        replace hx841_6 := (HB.out.cell (World.block_lt_of_cell? w _ hx841_6)).trans hx841_6
                        replace p841 := eq_true p841
                        replace q841 := eq_true q841
                        have p842 : 0 ≤ (x10_1 : Int) := of_decide_eq_true (by first | (with_reducible assumption) | assumption)
                        have q842 : x10_1 < (t836.length : Int) := of_decide_eq_true (by first | (with_reducible assumption) | assumption)
                        obtain ⟨ad842, e842, hx842_0, hx842_1⟩ := at_TA2int (Kd.R_reads' HO_7.out).2.2 x10_1 p842 q842
                        obtain rfl : ad840 = ad842 := (by injection e842)
                        replace p842 := eq_true p842
                        replace q842 := eq_true q842
                        have p843 : 0 ≤ (((rd_TA2int t836 x10_1).f1) : Int) := of_decide_eq_true (by first | (with_reducible assumption) | assumption)
                        have q843 : ((rd_TA2int t836 x10_1).f1) < (l1.length : Int) := of_decide_eq_true (by first | (with_reducible assumption) | assumption)
                        obtain ⟨ad843, e843, hx843_0, hx843_1, hx843_2, hx843_3, hx843_4, hx843_5, hx843_6⟩ := at_TimplLoan HR1.out ((rd_TA2int t836 x10_1).f1) p843 q843
                        have hw843_6 := hx843_6
                        have hw843_5 := hx843_5
                        have hw843_4 := hx843_4
                        have hw843_3 := hx843_3
                        have hw843_2 := hx843_2
                        have hw843_1 := hx843_1
                        have hw843_0 := hx843_0
                        obtain rfl : ad841 = ad843 := (by injection e843)
                        replace hx843_0 := (HB.out.cell (World.block_lt_of_cell? w _ hx843_0)).trans hx843_0
                        replace hx843_1 := (HB.out.cell (World.block_lt_of_cell? w _ hx843_1)).trans hx843_1
                        replace hx843_2 := (HB.out.cell (World.block_lt_of_cell? w _ hx843_2)).trans hx843_2
                        replace hx843_3 := (HB.out.cell (World.block_lt_of_cell? w _ hx843_3)).trans hx843_3
                        replace hx843_4 := (HB.out.cell (World.block_lt_of_cell? w _ hx843_4)).trans hx843_4
                        replace hx843_5 := (HB.out.cell (World.block_lt_of_cell? w _ hx843_5)).trans hx843_5
                        replace hx843_6 := (HB.out.cell (World.block_lt_of_cell? w _ hx843_6)).trans hx843_6
                        replace p843 := eq_true p843
                        replace q843 := eq_true q843
                        refine start_ (n := 18) (S := fun w' => w'.cell? (ad840.add ((x10_1).toNat * 2)) = some (.int .i64 ((rd_TA2int t836 x10_1).f0)) ∧ w'.cell? ⟨(ad840.add ((x10_1).toNat * 2)).block, (ad840.add ((x10_1).toNat * 2)).off + 1, none⟩ = some (.int .i64 ((rd_TA2int t836 x10_1).f1)) ∧ w'.cell? (ad841.add ((((rd_TA2int t836 x10_1).f0)).toNat * 7)) = some (.int .i64 ((rd_TimplLoan l1 ((rd_TA2int t836 x10_1).f0)).f0.f0)) ∧ w'.cell? ⟨(ad841.add ((((rd_TA2int t836 x10_1).f0)).toNat * 7)).block, (ad841.add ((((rd_TA2int t836 x10_1).f0)).toNat * 7)).off + 1, none⟩ = some (.int .i64 ((rd_TimplLoan l1 ((rd_TA2int t836 x10_1).f0)).f0.f1)) ∧ w'.cell? ⟨(ad841.add ((((rd_TA2int t836 x10_1).f0)).toNat * 7)).block, (ad841.add ((((rd_TA2int t836 x10_1).f0)).toNat * 7)).off + 2, none⟩ = some (.int .i64 ((rd_TimplLoan l1 ((rd_TA2int t836 x10_1).f0)).f0.f2)) ∧ w'.cell? ⟨(ad841.add ((((rd_TA2int t836 x10_1).f0)).toNat * 7)).block, (ad841.add ((((rd_TA2int t836 x10_1).f0)).toNat * 7)).off + 3, none⟩ = some (.int .i64 ((rd_TimplLoan l1 ((rd_TA2int t836 x10_1).f0)).f0.f3)) ∧ w'.cell? ⟨(ad841.add ((((rd_TA2int t836 x10_1).f0)).toNat * 7)).block, (ad841.add ((((rd_TA2int t836 x10_1).f0)).toNat * 7)).off + 4, none⟩ = some (.bool ((rd_TimplLoan l1 ((rd_TA2int t836 x10_1).f0)).f1)) ∧ w'.cell? ⟨(ad841.add ((((rd_TA2int t836 x10_1).f0)).toNat * 7)).block, (ad841.add ((((rd_TA2int t836 x10_1).f0)).toNat * 7)).off + 5, none⟩ = some (.int .i64 ((rd_TimplLoan l1 ((rd_TA2int t836 x10_1).f0)).f2)) ∧ w'.cell? ⟨(ad841.add ((((rd_TA2int t836 x10_1).f0)).toNat * 7)).block, (ad841.add ((((rd_TA2int t836 x10_1).f0)).toNat * 7)).off + 6, none⟩ = some (.int .i64 ((rd_TimplLoan l1 ((rd_TA2int t836 x10_1).f0)).f3)) ∧ w'.cell? (ad840.add ((x10_1).toNat * 2)) = some (.int .i64 ((rd_TA2int t836 x10_1).f0)) ∧ w'.cell? ⟨(ad840.add ((x10_1).toNat * 2)).block, (ad840.add ((x10_1).toNat * 2)).off + 1, none⟩ = some (.int .i64 ((rd_TA2int t836 x10_1).f1)) ∧ w'.cell? (ad841.add ((((rd_TA2int t836 x10_1).f1)).toNat * 7)) = some (.int .i64 ((rd_TimplLoan l1 ((rd_TA2int t836 x10_1).f1)).f0.f0)) ∧ w'.cell? ⟨(ad841.add ((((rd_TA2int t836 x10_1).f1)).toNat * 7)).block, (ad841.add ((((rd_TA2int t836 x10_1).f1)).toNat * 7)).off + 1, none⟩ = some (.int .i64 ((rd_TimplLoan l1 ((rd_TA2int t836 x10_1).f1)).f0.f1)) ∧ w'.cell? ⟨(ad841.add ((((rd_TA2int t836 x10_1).f1)).toNat * 7)).block, (ad841.add ((((rd_TA2int t836 x10_1).f1)).toNat * 7)).off + 2, none⟩ = some (.int .i64 ((rd_TimplLoan l1 ((rd_TA2int t836 x10_1).f1)).f0.f2)) ∧ w'.cell? ⟨(ad841.add ((((rd_TA2int t836 x10_1).f1)).toNat * 7)).block, (ad841.add ((((rd_TA2int t836 x10_1).f1)).toNat * 7)).off + 3, none⟩ = some (.int .i64 ((rd_TimplLoan l1 ((rd_TA2int t836 x10_1).f1)).f0.f3)) ∧ w'.cell? ⟨(ad841.add ((((rd_TA2int t836 x10_1).f1)).toNat * 7)).block, (ad841.add ((((rd_TA2int t836 x10_1).f1)).toNat * 7)).off + 4, none⟩ = some (.bool ((rd_TimplLoan l1 ((rd_TA2int t836 x10_1).f1)).f1)) ∧ w'.cell? ⟨(ad841.add ((((rd_TA2int t836 x10_1).f1)).toNat * 7)).block, (ad841.add ((((rd_TA2int t836 x10_1).f1)).toNat * 7)).off + 5, none⟩ = some (.int .i64 ((rd_TimplLoan l1 ((rd_TA2int t836 x10_1).f1)).f2)) ∧ w'.cell? ⟨(ad841.add ((((rd_TA2int t836 x10_1).f1)).toNat * 7)).block, (ad841.add ((((rd_TA2int t836 x10_1).f1)).toNat * 7)).off + 6, none⟩ = some (.int .i64 ((rd_TimplLoan l1 ((rd_TA2int t836 x10_1).f1)).f3))) (ds := []) #[false, false, false, false, false, false, false, false, false, false, false, false, false, false, false, false, false, false] (by kernel_rfl) rfl rfl ⟨hx840_0, hx840_1, (by have h_ := ((HB.out.cell (World.block_lt_of_cell? w _ hw841_0)).trans hw841_0); first | exact h_ | (simp only [*] at h_; exact h_) | simpa [*] using h_), (by have h_ := ((HB.out.cell (World.block_lt_of_cell? w _ hw841_1)).trans hw841_1); first | exact h_ | (simp only [*] at h_; exact h_) | simpa [*] using h_), (by have h_ := ((HB.out.cell (World.block_lt_of_cell? w _ hw841_2)).trans hw841_2); first | exact h_ | (simp only [*] at h_; exact h_) | simpa [*] using h_), (by have h_ := ((HB.out.cell (World.block_lt_of_cell? w _ hw841_3)).trans hw841_3); first | exact h_ | (simp only [*] at h_; exact h_) | simpa [*] using h_), (by have h_ := ((HB.out.cell (World.block_lt_of_cell? w _ hw841_4)).trans hw841_4); first | exact h_ | (simp only [*] at h_; exact h_) | simpa [*] using h_), (by have h_ := ((HB.out.cell (World.block_lt_of_cell? w _ hw841_5)).trans hw841_5); first | exact h_ | (simp only [*] at h_; exact h_) | simpa [*] using h_), (by have h_ := ((HB.out.cell (World.block_lt_of_cell? w _ hw841_6)).trans hw841_6); first | exact h_ | (simp only [*] at h_; exact h_) | simpa [*] using h_), hx842_0, hx842_1, (by have h_ := ((HB.out.cell (World.block_lt_of_cell? w _ hw843_0)).trans hw843_0); first | exact h_ | (simp only [*] at h_; exact h_) | simpa [*] using h_), (by have h_ := ((HB.out.cell (World.block_lt_of_cell? w _ hw843_1)).trans hw843_1); first | exact h_ | (simp only [*] at h_; exact h_) | simpa [*] using h_), (by have h_ := ((HB.out.cell (World.block_lt_of_cell? w _ hw843_2)).trans hw843_2); first | exact h_ | (simp only [*] at h_; exact h_) | simpa [*] using h_), (by have h_ := ((HB.out.cell (World.block_lt_of_cell? w _ hw843_3)).trans hw843_3); first | exact h_ | (simp only [*] at h_; exact h_) | simpa [*] using h_), (by have h_ := ((HB.out.cell (World.block_lt_of_cell? w _ hw843_4)).trans hw843_4); first | exact h_ | (simp only [*] at h_; exact h_) | simpa [*] using h_), (by have h_ := ((HB.out.cell (World.block_lt_of_cell? w _ hw843_5)).trans hw843_5); first | exact h_ | (simp only [*] at h_; exact h_) | simpa [*] using h_), (by have h_ := ((HB.out.cell (World.block_lt_of_cell? w _ hw843_6)).trans hw843_6); first | exact h_ | (simp only [*] at h_; exact h_) | simpa [*] using h_)⟩ (fun hHeld => ?_); refine with_tabW spec_FirstClash.tab7 spec_FirstClash.bits7 (fun HT_ HW_ => ?_)
                        generalize wr.drew = w38 at HO_7 BK833 BK834 BK839 HB hx840_0 hx840_1 hx841_0 hx841_1 hx841_2 hx841_3 hx841_4 hx841_5 hx841_6 hx842_0 hx842_1 hx843_0 hx843_1 hx843_2 hx843_3 hx843_4 hx843_5 hx843_6 hHeld ⊢
                        refine pure_ (i := 0) (N := some 26) (v := ?_) (a' := ?_) #[true, false, false, false, false, false, false, false, false, false, false, false, false, false, false, false, false, false] rfl rfl (any_of HT_.out (by kernel_rfl)) (fun _ _ _ h => h) (Or.inl ⟨by rfl, ?_⟩) ?_ ?_
                        rotate_left
                        · intro w'
                          go_simp
                          with_reducible rfl
                        rotate_left
                        · simp only [Act.put, List.setIfInBounds_toArray, List.set_cons_zero, List.set_cons_succ, i64_w, i32_w]
                          rfl
                        refine pure_ (i := 1) (N := some 27) (v := ?_) (a' := ?_) #[true, true, false, false, false, false, false, false, false, false, false, false, false, false, false, false, false, false] rfl rfl (any_of HT_.out (by kernel_rfl)) (fun _ _ _ h => h) (Or.inl ⟨by rfl, ?_⟩) ?_ ?_
                        rotate_left
                        · intro w'
                          go_simp
                          with_reducible rfl
                        rotate_left
                        · simp only [Act.put, List.setIfInBounds_toArray, List.set_cons_zero, List.set_cons_succ, i64_w, i32_w]
                          rfl
                        refine pure_ (i := 2) (N := some 28) (v := ?_) (a' := ?_) #[true, true, true, false, false, false, false, false, false, false, false, false, false, false, false, false, false, false] rfl rfl (any_of HT_.out (by kernel_rfl)) (fun _ _ _ h => h) (Or.inl ⟨by rfl, ?_⟩) ?_ ?_
                        rotate_left
                        · intro w'
                          go_simp
                          with_reducible rfl
                        rotate_left
                        · simp only [Act.put, List.setIfInBounds_toArray, List.set_cons_zero, List.set_cons_succ, i64_w, i32_w]
                          rfl
                        refine pure_ (i := 3) (N := some 29) (v := ?_) (a' := ?_) #[true, true, true, true, false, false, false, false, false, false, false, false, false, false, false, false, false, false] rfl rfl (any_of HT_.out (by kernel_rfl)) (fun _ _ _ h => h) (Or.inl ⟨by rfl, ?_⟩) ?_ ?_
                        rotate_left
                        · intro w'
                          go_simp
                          with_reducible rfl
                        rotate_left
                        · simp only [Act.put, List.setIfInBounds_toArray, List.set_cons_zero, List.set_cons_succ, i64_w, i32_w]
                          rfl
                        refine pure_ (i := 4) (N := some 30) (v := ?_) (a' := ?_) #[true, true, true, true, true, false, false, false, false, false, false, false, false, false, false, false, false, false] rfl rfl (any_of HT_.out (by kernel_rfl)) (fun _ _ _ h => h) (Or.inl ⟨by rfl, ?_⟩) ?_ ?_
                        rotate_left
                        · intro w'
                          go_simp
                          with_reducible rfl
                        rotate_left
                        · simp only [Act.put, List.setIfInBounds_toArray, List.set_cons_zero, List.set_cons_succ, i64_w, i32_w]
                          rfl
                        refine pure_ (i := 8) (N := some 34) (v := ?_) (a' := ?_) #[true, true, true, true, true, false, false, false, true, false, false, false, false, false, false, false, false, false] rfl rfl (any_of HT_.out (by kernel_rfl)) (fun _ _ _ h => h) (Or.inl ⟨by rfl, ?_⟩) ?_ ?_
                        rotate_left
                        · intro w'
                          go_simp
                          with_reducible rfl
                        rotate_left
                        · simp only [Act.put, List.setIfInBounds_toArray, List.set_cons_zero, List.set_cons_succ, i64_w, i32_w]
                          rfl
                        refine pure_ (i := 9) (N := some 35) (v := ?_) (a' := ?_) #[true, true, true, true, true, false, false, false, true, true, false, false, false, false, false, false, false, false] rfl rfl (any_of HT_.out (by kernel_rfl)) (fun _ _ _ h => h) (Or.inl ⟨by rfl, ?_⟩) ?_ ?_
                        rotate_left
                        · intro w'
                          go_simp
                          with_reducible rfl
                        rotate_left
                        · simp only [Act.put, List.setIfInBounds_toArray, List.set_cons_zero, List.set_cons_succ, i64_w, i32_w]
                          rfl
                        refine pure_ (i := 10) (N := some 36) (v := ?_) (a' := ?_) #[true, true, true, true, true, false, false, false, true, true, true, false, false, false, false, false, false, false] rfl rfl (any_of HT_.out (by kernel_rfl)) (fun _ _ _ h => h) (Or.inl ⟨by rfl, ?_⟩) ?_ ?_
                        rotate_left
                        · intro w'
                          go_simp
                          with_reducible rfl
                        rotate_left
                        · simp only [Act.put, List.setIfInBounds_toArray, List.set_cons_zero, List.set_cons_succ, i64_w, i32_w]
                          rfl
                        refine pure_ (i := 11) (N := some 37) (v := ?_) (a' := ?_) #[true, true, true, true, true, false, false, false, true, true, true, true, false, false, false, false, false, false] rfl rfl (any_of HT_.out (by kernel_rfl)) (fun _ _ _ h => h) (Or.inl ⟨by rfl, ?_⟩) ?_ ?_
                        rotate_left
                        · intro w'
                          go_simp
                          with_reducible rfl
                        rotate_left
                        · simp only [Act.put, List.setIfInBounds_toArray, List.set_cons_zero, List.set_cons_succ, i64_w, i32_w]
                          rfl
                        refine pure_ (i := 12) (N := some 38) (v := ?_) (a' := ?_) #[true, true, true, true, true, false, false, false, true, true, true, true, true, false, false, false, false, false] rfl rfl (any_of HT_.out (by kernel_rfl)) (fun _ _ _ h => h) (Or.inl ⟨by rfl, ?_⟩) ?_ ?_
                        rotate_left
                        · intro w'
                          go_simp
                          with_reducible rfl
                        rotate_left
                        · simp only [Act.put, List.setIfInBounds_toArray, List.set_cons_zero, List.set_cons_succ, i64_w, i32_w]
                          rfl
                        refine take_ (i := 5) (N := some 31) (v := ?_) (a' := ?_) #[true, true, true, true, true, true, false, false, true, true, true, true, true, false, false, false, false, false] rfl rfl (take_ofW HT_.out HW_.out (by kernel_rfl)) (fun _ _ _ h => h) (Or.inl ⟨by rfl, ?_⟩) hHeld ?_ ?_
                        rotate_left
                        · rintro w' ⟨s0, s1, s2, s3, s4, s5, s6, s7, s8, s9, s10, s11, s12, s13, s14, s15, s16, s17⟩
                          go_simp
                          with_reducible rfl
                        rotate_left
                        · simp only [Act.put, List.setIfInBounds_toArray, List.set_cons_zero, List.set_cons_succ, i64_w, i32_w]
                          rfl
                        refine pure_ (i := 6) (N := some 32) (v := ?_) (a' := ?_) #[true, true, true, true, true, true, true, false, true, true, true, true, true, false, false, false, false, false] rfl rfl (any_of HT_.out (by kernel_rfl)) (fun _ _ _ h => h) (Or.inl ⟨by rfl, ?_⟩) ?_ ?_
                        rotate_left
                        · intro w'
                          go_simp
                          with_reducible rfl
                        rotate_left
                        · simp only [Act.put, List.setIfInBounds_toArray, List.set_cons_zero, List.set_cons_succ, i64_w, i32_w]
                          rfl
                        refine take_ (i := 7) (N := some 33) (v := ?_) (a' := ?_) #[true, true, true, true, true, true, true, true, true, true, true, true, true, false, false, false, false, false] rfl rfl (take_ofW HT_.out HW_.out (by kernel_rfl)) (fun _ _ _ h => h) (Or.inl ⟨by rfl, ?_⟩) hHeld ?_ ?_
                        rotate_left
                        · rintro w' ⟨s0, s1, s2, s3, s4, s5, s6, s7, s8, s9, s10, s11, s12, s13, s14, s15, s16, s17⟩
                          go_simp
                          with_reducible rfl
                        rotate_left
                        · simp only [Act.put, List.setIfInBounds_toArray, List.set_cons_zero, List.set_cons_succ, i64_w, i32_w]
                          rfl
                        refine take_ (i := 13) (N := some 39) (v := ?_) (a' := ?_) #[true, true, true, true, true, true, true, true, true, true, true, true, true, true, false, false, false, false] rfl rfl (take_ofW HT_.out HW_.out (by kernel_rfl)) (fun _ _ _ h => h) (Or.inl ⟨by rfl, ?_⟩) hHeld ?_ ?_
                        rotate_left
                        · rintro w' ⟨s0, s1, s2, s3, s4, s5, s6, s7, s8, s9, s10, s11, s12, s13, s14, s15, s16, s17⟩
                          go_simp
                          with_reducible rfl
                        rotate_left
                        · simp only [Act.put, List.setIfInBounds_toArray, List.set_cons_zero, List.set_cons_succ, i64_w, i32_w]
                          rfl
                        refine pure_ (i := 14) (N := some 40) (v := ?_) (a' := ?_) #[true, true, true, true, true, true, true, true, true, true, true, true, true, true, true, false, false, false] rfl rfl (any_of HT_.out (by kernel_rfl)) (fun _ _ _ h => h) (Or.inl ⟨by rfl, ?_⟩) ?_ ?_
                        rotate_left
                        · intro w'
                          go_simp
                          with_reducible rfl
                        rotate_left
                        · simp only [Act.put, List.setIfInBounds_toArray, List.set_cons_zero, List.set_cons_succ, i64_w, i32_w]
                          rfl
                        refine take_ (i := 15) (N := some 41) (v := ?_) (a' := ?_) #[true, true, true, true, true, true, true, true, true, true, true, true, true, true, true, true, false, false] rfl rfl (take_ofW HT_.out HW_.out (by kernel_rfl)) (fun _ _ _ h => h) (Or.inl ⟨by rfl, ?_⟩) hHeld ?_ ?_
                        rotate_left
                        · rintro w' ⟨s0, s1, s2, s3, s4, s5, s6, s7, s8, s9, s10, s11, s12, s13, s14, s15, s16, s17⟩
                          go_simp
                          with_reducible rfl
                        rotate_left
                        · simp only [Act.put, List.setIfInBounds_toArray, List.set_cons_zero, List.set_cons_succ, i64_w, i32_w]
                          rfl
                        refine one_ (i := 16) (N := some 42) #[true, true, true, true, true, true, true, true, true, true, true, true, true, true, true, true, true, false] rfl rfl (one_of HT_.out (by kernel_rfl)) (by decide) (fun K hK => ?_)
                        refine goes_ Try.func98 (by kernel_rfl) rfl #[.agg #[.int .i64 ((rd_TimplLoan l1 ((rd_TA2int t836 x10_1).f0)).f0.f0), .int .i64 ((rd_TimplLoan l1 ((rd_TA2int t836 x10_1).f0)).f0.f1), .int .i64 ((rd_TimplLoan l1 ((rd_TA2int t836 x10_1).f0)).f0.f2), .int .i64 ((rd_TimplLoan l1 ((rd_TA2int t836 x10_1).f0)).f0.f3), .bool ((rd_TimplLoan l1 ((rd_TA2int t836 x10_1).f0)).f1), .int .i64 ((rd_TimplLoan l1 ((rd_TA2int t836 x10_1).f0)).f2), .int .i64 ((rd_TimplLoan l1 ((rd_TA2int t836 x10_1).f0)).f3)], .agg #[.int .i64 ((rd_TimplLoan l1 ((rd_TA2int t836 x10_1).f1)).f0.f0), .int .i64 ((rd_TimplLoan l1 ((rd_TA2int t836 x10_1).f1)).f0.f1), .int .i64 ((rd_TimplLoan l1 ((rd_TA2int t836 x10_1).f1)).f0.f2), .int .i64 ((rd_TimplLoan l1 ((rd_TA2int t836 x10_1).f1)).f0.f3), .bool ((rd_TimplLoan l1 ((rd_TA2int t836 x10_1).f1)).f1), .int .i64 ((rd_TimplLoan l1 ((rd_TA2int t836 x10_1).f1)).f2), .int .i64 ((rd_TimplLoan l1 ((rd_TA2int t836 x10_1).f1)).f3)]] (by rfl) rfl rfl (by (try simp only [List.map_toArray, List.map_cons, List.map_nil]); first | done | rfl | (simp only [List.length_drop, List.length_take]; rfl)) ?_
                        with_reducible refine (spec_l10Clash.calls ((rd_TimplLoan l1 ((rd_TA2int t836 x10_1).f0)).f0.f0) ((rd_TimplLoan l1 ((rd_TA2int t836 x10_1).f0)).f0.f1) ((rd_TimplLoan l1 ((rd_TA2int t836 x10_1).f0)).f0.f2) ((rd_TimplLoan l1 ((rd_TA2int t836 x10_1).f0)).f0.f3) ((rd_TimplLoan l1 ((rd_TA2int t836 x10_1).f0)).f1) ((rd_TimplLoan l1 ((rd_TA2int t836 x10_1).f0)).f2) ((rd_TimplLoan l1 ((rd_TA2int t836 x10_1).f0)).f3) ((rd_TimplLoan l1 ((rd_TA2int t836 x10_1).f1)).f0.f0) ((rd_TimplLoan l1 ((rd_TA2int t836 x10_1).f1)).f0.f1) ((rd_TimplLoan l1 ((rd_TA2int t836 x10_1).f1)).f0.f2) ((rd_TimplLoan l1 ((rd_TA2int t836 x10_1).f1)).f0.f3) ((rd_TimplLoan l1 ((rd_TA2int t836 x10_1).f1)).f1) ((rd_TimplLoan l1 ((rd_TA2int t836 x10_1).f1)).f2) ((rd_TimplLoan l1 ((rd_TA2int t836 x10_1).f1)).f3) t844 _ A22.out).mono ?_
                        rintro e w39 ⟨rfl, hb⟩
                        have HS0_ := (hb.cell (World.block_lt_of_cell? _ _ (hHeld.1))).trans (hHeld.1)
                        have HS1_ := (hb.cell (World.block_lt_of_cell? _ _ (hHeld.2.1))).trans (hHeld.2.1)
                        have HS9_ := (hb.cell (World.block_lt_of_cell? _ _ (hHeld.2.2.2.2.2.2.2.2.2.1))).trans (hHeld.2.2.2.2.2.2.2.2.2.1)
                        have HS10_ := (hb.cell (World.block_lt_of_cell? _ _ (hHeld.2.2.2.2.2.2.2.2.2.2.1))).trans (hHeld.2.2.2.2.2.2.2.2.2.2.1)
                        refine ⟨_, rfl, ?_⟩
                        have n0_ := Aside0.mk (Kd.R_below (by (with_reducible repeat (first | apply Kd.R_alloc | apply Kd.R_drewN | apply Kd.R_drew)); exact HO_7.out) hb)
                        have n1_ := Aside0.mk (blk_below (g := gb833) (o := .cells #[.slice A0_0 l0_0.length c0_0] 26 (0, 0)) (by (with_reducible repeat (first | refine blk_drewN ?_ _ | refine blk_drew ?_ | refine blk_alloc ?_ _)); exact BK833.out) hb)
                        have n2_ := Aside0.mk (blk_below (g := gb834) (o := .cells #[.int .i64 0, .int .i64 0] 75 (0, 0)) (by (with_reducible repeat (first | refine blk_drewN ?_ _ | refine blk_drew ?_ | refine blk_alloc ?_ _)); exact BK834.out) hb)
                        have n3_ := Aside0.mk (blk_below (g := gb839) (o := .cells #[.int .i64 x840000_1, .int .i64 x840001_1] 75 (0, 0)) (by (with_reducible repeat (first | refine blk_drewN ?_ _ | refine blk_drew ?_ | refine blk_alloc ?_ _)); exact BK839.out) hb)
                        have n4_ := Aside0.mk (below_step (by repeat (first | (with_reducible first | exact HB.out | apply below_alloc | apply pw_below_drewN | apply below_drew1 | refine below_set ?_ GE833.out | refine below_set ?_ GE834.out | refine below_set ?_ GE839.out) | exact HB.out)) hb)
                        clear HO_7
                        clear BK833
                        clear BK834
                        clear BK839
                        clear HB
                        have HO_7 := n0_
                        have BK833 := n1_
                        have BK834 := n2_
                        have BK839 := n3_
                        have HB := n4_
                        clear n0_ n1_ n2_ n3_ n4_
                        (try clear hb)
                        (try clear hb2)
                        (try clear hk)
                        (try clear hi)
                        refine hK.out _ _ ⟨HS0_, HS1_, (by have h_ := ((HB.out.cell (World.block_lt_of_cell? w _ hw841_0)).trans hw841_0); first | exact h_ | (simp only [*] at h_; exact h_) | simpa [*] using h_), (by have h_ := ((HB.out.cell (World.block_lt_of_cell? w _ hw841_1)).trans hw841_1); first | exact h_ | (simp only [*] at h_; exact h_) | simpa [*] using h_), (by have h_ := ((HB.out.cell (World.block_lt_of_cell? w _ hw841_2)).trans hw841_2); first | exact h_ | (simp only [*] at h_; exact h_) | simpa [*] using h_), (by have h_ := ((HB.out.cell (World.block_lt_of_cell? w _ hw841_3)).trans hw841_3); first | exact h_ | (simp only [*] at h_; exact h_) | simpa [*] using h_), (by have h_ := ((HB.out.cell (World.block_lt_of_cell? w _ hw841_4)).trans hw841_4); first | exact h_ | (simp only [*] at h_; exact h_) | simpa [*] using h_), (by have h_ := ((HB.out.cell (World.block_lt_of_cell? w _ hw841_5)).trans hw841_5); first | exact h_ | (simp only [*] at h_; exact h_) | simpa [*] using h_), (by have h_ := ((HB.out.cell (World.block_lt_of_cell? w _ hw841_6)).trans hw841_6); first | exact h_ | (simp only [*] at h_; exact h_) | simpa [*] using h_), HS9_, HS10_, (by have h_ := ((HB.out.cell (World.block_lt_of_cell? w _ hw843_0)).trans hw843_0); first | exact h_ | (simp only [*] at h_; exact h_) | simpa [*] using h_), (by have h_ := ((HB.out.cell (World.block_lt_of_cell? w _ hw843_1)).trans hw843_1); first | exact h_ | (simp only [*] at h_; exact h_) | simpa [*] using h_), (by have h_ := ((HB.out.cell (World.block_lt_of_cell? w _ hw843_2)).trans hw843_2); first | exact h_ | (simp only [*] at h_; exact h_) | simpa [*] using h_), (by have h_ := ((HB.out.cell (World.block_lt_of_cell? w _ hw843_3)).trans hw843_3); first | exact h_ | (simp only [*] at h_; exact h_) | simpa [*] using h_), (by have h_ := ((HB.out.cell (World.block_lt_of_cell? w _ hw843_4)).trans hw843_4); first | exact h_ | (simp only [*] at h_; exact h_) | simpa [*] using h_), (by have h_ := ((HB.out.cell (World.block_lt_of_cell? w _ hw843_5)).trans hw843_5); first | exact h_ | (simp only [*] at h_; exact h_) | simpa [*] using h_), (by have h_ := ((HB.out.cell (World.block_lt_of_cell? w _ hw843_6)).trans hw843_6); first | exact h_ | (simp only [*] at h_; exact h_) | simpa [*] using h_)⟩ (fun hHeld => ?_)
                        clear hK K
                        refine norm_ (a' := ?_) ?_ ?_
                        rotate_left
                        · show Act.put _ (some 42) _ = _
                          simp only [Act.put, List.setIfInBounds_toArray, List.set_cons_zero, List.set_cons_succ, i64_w, i32_w]
                          rfl
                        refine pure_ (i := 17) (N := some 11) (v := ?_) (a' := ?_) #[true, true, true, true, true, true, true, true, true, true, true, true, true, true, true, true, true, true] rfl rfl (any_of HT_.out (by kernel_rfl)) (fun _ _ _ h => h) (Or.inl ⟨by rfl, ?_⟩) ?_ ?_
                        rotate_left
                        · intro w'
                          go_simp
                          with_reducible rfl
                        rotate_left
                        · simp only [Act.put, List.setIfInBounds_toArray, List.set_cons_zero, List.set_cons_succ, i64_w, i32_w]
                          rfl
                        refine done_ (done_of HT_.out (by kernel_rfl)) ?_
                        try go_wp2
                        go_roundg k1
                        case measure => have := HK1.out; omega
                        case rel => exact ⟨(x8_1), (wrap64 (x10_1 + 1)), (x840000_1), (x840001_1), (by first | rfl | (simp; done) | (simp [*]; done)), (by first | rfl | (simp; done) | (simp [*]; done)), H', ⟨by have := HK1.out; omega⟩, ⟨by (with_reducible repeat (first | apply Kd.R_alloc | apply Kd.R_drewN | apply Kd.R_drew)); exact HO_7.out⟩, ⟨by (with_reducible repeat (first | refine blk_drewN ?_ _ | refine blk_drew ?_ | refine blk_alloc ?_ _)); exact BK833.out⟩, ⟨by (with_reducible repeat (first | refine blk_drewN ?_ _ | refine blk_drew ?_ | refine blk_alloc ?_ _)); exact BK834.out⟩, ⟨by (with_reducible repeat (first | refine blk_drewN ?_ _ | refine blk_drew ?_ | refine blk_alloc ?_ _)); exact BK839.out⟩, ⟨by repeat (first | (with_reducible first | exact HB.out | apply below_alloc | apply pw_below_drewN | apply below_drew1 | refine below_set ?_ GE833.out | refine below_set ?_ GE834.out | refine below_set ?_ GE839.out) | exact HB.out)⟩⟩
                  · rw [if_neg c21] at H
                    exact absurd H (by simp)
                · rw [if_neg c20] at H
                  exact absurd H (by simp)
              · rw [if_neg c19] at H
                exact absurd H (by simp)
            · rw [if_neg c18] at H
              exact absurd H (by simp)
          · rw [if_neg c17] at H
            exact absurd H (by simp)
        · rw [if_neg c16] at H
          have c16b0 : decide (x10_1 < (t836.length : Int)) = false := decide_eq_false c16
          clear c16
          replace H := Option.bind_eq_some_iff.mp H
          obtain ⟨t847, A400, H⟩ := H
          replace H : (some (t847, x840000_1, x840001_1, decide (x8_1 ≥ 0))) = some (r1, r2, r3, r4) := H
          have A40 := Aside0.mk A400
          clear A400
          simp only [Option.some.injEq, Prod.mk.injEq] at H
          obtain ⟨rfl, rfl, rfl, rfl⟩ := H
          obtain ⟨Ao41, co41, eo41⟩ := Kd.R_slice HO_7.out
          subst eo41
          try go_wp2
          have n0_ := Aside0.mk (Kd.R_drew HO_7.out)
          have n1_ := Aside0.mk (blk_drew BK833.out)
          have n2_ := Aside0.mk (blk_drew BK834.out)
          have n3_ := Aside0.mk (blk_drew BK839.out)
          have n4_ := Aside0.mk (below_drew1 HB.out)
          clear HO_7
          clear BK833
          clear BK834
          clear BK839
          clear HB
          have HO_7 := n0_
          have BK833 := n1_
          have BK834 := n2_
          have BK839 := n3_
          have HB := n4_
          clear n0_ n1_ n2_ n3_ n4_
          refine start_ (n := 8) (S := fun w' => w'.cell? ⟨gb839, 0, none⟩ = some (.int .i64 x840000_1) ∧ w'.cell? ⟨gb839, 1, none⟩ = some (.int .i64 x840001_1)) (ds := []) #[false, false, false, false, false, false, false, false] (by kernel_rfl) rfl rfl ⟨(blk_cell BK839.out 0).trans rfl, (blk_cell BK839.out 1).trans rfl⟩ (fun hHeld => ?_); refine with_tabW spec_FirstClash.tab11 spec_FirstClash.bits11 (fun HT_ HW_ => ?_)
          generalize wr.drew = w42 at HO_7 BK833 BK834 BK839 HB hHeld ⊢
          refine pure_ (i := 0) (N := some 55) (v := ?_) (a' := ?_) #[true, false, false, false, false, false, false, false] rfl rfl (any_of HT_.out (by kernel_rfl)) (fun _ _ _ h => h) (Or.inl ⟨by rfl, ?_⟩) ?_ ?_
          rotate_left
          · intro w'
            go_simp
            with_reducible rfl
          rotate_left
          · simp only [Act.put, List.setIfInBounds_toArray, List.set_cons_zero, List.set_cons_succ, i64_w, i32_w]
            rfl
          refine pure_ (i := 3) (N := some 58) (v := ?_) (a' := ?_) #[true, false, false, true, false, false, false, false] rfl rfl (any_of HT_.out (by kernel_rfl)) (fun _ _ _ h => h) (Or.inl ⟨by rfl, ?_⟩) ?_ ?_
          rotate_left
          · intro w'
            go_simp
            with_reducible rfl
          rotate_left
          · simp only [Act.put, List.setIfInBounds_toArray, List.set_cons_zero, List.set_cons_succ, i64_w, i32_w]
            rfl
          refine pure_ (i := 4) (N := some 59) (v := ?_) (a' := ?_) #[true, false, false, true, true, false, false, false] rfl rfl (any_of HT_.out (by kernel_rfl)) (fun _ _ _ h => h) (Or.inl ⟨by rfl, ?_⟩) ?_ ?_
          rotate_left
          · intro w'
            go_simp
            with_reducible rfl
          rotate_left
          · simp only [Act.put, List.setIfInBounds_toArray, List.set_cons_zero, List.set_cons_succ, i64_w, i32_w]
            rfl
          refine take_ (i := 2) (N := some 57) (v := ?_) (a' := ?_) #[true, false, true, true, true, false, false, false] rfl rfl (take_ofW HT_.out HW_.out (by kernel_rfl)) (fun _ _ _ h => h) (Or.inl ⟨by rfl, ?_⟩) hHeld ?_ ?_
          rotate_left
          · rintro w' ⟨s0, s1⟩
            go_simp
            with_reducible rfl
          rotate_left
          · simp only [Act.put, List.setIfInBounds_toArray, List.set_cons_zero, List.set_cons_succ, i64_w, i32_w]
            rfl
          refine one_ (i := 1) (N := some 56) #[true, true, true, true, true, false, false, false] rfl rfl (one_of HT_.out (by kernel_rfl)) (by decide) (fun K hK => ?_)
          refine goes_ Try.func99 (by kernel_rfl) rfl #[.int .i64 x8_1, .int .i64 0] (by rfl) rfl rfl (by (try simp only [List.map_toArray, List.map_cons, List.map_nil]); first | done | rfl | (simp only [List.length_drop, List.length_take]; rfl)) ?_
          with_reducible refine (spec_l1Most.calls x8_1 0 t847 _ A40.out).mono ?_
          rintro e w' ⟨rfl, ⟨nd, rfl⟩⟩
          refine ⟨_, rfl, ?_⟩
          refine hK.out _ _ ⟨(blk_cell BK839.out 0).trans rfl, (blk_cell BK839.out 1).trans rfl⟩ (fun hHeld => ?_)
          clear hK K
          refine norm_ (a' := ?_) ?_ ?_
          rotate_left
          · show Act.put _ (some 56) _ = _
            simp only [Act.put, List.setIfInBounds_toArray, List.set_cons_zero, List.set_cons_succ, i64_w, i32_w]
            rfl
          refine pure_ (i := 5) (N := some 4) (v := ?_) (a' := ?_) #[true, true, true, true, true, true, false, false] rfl rfl (any_of HT_.out (by kernel_rfl)) (fun _ _ _ h => h) (Or.inl ⟨by rfl, ?_⟩) ?_ ?_
          rotate_left
          · intro w'
            go_simp
            with_reducible rfl
          rotate_left
          · simp only [Act.put, List.setIfInBounds_toArray, List.set_cons_zero, List.set_cons_succ, i64_w, i32_w]
            rfl
          refine one_ (i := 6) (N := none) #[true, true, true, true, true, true, true, false] rfl rfl (one_of HT_.out (by kernel_rfl)) (by decide) (fun K hK => ?_)
          have hs43 : w42.cell? ⟨gb834, 0, none⟩ = some (.int .i64 0) := (blk_cell BK834.out 0).trans rfl
          have hfs43 := blk_frozen BK834.out 0
          have hns43_0 := NB833_834.out
          have hns43_2 := NB839_834.out
          have hms43_0 := NB834_833.out
          have hms43_2 := NB834_839.out
          have hs44 : w42.cell? ⟨gb834, 1, none⟩ = some (.int .i64 0) := (blk_cell BK834.out 1).trans rfl
          have hfs44 := blk_frozen BK834.out 1
          have hns44_0 := NB833_834.out
          have hns44_2 := NB839_834.out
          have hms44_0 := NB834_833.out
          have hms44_2 := NB834_839.out
          refine skip_ (w1 := ?_) (by rfl) rfl ?_ ?_
          rotate_left
          · go_simp
            rfl
          refine hK.out _ _ ⟨((cell_far (p := ⟨gb834, _, none⟩) NB839_834.out _).trans (((cell_far (p := ⟨gb834, _, none⟩) NB839_834.out _).trans (hHeld.1)))), ((cell_far (p := ⟨gb834, _, none⟩) NB839_834.out _).trans (((cell_far (p := ⟨gb834, _, none⟩) NB839_834.out _).trans (hHeld.2))))⟩ (fun hHeld => ?_)
          clear hK K
          refine pure_ (i := 7) (N := some 6) (v := ?_) (a' := ?_) #[true, true, true, true, true, true, true, true] rfl rfl (any_of HT_.out (by kernel_rfl)) (fun _ _ _ h => h) (Or.inl ⟨by rfl, ?_⟩) ?_ ?_
          rotate_left
          · intro w'
            go_simp
            with_reducible rfl
          rotate_left
          · simp only [Act.put, List.setIfInBounds_toArray, List.set_cons_zero, List.set_cons_succ, i64_w, i32_w]
            rfl
          refine done_ (done_of HT_.out (by kernel_rfl)) ?_
          try go_wp2
          refine bodyPost_ret (results_list (rs := [.tmp 4, .cell 5 75, .tmp 6]) rfl (by simp) (.tmp (.cell gb834 75 #[.int .i64 x840000_1, .int .i64 x840001_1] (0, 0) _ rfl (by (with_reducible repeat (first | refine blk_drewN ?_ _ | refine blk_drew ?_ | refine blk_alloc ?_ _)); refine blk_put (cs := #[.int .i64 x840000_1, .int .i64 0]) ?_ 1 _ rfl; (with_reducible repeat (first | refine blk_drewN ?_ _ | refine blk_drew ?_ | refine blk_alloc ?_ _)); refine blk_put (cs := #[.int .i64 0, .int .i64 0]) ?_ 0 _ rfl; (with_reducible repeat (first | refine blk_drewN ?_ _ | refine blk_drew ?_ | refine blk_alloc ?_ _)); exact BK834.out) Try.underlying75 rfl (by kernel_rfl) (.tmp .nil)))) rfl ?_
          exact ⟨by first | rfl | (simp [errW_none, errW_some] <;> rfl) | (simp [*, errW_none, errW_some] <;> rfl), by repeat (first | (with_reducible first | exact HB.out | apply below_alloc | apply pw_below_drewN | apply below_drew1 | refine below_set ?_ GE833.out | refine below_set ?_ GE834.out | refine below_set ?_ GE839.out) | exact HB.out)⟩
  · replace c4 := Bool.eq_false_iff.mpr c4
    subst c4
    have H1 : (some (0, 0, 0, false)) = some (r1, r2, r3, r4) := by rw [if_neg (show ¬ (false = true) by decide)] at H; exact H
    clear H
    have H := H1
    clear H1
    simp only [Option.some.injEq, Prod.mk.injEq] at H
    obtain ⟨rfl, rfl, rfl, rfl⟩ := H
    go_enter Try.func44, Try.ntmps44
    go_wp2_with (first | ((with_reducible refine gate_dst (N := 2) rfl ?_); refine box_event ?hg (N := 2) ?hd (cs := #[.slice A0_0 l0_0.length c0_0]) (t := 26) ?hr ?_; (case hd => rfl); (case hg => rfl); (case hr => first | (go_simp; done) | (go_simp; rfl)); intro gb833 hg w45 hbox hb; have n0_ := Aside0.mk (below_step (by repeat (first | (with_reducible first | exact HB.out | apply below_alloc | apply pw_below_drewN | apply below_drew1) | exact HB.out)) hb); have n1_ := Aside0.mk (hbox); have n2_ := Aside0.mk ((by rw [hg]; exact (below_size (by repeat (first | (with_reducible first | exact HB.out | apply below_alloc | apply pw_below_drewN | apply below_drew1) | exact HB.out))) : w.heap.size ≤ gb833)); have n3_ := Aside0.mk ((by rw [hg]; exact (below_size (by repeat (first | (with_reducible first | exact HB.out | apply below_alloc | apply pw_below_drewN | apply below_drew1) | exact HB.out))) : w.heap.size ≤ gb833)); clear HB; have HB := n0_; have BK833 := n1_; have GW833 := n2_; have GE833 := n3_; clear n0_ n1_ n2_ n3_; clear hb hbox hg) | ((with_reducible refine gate_dst (N := 5) rfl ?_); refine box_event ?hg (N := 5) ?hd (cs := #[.int .i64 0, .int .i64 0]) (t := 75) ?hr ?_; (case hd => rfl); (case hg => rfl); (case hr => first | (go_simp; done) | (go_simp; rfl)); intro gb834 hg w46 hbox hb; have n0_ := Aside0.mk (blk_below (g := gb833) (o := .cells #[.slice A0_0 l0_0.length c0_0] 26 (0, 0)) (by (with_reducible repeat (first | refine blk_drewN ?_ _ | refine blk_drew ?_ | refine blk_alloc ?_ _)); exact BK833.out) hb); have n1_ := Aside0.mk (below_step (by repeat (first | (with_reducible first | exact HB.out | apply below_alloc | apply pw_below_drewN | apply below_drew1 | refine below_set ?_ GE833.out) | exact HB.out)) hb); have n2_ := Aside0.mk (hbox); have n3_ := Aside0.mk ((by rw [hg]; exact (below_size (by repeat (first | (with_reducible first | exact HB.out | apply below_alloc | apply pw_below_drewN | apply below_drew1 | refine below_set ?_ GE833.out) | exact HB.out))) : w.heap.size ≤ gb834)); have n4_ := Aside0.mk ((by rw [hg]; exact (below_size (by repeat (first | (with_reducible first | exact HB.out | apply below_alloc | apply pw_below_drewN | apply below_drew1 | refine below_set ?_ GE833.out) | exact HB.out))) : w.heap.size ≤ gb834)); have n5_ := Aside0.mk ((by rw [hg]; exact Nat.ne_of_lt (blk_lt (g := gb833) (o := .cells #[.slice A0_0 l0_0.length c0_0] 26 (0, 0)) (by (with_reducible repeat (first | refine blk_drewN ?_ _ | refine blk_drew ?_ | refine blk_alloc ?_ _)); exact BK833.out)) : gb833 ≠ gb834)); have n6_ := Aside0.mk ((by rw [hg]; exact Nat.ne_of_gt (blk_lt (g := gb833) (o := .cells #[.slice A0_0 l0_0.length c0_0] 26 (0, 0)) (by (with_reducible repeat (first | refine blk_drewN ?_ _ | refine blk_drew ?_ | refine blk_alloc ?_ _)); exact BK833.out)) : gb834 ≠ gb833)); clear BK833; clear HB; have BK833 := n0_; have HB := n1_; have BK834 := n2_; have GW834 := n3_; have GE834 := n4_; have NB833_834 := n5_; have NB834_833 := n6_; clear n0_ n1_ n2_ n3_ n4_ n5_ n6_; clear hb hbox hg; have hnb47 := NB833_834.out; have hnc47 := NB834_833.out; have hcz48_0 : w46.cell? ⟨gb833, 0, none⟩ = some (.slice A0_0 l0_0.length c0_0) := (blk_cell BK833.out 0).trans rfl; have hfz48_0 := blk_frozen BK833.out 0) | ((with_reducible refine gate_callee (f := 83) rfl ?_); refine goesL_ (some 14) rfl rfl Try.func83 (by kernel_rfl) rfl #[.agg #[.slice A0_0 l0_0.length c0_0], .slice A1 l1.length c1] rfl (by (try simp only [List.map_toArray, List.map_cons, List.map_nil]); first | done | rfl | (simp only [List.length_drop, List.length_take]; rfl)) ?_; (with_reducible refine (spec_l10Loans.calls k _ _ l0_0 _ _ l1 false _ ?side1 ?side2 ?side3 ?side4 A3.out).mono ?_); (case side1 => repeat (first | exact (Kd.C_below HR0_0.out HB.out) | (with_reducible refine Kd.C_alloc ?_ _) | (with_reducible refine Kd.C_drewN ?_ _) | (with_reducible refine Kd.C_drew ?_))); (case side2 => exact HC0_0.out); (case side3 => repeat (first | exact (Kd.C_below HR1.out HB.out) | (with_reducible refine Kd.C_alloc ?_ _) | (with_reducible refine Kd.C_drewN ?_ _) | (with_reducible refine Kd.C_drew ?_))); (case side4 => exact HC1.out); rintro e w49 ⟨rfl, hb⟩; refine ⟨_, rfl, ?_⟩; have n0_ := Aside0.mk (blk_below (g := gb833) (o := .cells #[.slice A0_0 l0_0.length c0_0] 26 (0, 0)) (by (with_reducible repeat (first | refine blk_drewN ?_ _ | refine blk_drew ?_ | refine blk_alloc ?_ _)); exact BK833.out) hb); have n1_ := Aside0.mk (blk_below (g := gb834) (o := .cells #[.int .i64 0, .int .i64 0] 75 (0, 0)) (by (with_reducible repeat (first | refine blk_drewN ?_ _ | refine blk_drew ?_ | refine blk_alloc ?_ _)); exact BK834.out) hb); have n2_ := Aside0.mk (below_step (by repeat (first | (with_reducible first | exact HB.out | apply below_alloc | apply pw_below_drewN | apply below_drew1 | refine below_set ?_ GE833.out | refine below_set ?_ GE834.out) | exact HB.out)) hb); clear BK833; clear BK834; clear HB; have BK833 := n0_; have BK834 := n1_; have HB := n2_; clear n0_ n1_ n2_; (try clear hb); (try clear hb2); (try clear hk); (try clear hi); have hcz50_0 : w49.cell? ⟨gb834, 0, none⟩ = some (.int .i64 0) := (blk_cell BK834.out 0).trans rfl; have hcz50_1 : w49.cell? ⟨gb834, 1, none⟩ = some (.int .i64 0) := (blk_cell BK834.out 1).trans rfl; have hfz50_0 := blk_frozen BK834.out 0; have hfz50_1 := blk_frozen BK834.out 1))
    refine bodyPost_ret (results_list (rs := [.tmp 4, .cell 5 75, .tmp 6]) rfl (by simp) (.tmp (.cell gb834 75 #[.int .i64 0, .int .i64 0] (0, 0) _ rfl (by (with_reducible repeat (first | refine blk_drewN ?_ _ | refine blk_drew ?_ | refine blk_alloc ?_ _)); refine blk_put (cs := #[.int .i64 0, .int .i64 0]) ?_ 1 _ rfl; (with_reducible repeat (first | refine blk_drewN ?_ _ | refine blk_drew ?_ | refine blk_alloc ?_ _)); refine blk_put (cs := #[.int .i64 0, .int .i64 0]) ?_ 0 _ rfl; (with_reducible repeat (first | refine blk_drewN ?_ _ | refine blk_drew ?_ | refine blk_alloc ?_ _)); exact BK834.out) Try.underlying75 rfl (by kernel_rfl) (.tmp .nil)))) rfl ?_
    exact ⟨by first | rfl | (simp [errW_none, errW_some] <;> rfl) | (simp [*, errW_none, errW_some] <;> rfl), by repeat (first | (with_reducible first | exact HB.out | apply below_alloc | apply pw_below_drewN | apply below_drew1 | refine below_set ?_ GE833.out | refine below_set ?_ GE834.out) | exact HB.out)⟩

end Go.Proofs.Ytpbboooeahmgpaa.P


