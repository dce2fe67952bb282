/- For all arguments, impl.ResetArena answers what spec.ResetArena answers, leaves its arguments alone, and shares nothing of what it returns.
   The row of the law FnExactResetArena, out of its walk. Conditions: none. -/
import Derived.Test.YtoomjghabiojkaaQFnExactResetArena4
import Derived.Test.YtoomjghabiojkaaRows
import Derived.WalkKit
import Derived.ProofKit
import Derived.OpenShut
import Derived.ShutString
import Derived.ChangeOld
import Derived.Below
import Derived.SizedLaws
namespace Go.Proofs.Ytoomjghabiojkaa.P
open Go.RowKit Go.Proofs.YtoomjghabiojkaaW.PrintWords Go.Proofs.YtoomjghabiojkaaW.PrintLast Go.Proofs.YtoomjghabiojkaaW.PrintMore
attribute [local go_sem] max2_int min2_int max_two min_two max_three min_three max_four min_four   -- for this text's walks alone
set_option linter.unusedVariables false
set_option linter.unusedSimpArgs false

def impl_ResetArena.f (k : Nat) (l0_0 : List (List Int)) (a0_1 : Int) (a0_2 : Int) (a0_3 : Int) (a0_4 : Int) (a0_5 : Int) (l0_6 : List Int) : Option ((List (List Int)) × Int × Int × Int × Int × Int × List Int × Bool) := (impl_IsArena.f k l0_0 a0_1 a0_2 a0_3 a0_4 a0_5 l0_6).bind fun t1095 => (if t1095 = true then (if (l0_6.length : Int) = 0 then (some (([] : List (List Int)), 0, 0, 0, 0, 0, ([] : List Int), false)) else ((impl_Arena_own.f k l0_0 a0_1 a0_2 a0_3 a0_4 a0_5 l0_6).bind fun bt1096 => (if 0 ≤ (wrap64 ((l0_6.length : Int) - 1)) then (if (wrap64 ((l0_6.length : Int) - 1)) < (l0_6.length : Int) then (if (wrap64 ((l0_6.length : Int) - 1)) ≤ (bt1096.2.2.2.2.2.2.length : Int) then (some (bt1096.1, bt1096.2.1, bt1096.2.2.1, bt1096.2.2.2.1, bt1096.2.2.2.2.1, rd l0_6 (wrap64 ((l0_6.length : Int) - 1)), (bt1096.2.2.2.2.2.2.take ((wrap64 ((l0_6.length : Int) - 1)) : Int).toNat), true)) else (none)) else (none)) else (none)))) else (some (([] : List (List Int)), 0, 0, 0, 0, 0, ([] : List Int), false)))
def impl_ResetArena.T3 : Bool × List (List Nat × List Nat) := (true, [([], []), ([0], [0]), ([], []), ([2], [2]), ([3], [3]), ([4], [4]), ([], []), ([6, 1, 1, 0, 1, 6], [1, 6]), ([5, 7, 0, 1, 2, 3, 4, 5, 6, 7], [5])])
def impl_ResetArena.B3 : List Nat := [0, 1, 0, 4, 12, 28, 0, 67, 255]
theorem impl_ResetArena.tab3 : rtab .any (opsOf Try.f60 3) = impl_ResetArena.T3 := by kernel_rfl
theorem impl_ResetArena.bits3 : waitsOk impl_ResetArena.T3.2 impl_ResetArena.B3 = true := by kernel_rfl
def impl_ResetArena.T4 : Bool × List (List Nat × List Nat) := (true, [([], []), ([0], [0]), ([], []), ([1, 2], [1, 2]), ([3], [3]), ([], []), ([5], [5]), ([], []), ([6, 7], [6, 7]), ([0, 1, 2, 3, 4, 5, 6], []), ([9, 4, 0, 1, 2, 3, 4, 5, 6], [4, 9]), ([0, 1, 2, 3, 4, 5, 6, 7, 8, 9, 10], []), ([11, 8, 10, 0, 1, 2, 3, 4, 5, 6, 7, 8, 9, 10], [8, 11])])
def impl_ResetArena.B4 : List Nat := [0, 1, 0, 7, 15, 0, 32, 0, 224, 127, 639, 2047, 4095]
theorem impl_ResetArena.tab4 : rtab .any (opsOf Try.f60 4) = impl_ResetArena.T4 := by kernel_rfl
theorem impl_ResetArena.bits4 : waitsOk impl_ResetArena.T4.2 impl_ResetArena.B4 = true := by kernel_rfl
set_option maxHeartbeats 8000000 in
set_option maxRecDepth 100000 in
theorem impl_ResetArena.calls (k : Nat) (A0_0 : Option Addr) (c0_0 : Nat) (l0_0 : List (List Int)) (a0_1 : Int) (a0_2 : Int) (a0_3 : Int) (a0_4 : Int) (a0_5 : Int) (A0_6 : Option Addr) (c0_6 : Nat) (l0_6 : List Int) (r1 : List (List Int)) (r2 : Int) (r3 : Int) (r4 : Int) (r5 : Int) (r6 : Int) (r7 : List Int) (r8 : Bool) (w : World) (hr0_0 : Kd.C (Kd.slice 5 (Kd.int .u8)) w A0_0 l0_0.length l0_0) (hc0_0 : l0_0.length ≤ c0_0) (hr0_6 : Kd.C (Kd.int .i64) w A0_6 l0_6.length l0_6) (hc0_6 : l0_6.length ≤ c0_6) (h : impl_ResetArena.f k l0_0 a0_1 a0_2 a0_3 a0_4 a0_5 l0_6 = some (r1, r2, r3, r4, r5, r6, r7, r8)) :
    Calls Try.prog 60 #[.agg #[.slice A0_0 l0_0.length c0_0, .int .i64 a0_1, .int .i64 a0_2, .int .i64 a0_3, .int .i64 a0_4, .int .i64 a0_5, .slice A0_6 l0_6.length c0_6]] w fun e w' => ∃ v0_ v6_ : Value, e = .returned (.tuple #[.agg #[v0_, .int .i64 r2, .int .i64 r3, .int .i64 r4, .int .i64 r5, .int .i64 r6, v6_], .bool r8]) ∧ Kd.S (Kd.slice 5 (Kd.int .u8)) 119 w' w.heap.size (fun _ => True) v0_ r1 ∧ Kd.R (Kd.int .i64) 3 w' w.heap.size (fun _ => True) v6_ r7 ∧ Below w.heap.size w w' := by
  have hu51 := Try.underlying51
  have HR0_0 := Aside0.mk hr0_0
  have HC0_0 := Aside0.mk hc0_0
  clear hr0_0 hc0_0
  have HR0_6 := Aside0.mk hr0_6
  have HC0_6 := Aside0.mk hc0_6
  clear hr0_6 hc0_6
  have HB := Aside0.mk (Below.refl w.heap.size w)
  have H : ((impl_IsArena.f k l0_0 a0_1 a0_2 a0_3 a0_4 a0_5 l0_6).bind fun t1095 => (if t1095 = true then (if (l0_6.length : Int) = 0 then (some (([] : List (List Int)), 0, 0, 0, 0, 0, ([] : List Int), false)) else ((impl_Arena_own.f k l0_0 a0_1 a0_2 a0_3 a0_4 a0_5 l0_6).bind fun bt1096 => (if 0 ≤ (wrap64 ((l0_6.length : Int) - 1)) then (if (wrap64 ((l0_6.length : Int) - 1)) < (l0_6.length : Int) then (if (wrap64 ((l0_6.length : Int) - 1)) ≤ (bt1096.2.2.2.2.2.2.length : Int) then (some (bt1096.1, bt1096.2.1, bt1096.2.2.1, bt1096.2.2.2.1, bt1096.2.2.2.2.1, rd l0_6 (wrap64 ((l0_6.length : Int) - 1)), (bt1096.2.2.2.2.2.2.take ((wrap64 ((l0_6.length : Int) - 1)) : Int).toNat), true)) else (none)) else (none)) else (none)))) else (some (([] : List (List Int)), 0, 0, 0, 0, 0, ([] : List Int), false)))) = some (r1, r2, r3, r4, r5, r6, r7, r8) := h
  clear h
  replace H := Option.bind_eq_some_iff.mp H
  obtain ⟨t1095, A20, H⟩ := H
  replace H : (if t1095 = true then (if (l0_6.length : Int) = 0 then (some (([] : List (List Int)), 0, 0, 0, 0, 0, ([] : List Int), false)) else ((impl_Arena_own.f k l0_0 a0_1 a0_2 a0_3 a0_4 a0_5 l0_6).bind fun bt1096 => (if 0 ≤ (wrap64 ((l0_6.length : Int) - 1)) then (if (wrap64 ((l0_6.length : Int) - 1)) < (l0_6.length : Int) then (if (wrap64 ((l0_6.length : Int) - 1)) ≤ (bt1096.2.2.2.2.2.2.length : Int) then (some (bt1096.1, bt1096.2.1, bt1096.2.2.1, bt1096.2.2.2.1, bt1096.2.2.2.2.1, rd l0_6 (wrap64 ((l0_6.length : Int) - 1)), (bt1096.2.2.2.2.2.2.take ((wrap64 ((l0_6.length : Int) - 1)) : Int).toNat), true)) else (none)) else (none)) else (none)))) else (some (([] : List (List Int)), 0, 0, 0, 0, 0, ([] : List Int), false))) = some (r1, r2, r3, r4, r5, r6, r7, r8) := H
  have A2 := Aside0.mk A20
  clear A20
  by_cases c3 : t1095 = true
  · subst c3
    have H1 : (if (l0_6.length : Int) = 0 then (some (([] : List (List Int)), 0, 0, 0, 0, 0, ([] : List Int), false)) else ((impl_Arena_own.f k l0_0 a0_1 a0_2 a0_3 a0_4 a0_5 l0_6).bind fun bt1096 => (if 0 ≤ (wrap64 ((l0_6.length : Int) - 1)) then (if (wrap64 ((l0_6.length : Int) - 1)) < (l0_6.length : Int) then (if (wrap64 ((l0_6.length : Int) - 1)) ≤ (bt1096.2.2.2.2.2.2.length : Int) then (some (bt1096.1, bt1096.2.1, bt1096.2.2.1, bt1096.2.2.2.1, bt1096.2.2.2.2.1, rd l0_6 (wrap64 ((l0_6.length : Int) - 1)), (bt1096.2.2.2.2.2.2.take ((wrap64 ((l0_6.length : Int) - 1)) : Int).toNat), true)) else (none)) else (none)) else (none)))) = some (r1, r2, r3, r4, r5, r6, r7, r8) := by rw [if_pos rfl] at H; exact H
    clear H
    have H := H1
    clear H1
    by_cases c4 : (l0_6.length : Int) = 0
    · rw [if_pos c4] at H
      have c4b0 : ((l0_6.length : Int) == 0) = true := beq_iff_eq.mpr c4
      have c4b1 : ((l0_6.length : Int) != 0) = false := bne_eq_false_iff_eq.mpr c4
      clear c4
      simp only [Option.some.injEq, Prod.mk.injEq] at H
      obtain ⟨rfl, rfl, rfl, rfl, rfl, rfl, rfl, rfl⟩ := H
      go_enter Try.func60, Try.ntmps60
      go_wp2_with (first | ((with_reducible refine gate_dst (N := 1) rfl ?_); (try (refine gate_guard (by rfl) ?_; dsimp only)); refine box_event ?hg (N := 1) ?hd (cs := #[.slice A0_0 l0_0.length c0_0, .int .i64 a0_1, .int .i64 a0_2, .int .i64 a0_3, .int .i64 a0_4, .int .i64 a0_5, .slice A0_6 l0_6.length c0_6]) (t := 51) ?hr ?_; (case hd => rfl); (case hg => rfl); (case hr => first | (go_simp; done) | (go_simp; rfl)); intro gb1093 hg w5 hbox hb; have n0_ := Aside0.mk (below_step (by repeat (first | (with_reducible first | exact HB.out | apply below_alloc | apply pw_below_drewN | apply below_drew1) | exact HB.out)) hb); have n1_ := Aside0.mk (hbox); have n2_ := Aside0.mk ((by rw [hg]; exact (below_size (by repeat (first | (with_reducible first | exact HB.out | apply below_alloc | apply pw_below_drewN | apply below_drew1) | exact HB.out))) : w.heap.size ≤ gb1093)); have n3_ := Aside0.mk ((by rw [hg]; exact (below_size (by repeat (first | (with_reducible first | exact HB.out | apply below_alloc | apply pw_below_drewN | apply below_drew1) | exact HB.out))) : w.heap.size ≤ gb1093)); clear HB; have HB := n0_; have BK1093 := n1_; have GW1093 := n2_; have GE1093 := n3_; clear n0_ n1_ n2_ n3_; clear hb hbox hg) | ((with_reducible refine gate_dst (N := 2) rfl ?_); (try (refine gate_guard (by rfl) ?_; dsimp only)); refine box_event ?hg (N := 2) ?hd (cs := #[.slice none 0 0, .int .i64 0, .int .i64 0, .int .i64 0, .int .i64 0, .int .i64 0, .slice none 0 0]) (t := 51) ?hr ?_; (case hd => rfl); (case hg => rfl); (case hr => first | (go_simp; done) | (go_simp; rfl)); intro gb1094 hg w6 hbox hb; have n0_ := Aside0.mk (blk_below (g := gb1093) (o := .cells #[.slice A0_0 l0_0.length c0_0, .int .i64 a0_1, .int .i64 a0_2, .int .i64 a0_3, .int .i64 a0_4, .int .i64 a0_5, .slice A0_6 l0_6.length c0_6] 51 (0, 0)) (by (with_reducible repeat (first | refine blk_drewN ?_ _ | refine blk_drew ?_ | refine blk_alloc ?_ _)); exact BK1093.out) hb); have n1_ := Aside0.mk (below_step (by repeat (first | (with_reducible first | exact HB.out | apply below_alloc | apply pw_below_drewN | apply below_drew1 | refine below_set ?_ GE1093.out) | exact HB.out)) hb); have n2_ := Aside0.mk (hbox); have n3_ := Aside0.mk ((by rw [hg]; exact (below_size (by repeat (first | (with_reducible first | exact HB.out | apply below_alloc | apply pw_below_drewN | apply below_drew1 | refine below_set ?_ GE1093.out) | exact HB.out))) : w.heap.size ≤ gb1094)); have n4_ := Aside0.mk ((by rw [hg]; exact (below_size (by repeat (first | (with_reducible first | exact HB.out | apply below_alloc | apply pw_below_drewN | apply below_drew1 | refine below_set ?_ GE1093.out) | exact HB.out))) : w.heap.size ≤ gb1094)); have n5_ := Aside0.mk ((by rw [hg]; exact Nat.ne_of_lt (blk_lt (g := gb1093) (o := .cells #[.slice A0_0 l0_0.length c0_0, .int .i64 a0_1, .int .i64 a0_2, .int .i64 a0_3, .int .i64 a0_4, .int .i64 a0_5, .slice A0_6 l0_6.length c0_6] 51 (0, 0)) (by (with_reducible repeat (first | refine blk_drewN ?_ _ | refine blk_drew ?_ | refine blk_alloc ?_ _)); exact BK1093.out)) : gb1093 ≠ gb1094)); have n6_ := Aside0.mk ((by rw [hg]; exact Nat.ne_of_gt (blk_lt (g := gb1093) (o := .cells #[.slice A0_0 l0_0.length c0_0, .int .i64 a0_1, .int .i64 a0_2, .int .i64 a0_3, .int .i64 a0_4, .int .i64 a0_5, .slice A0_6 l0_6.length c0_6] 51 (0, 0)) (by (with_reducible repeat (first | refine blk_drewN ?_ _ | refine blk_drew ?_ | refine blk_alloc ?_ _)); exact BK1093.out)) : gb1094 ≠ gb1093)); clear BK1093; clear HB; have BK1093 := n0_; have HB := n1_; have BK1094 := n2_; have GW1094 := n3_; have GE1094 := n4_; have NB1093_1094 := n5_; have NB1094_1093 := n6_; clear n0_ n1_ n2_ n3_ n4_ n5_ n6_; clear hb hbox hg; have hnb7 := NB1093_1094.out; have hnc7 := NB1094_1093.out; have hcz8_0 : w6.cell? ⟨gb1093, 0, none⟩ = some (.slice A0_0 l0_0.length c0_0) := (blk_cell BK1093.out 0).trans rfl; have hcz8_1 : w6.cell? ⟨gb1093, 1, none⟩ = some (.int .i64 a0_1) := (blk_cell BK1093.out 1).trans rfl; have hcz8_2 : w6.cell? ⟨gb1093, 2, none⟩ = some (.int .i64 a0_2) := (blk_cell BK1093.out 2).trans rfl; have hcz8_3 : w6.cell? ⟨gb1093, 3, none⟩ = some (.int .i64 a0_3) := (blk_cell BK1093.out 3).trans rfl; have hcz8_4 : w6.cell? ⟨gb1093, 4, none⟩ = some (.int .i64 a0_4) := (blk_cell BK1093.out 4).trans rfl; have hcz8_5 : w6.cell? ⟨gb1093, 5, none⟩ = some (.int .i64 a0_5) := (blk_cell BK1093.out 5).trans rfl; have hcz8_6 : w6.cell? ⟨gb1093, 6, none⟩ = some (.slice A0_6 l0_6.length c0_6) := (blk_cell BK1093.out 6).trans rfl; have hfz8_0 := blk_frozen BK1093.out 0; have hfz8_1 := blk_frozen BK1093.out 1; have hfz8_2 := blk_frozen BK1093.out 2; have hfz8_3 := blk_frozen BK1093.out 3; have hfz8_4 := blk_frozen BK1093.out 4; have hfz8_5 := blk_frozen BK1093.out 5; have hfz8_6 := blk_frozen BK1093.out 6) | ((with_reducible refine gate_callee (f := 120) rfl ?_); refine goesL_ (some 7) rfl rfl Try.func120 (by kernel_rfl) rfl #[.agg #[.slice A0_0 l0_0.length c0_0, .int .i64 a0_1, .int .i64 a0_2, .int .i64 a0_3, .int .i64 a0_4, .int .i64 a0_5, .slice A0_6 l0_6.length c0_6]] rfl (by (try simp only [List.map_toArray, List.map_cons, List.map_nil]); first | done | rfl | (simp only [List.length_drop, List.length_take]; rfl)) ?_; (with_reducible refine (impl_IsArena.calls k _ _ l0_0 a0_1 a0_2 a0_3 a0_4 a0_5 _ _ l0_6 true _ ?side1 ?side2 ?side3 ?side4 A2.out).mono ?_); (case side1 => repeat (first | exact (Kd.C_below HR0_0.out HB.out) | (with_reducible refine Kd.C_alloc ?_ _) | (with_reducible refine Kd.C_drewN ?_ _) | (with_reducible refine Kd.C_drew ?_))); (case side2 => exact HC0_0.out); (case side3 => repeat (first | exact (Kd.C_below HR0_6.out HB.out) | (with_reducible refine Kd.C_alloc ?_ _) | (with_reducible refine Kd.C_drewN ?_ _) | (with_reducible refine Kd.C_drew ?_))); (case side4 => exact HC0_6.out); rintro e w9 ⟨rfl, hb⟩; refine ⟨_, rfl, ?_⟩; have n0_ := Aside0.mk (blk_below (g := gb1093) (o := .cells #[.slice A0_0 l0_0.length c0_0, .int .i64 a0_1, .int .i64 a0_2, .int .i64 a0_3, .int .i64 a0_4, .int .i64 a0_5, .slice A0_6 l0_6.length c0_6] 51 (0, 0)) (by (with_reducible repeat (first | refine blk_drewN ?_ _ | refine blk_drew ?_ | refine blk_alloc ?_ _)); exact BK1093.out) hb); have n1_ := Aside0.mk (blk_below (g := gb1094) (o := .cells #[.slice none 0 0, .int .i64 0, .int .i64 0, .int .i64 0, .int .i64 0, .int .i64 0, .slice none 0 0] 51 (0, 0)) (by (with_reducible repeat (first | refine blk_drewN ?_ _ | refine blk_drew ?_ | refine blk_alloc ?_ _)); exact BK1094.out) hb); have n2_ := Aside0.mk (below_step (by repeat (first | (with_reducible first | exact HB.out | apply below_alloc | apply pw_below_drewN | apply below_drew1 | refine below_set ?_ GE1093.out | refine below_set ?_ GE1094.out) | exact HB.out)) hb); clear BK1093; clear BK1094; clear HB; have BK1093 := n0_; have BK1094 := n1_; have HB := n2_; clear n0_ n1_ n2_; (try clear hb); (try clear hb2); (try clear hk); (try clear hi); have hcz10_0 : w9.cell? ⟨gb1093, 0, none⟩ = some (.slice A0_0 l0_0.length c0_0) := (blk_cell BK1093.out 0).trans rfl; have hcz10_1 : w9.cell? ⟨gb1093, 1, none⟩ = some (.int .i64 a0_1) := (blk_cell BK1093.out 1).trans rfl; have hcz10_2 : w9.cell? ⟨gb1093, 2, none⟩ = some (.int .i64 a0_2) := (blk_cell BK1093.out 2).trans rfl; have hcz10_3 : w9.cell? ⟨gb1093, 3, none⟩ = some (.int .i64 a0_3) := (blk_cell BK1093.out 3).trans rfl; have hcz10_4 : w9.cell? ⟨gb1093, 4, none⟩ = some (.int .i64 a0_4) := (blk_cell BK1093.out 4).trans rfl; have hcz10_5 : w9.cell? ⟨gb1093, 5, none⟩ = some (.int .i64 a0_5) := (blk_cell BK1093.out 5).trans rfl; have hcz10_6 : w9.cell? ⟨gb1093, 6, none⟩ = some (.slice A0_6 l0_6.length c0_6) := (blk_cell BK1093.out 6).trans rfl; have hfz10_0 := blk_frozen BK1093.out 0; have hfz10_1 := blk_frozen BK1093.out 1; have hfz10_2 := blk_frozen BK1093.out 2; have hfz10_3 := blk_frozen BK1093.out 3; have hfz10_4 := blk_frozen BK1093.out 4; have hfz10_5 := blk_frozen BK1093.out 5; have hfz10_6 := blk_frozen BK1093.out 6; have hcz11_0 : w9.cell? ⟨gb1094, 0, none⟩ = some (.slice none 0 0) := (blk_cell BK1094.out 0).trans rfl; have hcz11_1 : w9.cell? ⟨gb1094, 1, none⟩ = some (.int .i64 0) := (blk_cell BK1094.out 1).trans rfl; have hcz11_2 : w9.cell? ⟨gb1094, 2, none⟩ = some (.int .i64 0) := (blk_cell BK1094.out 2).trans rfl; have hcz11_3 : w9.cell? ⟨gb1094, 3, none⟩ = some (.int .i64 0) := (blk_cell BK1094.out 3).trans rfl; have hcz11_4 : w9.cell? ⟨gb1094, 4, none⟩ = some (.int .i64 0) := (blk_cell BK1094.out 4).trans rfl; have hcz11_5 : w9.cell? ⟨gb1094, 5, none⟩ = some (.int .i64 0) := (blk_cell BK1094.out 5).trans rfl; have hcz11_6 : w9.cell? ⟨gb1094, 6, none⟩ = some (.slice none 0 0) := (blk_cell BK1094.out 6).trans rfl; have hfz11_0 := blk_frozen BK1094.out 0; have hfz11_1 := blk_frozen BK1094.out 1; have hfz11_2 := blk_frozen BK1094.out 2; have hfz11_3 := blk_frozen BK1094.out 3; have hfz11_4 := blk_frozen BK1094.out 4; have hfz11_5 := blk_frozen BK1094.out 5; have hfz11_6 := blk_frozen BK1094.out 6))
      refine bodyPost_ret (results_ct rfl _ _ gb1094 51 #[.slice none 0 0, .int .i64 0, .int .i64 0, .int .i64 0, .int .i64 0, .int .i64 0, .slice none 0 0] (0, 0) _ rfl (by (with_reducible repeat (first | refine blk_drewN ?_ _ | refine blk_drew ?_ | refine blk_alloc ?_ _)); refine blk_put (cs := #[.slice none 0 0, .int .i64 0, .int .i64 0, .int .i64 0, .int .i64 0, .int .i64 0, .slice none 0 0]) ?_ 6 _ rfl; (with_reducible repeat (first | refine blk_drewN ?_ _ | refine blk_drew ?_ | refine blk_alloc ?_ _)); refine blk_put (cs := #[.slice none 0 0, .int .i64 0, .int .i64 0, .int .i64 0, .int .i64 0, .int .i64 0, .slice none 0 0]) ?_ 5 _ rfl; (with_reducible repeat (first | refine blk_drewN ?_ _ | refine blk_drew ?_ | refine blk_alloc ?_ _)); refine blk_put (cs := #[.slice none 0 0, .int .i64 0, .int .i64 0, .int .i64 0, .int .i64 0, .int .i64 0, .slice none 0 0]) ?_ 4 _ rfl; (with_reducible repeat (first | refine blk_drewN ?_ _ | refine blk_drew ?_ | refine blk_alloc ?_ _)); refine blk_put (cs := #[.slice none 0 0, .int .i64 0, .int .i64 0, .int .i64 0, .int .i64 0, .int .i64 0, .slice none 0 0]) ?_ 3 _ rfl; (with_reducible repeat (first | refine blk_drewN ?_ _ | refine blk_drew ?_ | refine blk_alloc ?_ _)); refine blk_put (cs := #[.slice none 0 0, .int .i64 0, .int .i64 0, .int .i64 0, .int .i64 0, .int .i64 0, .slice none 0 0]) ?_ 2 _ rfl; (with_reducible repeat (first | refine blk_drewN ?_ _ | refine blk_drew ?_ | refine blk_alloc ?_ _)); refine blk_put (cs := #[.slice none 0 0, .int .i64 0, .int .i64 0, .int .i64 0, .int .i64 0, .int .i64 0, .slice none 0 0]) ?_ 1 _ rfl; (with_reducible repeat (first | refine blk_drewN ?_ _ | refine blk_drew ?_ | refine blk_alloc ?_ _)); refine blk_put (cs := #[.slice none 0 0, .int .i64 0, .int .i64 0, .int .i64 0, .int .i64 0, .int .i64 0, .slice none 0 0]) ?_ 0 _ rfl; (with_reducible repeat (first | refine blk_drewN ?_ _ | refine blk_drew ?_ | refine blk_alloc ?_ _)); exact BK1094.out) Try.underlying51 rfl (by kernel_rfl)) rfl ?_
      exact ⟨_, _, by first | rfl | (simp [errW_none, errW_some] <;> rfl) | (simp [*, errW_none, errW_some] <;> rfl), by first | exact Kd.S_nil _ _ _ _ _ | exact Kd.N_nil _ _ _ _ _ | exact Kd.V_nil _ _ _ _ _ | exact Kd.Q_nil _ _ _ _ _ | exact Kd.R_nil _ _ _ _ _, by first | exact Kd.R_nil _ _ _ _ _ | exact Kd.N_nil _ _ _ _ _ | exact Kd.V_nil _ _ _ _ _ | exact Kd.Q_nil _ _ _ _ _ | exact Kd.S_nil _ _ _ _ _, by repeat (first | (with_reducible first | exact HB.out | apply below_alloc | apply pw_below_drewN | apply below_drew1 | refine below_set ?_ GE1093.out | refine below_set ?_ GE1094.out) | exact HB.out)⟩
    · rw [if_neg c4] at H
      have c4b0 : ((l0_6.length : Int) == 0) = false := beq_eq_false_iff_ne.mpr c4
      have c4b1 : ((l0_6.length : Int) != 0) = true := bne_iff_ne.mpr c4
      have c4b2 : ¬ (l0_6 = []) := fun h_ => c4 (by rw [h_]; rfl)
      replace H := Option.bind_eq_some_iff.mp H
      obtain ⟨⟨t1096, t1099, t1100, t1101, t1102, t1103, t1104⟩, A120, H⟩ := H
      replace H : (if 0 ≤ (wrap64 ((l0_6.length : Int) - 1)) then (if (wrap64 ((l0_6.length : Int) - 1)) < (l0_6.length : Int) then (if (wrap64 ((l0_6.length : Int) - 1)) ≤ (t1104.length : Int) then (some (t1096, t1099, t1100, t1101, t1102, rd l0_6 (wrap64 ((l0_6.length : Int) - 1)), (t1104.take ((wrap64 ((l0_6.length : Int) - 1)) : Int).toNat), true)) else (none)) else (none)) else (none)) = some (r1, r2, r3, r4, r5, r6, r7, r8) := H
      have A12 := Aside0.mk A120
      clear A120
      obtain ⟨ji13, hji13⟩ : ∃ j_ : Int, (wrap64 ((l0_6.length : Int) - 1)) = j_ := ⟨_, rfl⟩
      replace H : (if 0 ≤ (ji13) then (if (ji13) < (l0_6.length : Int) then (if (ji13) ≤ (t1104.length : Int) then (some (t1096, t1099, t1100, t1101, t1102, rd l0_6 (ji13), (t1104.take ((ji13) : Int).toNat), true)) else (none)) else (none)) else (none)) = some (r1, r2, r3, r4, r5, r6, r7, r8) := by first | (rw [hji13] at H; exact H) | (simp only [hji13] at H ⊢; exact H)
      (try rw [hji13] at A2)
      (try rw [hji13] at A12)
      have hji13w : (IntKind.i64.wrap ((l0_6.length : Int) - 1)) = ji13 := (i64_w _).trans hji13
      by_cases c14 : 0 ≤ (ji13)
      · rw [if_pos c14] at H
        have c14b0 : decide (0 ≤ (ji13)) = true := decide_eq_true c14
        clear c14
        by_cases c15 : (ji13) < (l0_6.length : Int)
        · rw [if_pos c15] at H
          have c15b0 : decide ((ji13) < (l0_6.length : Int)) = true := decide_eq_true c15
          clear c15
          by_cases c16 : (ji13) ≤ (t1104.length : Int)
          · rw [if_pos c16] at H
            have c16b0 := eq_true c16
            have c16b1 : decide ((ji13) ≤ (t1104.length : Int)) = true := decide_eq_true c16
            clear c16
            obtain ⟨y1109, hy1109⟩ : ∃ y_ : List Int, y_ = (t1104.take ((ji13) : Int).toNat) := ⟨_, rfl⟩
            replace H : (some (t1096, t1099, t1100, t1101, t1102, rd l0_6 (ji13), y1109, true)) = some (r1, r2, r3, r4, r5, r6, r7, r8) := by first | (rw [hy1109]; with_reducible exact H) | (have H2_ := (Option.bind_some _ _).symm.trans H; rw [hy1109]; with_reducible exact H2_) | (have H2_ := (Option.bind_some _ _).symm.trans H; with_reducible exact H2_) | with_reducible exact H | (rw [hy1109]; exact H) | exact H
            have Ny1109 := Aside0.mk hy1109
            clear hy1109
            simp only [Option.some.injEq, Prod.mk.injEq] at H
            obtain ⟨rfl, rfl, rfl, rfl, rfl, rfl, rfl, rfl⟩ := H
            go_enter Try.func60, Try.ntmps60
            try go_wp2_with (first | ((with_reducible refine gate_dst (N := 1) rfl ?_); (try (refine gate_guard (by rfl) ?_; dsimp only)); refine box_event ?hg (N := 1) ?hd (cs := #[.slice A0_0 l0_0.length c0_0, .int .i64 a0_1, .int .i64 a0_2, .int .i64 a0_3, .int .i64 a0_4, .int .i64 a0_5, .slice A0_6 l0_6.length c0_6]) (t := 51) ?hr ?_; (case hd => rfl); (case hg => rfl); (case hr => first | (go_simp; done) | (go_simp; rfl)); intro gb1093 hg w17 hbox hb; have n0_ := Aside0.mk (below_step (by repeat (first | (with_reducible first | exact HB.out | apply below_alloc | apply pw_below_drewN | apply below_drew1) | exact HB.out)) hb); have n1_ := Aside0.mk (hbox); have n2_ := Aside0.mk ((by rw [hg]; exact (below_size (by repeat (first | (with_reducible first | exact HB.out | apply below_alloc | apply pw_below_drewN | apply below_drew1) | exact HB.out))) : w.heap.size ≤ gb1093)); have n3_ := Aside0.mk ((by rw [hg]; exact (below_size (by repeat (first | (with_reducible first | exact HB.out | apply below_alloc | apply pw_below_drewN | apply below_drew1) | exact HB.out))) : w.heap.size ≤ gb1093)); clear HB; have HB := n0_; have BK1093 := n1_; have GW1093 := n2_; have GE1093 := n3_; clear n0_ n1_ n2_ n3_; clear hb hbox hg) | ((with_reducible refine gate_dst (N := 2) rfl ?_); (try (refine gate_guard (by rfl) ?_; dsimp only)); refine box_event ?hg (N := 2) ?hd (cs := #[.slice none 0 0, .int .i64 0, .int .i64 0, .int .i64 0, .int .i64 0, .int .i64 0, .slice none 0 0]) (t := 51) ?hr ?_; (case hd => rfl); (case hg => rfl); (case hr => first | (go_simp; done) | (go_simp; rfl)); intro gb1094 hg w18 hbox hb; have n0_ := Aside0.mk (blk_below (g := gb1093) (o := .cells #[.slice A0_0 l0_0.length c0_0, .int .i64 a0_1, .int .i64 a0_2, .int .i64 a0_3, .int .i64 a0_4, .int .i64 a0_5, .slice A0_6 l0_6.length c0_6] 51 (0, 0)) (by (with_reducible repeat (first | refine blk_drewN ?_ _ | refine blk_drew ?_ | refine blk_alloc ?_ _)); exact BK1093.out) hb); have n1_ := Aside0.mk (below_step (by repeat (first | (with_reducible first | exact HB.out | apply below_alloc | apply pw_below_drewN | apply below_drew1 | refine below_set ?_ GE1093.out) | exact HB.out)) hb); have n2_ := Aside0.mk (hbox); have n3_ := Aside0.mk ((by rw [hg]; exact (below_size (by repeat (first | (with_reducible first | exact HB.out | apply below_alloc | apply pw_below_drewN | apply below_drew1 | refine below_set ?_ GE1093.out) | exact HB.out))) : w.heap.size ≤ gb1094)); have n4_ := Aside0.mk ((by rw [hg]; exact (below_size (by repeat (first | (with_reducible first | exact HB.out | apply below_alloc | apply pw_below_drewN | apply below_drew1 | refine below_set ?_ GE1093.out) | exact HB.out))) : w.heap.size ≤ gb1094)); have n5_ := Aside0.mk ((by rw [hg]; exact Nat.ne_of_lt (blk_lt (g := gb1093) (o := .cells #[.slice A0_0 l0_0.length c0_0, .int .i64 a0_1, .int .i64 a0_2, .int .i64 a0_3, .int .i64 a0_4, .int .i64 a0_5, .slice A0_6 l0_6.length c0_6] 51 (0, 0)) (by (with_reducible repeat (first | refine blk_drewN ?_ _ | refine blk_drew ?_ | refine blk_alloc ?_ _)); exact BK1093.out)) : gb1093 ≠ gb1094)); have n6_ := Aside0.mk ((by rw [hg]; exact Nat.ne_of_gt (blk_lt (g := gb1093) (o := .cells #[.slice A0_0 l0_0.length c0_0, .int .i64 a0_1, .int .i64 a0_2, .int .i64 a0_3, .int .i64 a0_4, .int .i64 a0_5, .slice A0_6 l0_6.length c0_6] 51 (0, 0)) (by (with_reducible repeat (first | refine blk_drewN ?_ _ | refine blk_drew ?_ | refine blk_alloc ?_ _)); exact BK1093.out)) : gb1094 ≠ gb1093)); clear BK1093; clear HB; have BK1093 := n0_; have HB := n1_; have BK1094 := n2_; have GW1094 := n3_; have GE1094 := n4_; have NB1093_1094 := n5_; have NB1094_1093 := n6_; clear n0_ n1_ n2_ n3_ n4_ n5_ n6_; clear hb hbox hg; have hnb19 := NB1093_1094.out; have hnc19 := NB1094_1093.out; have hcz20_0 : w18.cell? ⟨gb1093, 0, none⟩ = some (.slice A0_0 l0_0.length c0_0) := (blk_cell BK1093.out 0).trans rfl; have hcz20_1 : w18.cell? ⟨gb1093, 1, none⟩ = some (.int .i64 a0_1) := (blk_cell BK1093.out 1).trans rfl; have hcz20_2 : w18.cell? ⟨gb1093, 2, none⟩ = some (.int .i64 a0_2) := (blk_cell BK1093.out 2).trans rfl; have hcz20_3 : w18.cell? ⟨gb1093, 3, none⟩ = some (.int .i64 a0_3) := (blk_cell BK1093.out 3).trans rfl; have hcz20_4 : w18.cell? ⟨gb1093, 4, none⟩ = some (.int .i64 a0_4) := (blk_cell BK1093.out 4).trans rfl; have hcz20_5 : w18.cell? ⟨gb1093, 5, none⟩ = some (.int .i64 a0_5) := (blk_cell BK1093.out 5).trans rfl; have hcz20_6 : w18.cell? ⟨gb1093, 6, none⟩ = some (.slice A0_6 l0_6.length c0_6) := (blk_cell BK1093.out 6).trans rfl; have hfz20_0 := blk_frozen BK1093.out 0; have hfz20_1 := blk_frozen BK1093.out 1; have hfz20_2 := blk_frozen BK1093.out 2; have hfz20_3 := blk_frozen BK1093.out 3; have hfz20_4 := blk_frozen BK1093.out 4; have hfz20_5 := blk_frozen BK1093.out 5; have hfz20_6 := blk_frozen BK1093.out 6) | ((with_reducible refine gate_callee (f := 120) rfl ?_); refine goesL_ (some 7) rfl rfl Try.func120 (by kernel_rfl) rfl #[.agg #[.slice A0_0 l0_0.length c0_0, .int .i64 a0_1, .int .i64 a0_2, .int .i64 a0_3, .int .i64 a0_4, .int .i64 a0_5, .slice A0_6 l0_6.length c0_6]] rfl (by (try simp only [List.map_toArray, List.map_cons, List.map_nil]); first | done | rfl | (simp only [List.length_drop, List.length_take]; rfl)) ?_; (with_reducible refine (impl_IsArena.calls k _ _ l0_0 a0_1 a0_2 a0_3 a0_4 a0_5 _ _ l0_6 true _ ?side1 ?side2 ?side3 ?side4 A2.out).mono ?_); (case side1 => repeat (first | exact (Kd.C_below HR0_0.out HB.out) | (with_reducible refine Kd.C_alloc ?_ _) | (with_reducible refine Kd.C_drewN ?_ _) | (with_reducible refine Kd.C_drew ?_))); (case side2 => exact HC0_0.out); (case side3 => repeat (first | exact (Kd.C_below HR0_6.out HB.out) | (with_reducible refine Kd.C_alloc ?_ _) | (with_reducible refine Kd.C_drewN ?_ _) | (with_reducible refine Kd.C_drew ?_))); (case side4 => exact HC0_6.out); rintro e w21 ⟨rfl, hb⟩; refine ⟨_, rfl, ?_⟩; have n0_ := Aside0.mk (blk_below (g := gb1093) (o := .cells #[.slice A0_0 l0_0.length c0_0, .int .i64 a0_1, .int .i64 a0_2, .int .i64 a0_3, .int .i64 a0_4, .int .i64 a0_5, .slice A0_6 l0_6.length c0_6] 51 (0, 0)) (by (with_reducible repeat (first | refine blk_drewN ?_ _ | refine blk_drew ?_ | refine blk_alloc ?_ _)); exact BK1093.out) hb); have n1_ := Aside0.mk (blk_below (g := gb1094) (o := .cells #[.slice none 0 0, .int .i64 0, .int .i64 0, .int .i64 0, .int .i64 0, .int .i64 0, .slice none 0 0] 51 (0, 0)) (by (with_reducible repeat (first | refine blk_drewN ?_ _ | refine blk_drew ?_ | refine blk_alloc ?_ _)); exact BK1094.out) hb); have n2_ := Aside0.mk (below_step (by repeat (first | (with_reducible first | exact HB.out | apply below_alloc | apply pw_below_drewN | apply below_drew1 | refine below_set ?_ GE1093.out | refine below_set ?_ GE1094.out) | exact HB.out)) hb); clear BK1093; clear BK1094; clear HB; have BK1093 := n0_; have BK1094 := n1_; have HB := n2_; clear n0_ n1_ n2_; (try clear hb); (try clear hb2); (try clear hk); (try clear hi); have hcz22_0 : w21.cell? ⟨gb1093, 0, none⟩ = some (.slice A0_0 l0_0.length c0_0) := (blk_cell BK1093.out 0).trans rfl; have hcz22_1 : w21.cell? ⟨gb1093, 1, none⟩ = some (.int .i64 a0_1) := (blk_cell BK1093.out 1).trans rfl; have hcz22_2 : w21.cell? ⟨gb1093, 2, none⟩ = some (.int .i64 a0_2) := (blk_cell BK1093.out 2).trans rfl; have hcz22_3 : w21.cell? ⟨gb1093, 3, none⟩ = some (.int .i64 a0_3) := (blk_cell BK1093.out 3).trans rfl; have hcz22_4 : w21.cell? ⟨gb1093, 4, none⟩ = some (.int .i64 a0_4) := (blk_cell BK1093.out 4).trans rfl; have hcz22_5 : w21.cell? ⟨gb1093, 5, none⟩ = some (.int .i64 a0_5) := (blk_cell BK1093.out 5).trans rfl; have hcz22_6 : w21.cell? ⟨gb1093, 6, none⟩ = some (.slice A0_6 l0_6.length c0_6) := (blk_cell BK1093.out 6).trans rfl; have hfz22_0 := blk_frozen BK1093.out 0; have hfz22_1 := blk_frozen BK1093.out 1; have hfz22_2 := blk_frozen BK1093.out 2; have hfz22_3 := blk_frozen BK1093.out 3; have hfz22_4 := blk_frozen BK1093.out 4; have hfz22_5 := blk_frozen BK1093.out 5; have hfz22_6 := blk_frozen BK1093.out 6))
            have n0_ := Aside0.mk (blk_drew BK1093.out)
            have n1_ := Aside0.mk (blk_drew BK1094.out)
            have n2_ := Aside0.mk (below_drew1 HB.out)
            clear BK1093
            clear BK1094
            clear HB
            have BK1093 := n0_
            have BK1094 := n1_
            have HB := n2_
            clear n0_ n1_ n2_
            refine start_ (n := 9) (S := fun w' => w'.cell? ⟨gb1093, 0, none⟩ = some (.slice A0_0 l0_0.length c0_0) ∧ w'.cell? ⟨gb1093, 1, none⟩ = some (.int .i64 a0_1) ∧ w'.cell? ⟨gb1093, 2, none⟩ = some (.int .i64 a0_2) ∧ w'.cell? ⟨gb1093, 3, none⟩ = some (.int .i64 a0_3) ∧ w'.cell? ⟨gb1093, 4, none⟩ = some (.int .i64 a0_4) ∧ w'.cell? ⟨gb1093, 5, none⟩ = some (.int .i64 a0_5) ∧ w'.cell? ⟨gb1093, 6, none⟩ = some (.slice A0_6 l0_6.length c0_6)) (ds := []) #[false, false, false, false, false, false, false, false, false] (by kernel_rfl) rfl rfl ⟨(blk_cell BK1093.out 0).trans rfl, (blk_cell BK1093.out 1).trans rfl, (blk_cell BK1093.out 2).trans rfl, (blk_cell BK1093.out 3).trans rfl, (blk_cell BK1093.out 4).trans rfl, (blk_cell BK1093.out 5).trans rfl, (blk_cell BK1093.out 6).trans rfl⟩ (fun hHeld => ?_); refine with_tabW impl_ResetArena.tab3 impl_ResetArena.bits3 (fun HT_ HW_ => ?_)
            generalize w21.drew = w23 at BK1093 BK1094 HB hHeld ⊢
            refine pure_ (i := 2) (N := some 18) (v := ?_) (a' := ?_) #[false, false, true, false, false, false, false, false, false] rfl rfl (any_of HT_.out (by kernel_rfl)) (fun _ _ _ h => h) (Or.inl ⟨by rfl, ?_⟩) ?_ ?_
            rotate_left
            · intro w'
              go_simp
              with_reducible rfl
            rotate_left
            · simp only [Act.put, List.setIfInBounds_toArray, List.set_cons_zero, List.set_cons_succ, i64_w, i32_w]
              rfl
            refine take_ (i := 0) (N := some 16) (v := ?_) (a' := ?_) #[true, false, true, false, false, false, false, false, false] rfl rfl (take_ofW HT_.out HW_.out (by kernel_rfl)) (fun _ _ _ h => h) (Or.inl ⟨by rfl, ?_⟩) hHeld ?_ ?_
            rotate_left
            · rintro w' ⟨s0, s1, s2, s3, s4, s5, s6⟩
              go_simp
              with_reducible rfl
            rotate_left
            · simp only [Act.put, List.setIfInBounds_toArray, List.set_cons_zero, List.set_cons_succ, i64_w, i32_w]
              rfl
            refine take_ (i := 3) (N := some 19) (v := ?_) (a' := ?_) #[true, false, true, true, false, false, false, false, false] rfl rfl (take_ofW HT_.out HW_.out (by kernel_rfl)) (fun _ _ _ h => h) (Or.inl ⟨by rfl, ?_⟩) hHeld ?_ ?_
            rotate_left
            · rintro w' ⟨s0, s1, s2, s3, s4, s5, s6⟩
              go_simp
              with_reducible rfl
            rotate_left
            · simp only [Act.put, List.setIfInBounds_toArray, List.set_cons_zero, List.set_cons_succ, i64_w, i32_w]
              rfl
            refine pure_ (i := 4) (N := some 20) (v := ?_) (a' := ?_) #[true, false, true, true, true, false, false, false, false] rfl rfl (any_of HT_.out (by kernel_rfl)) (fun _ _ _ h => h) (Or.inl ⟨by rfl, ?_⟩) ?_ ?_
            rotate_left
            · intro w'
              go_simp
              with_reducible rfl
            rotate_left
            · simp only [Act.put, List.setIfInBounds_toArray, List.set_cons_zero, List.set_cons_succ, i64_w, i32_w]
              rfl
            refine pure_ (i := 5) (N := some 21) (v := ?_) (a' := ?_) #[true, false, true, true, true, true, false, false, false] rfl rfl (any_of HT_.out (by kernel_rfl)) (fun _ _ _ h => h) (Or.inl ⟨by rfl, ?_⟩) ?_ ?_
            rotate_left
            · intro w'
              go_simp
              with_reducible rfl
            rotate_left
            · simp only [Act.put, List.setIfInBounds_toArray, List.set_cons_zero, List.set_cons_succ, i64_w, i32_w]
              rfl
            refine join_ (σ := Value × Value × Nat) 2 #[true, true, true, true, true, true, true, false, false] (fun s_ => [(17, .agg #[s_.1, .int .i64 t1099, .int .i64 t1100, .int .i64 t1101, .int .i64 t1102, .int .i64 t1103, s_.2.1]), (4, .pointer (some ⟨s_.2.2, 0, none⟩))]) (fun s_ w' => (w'.cell? ⟨gb1093, 0, none⟩ = some (.slice A0_0 l0_0.length c0_0) ∧ w'.cell? ⟨gb1093, 1, none⟩ = some (.int .i64 a0_1) ∧ w'.cell? ⟨gb1093, 2, none⟩ = some (.int .i64 a0_2) ∧ w'.cell? ⟨gb1093, 3, none⟩ = some (.int .i64 a0_3) ∧ w'.cell? ⟨gb1093, 4, none⟩ = some (.int .i64 a0_4) ∧ w'.cell? ⟨gb1093, 5, none⟩ = some (.int .i64 a0_5) ∧ w'.cell? ⟨gb1093, 6, none⟩ = some (.slice A0_6 l0_6.length c0_6)) ∧ (Kd.S (Kd.slice 5 (Kd.int .u8)) 119 w' w.heap.size (fun _ => True) s_.1 t1096) ∧ (Kd.R (Kd.int .i64) 3 w' w.heap.size (fun _ => True) s_.2.1 t1104) ∧ (w'.heap[gb1093]? = some (.cells #[.slice A0_0 l0_0.length c0_0, .int .i64 a0_1, .int .i64 a0_2, .int .i64 a0_3, .int .i64 a0_4, .int .i64 a0_5, .slice A0_6 l0_6.length c0_6] 51 (0, 0))) ∧ (w'.heap[gb1094]? = some (.cells #[.slice none 0 0, .int .i64 0, .int .i64 0, .int .i64 0, .int .i64 0, .int .i64 0, .slice none 0 0] 51 (0, 0))) ∧ (w'.heap[s_.2.2]? = some (.cells #[.slice none 0 0, .int .i64 0, .int .i64 0, .int .i64 0, .int .i64 0, .int .i64 0, .slice none 0 0] 51 (0, 0))) ∧ (w.heap.size ≤ s_.2.2) ∧ (w.heap.size ≤ s_.2.2) ∧ (gb1093 ≠ s_.2.2) ∧ (s_.2.2 ≠ gb1093) ∧ (gb1094 ≠ s_.2.2) ∧ (s_.2.2 ≠ gb1094) ∧ (Below w.heap.size w w')) ?_ ?_
            rotate_left
            · intro hCont
              refine two_ (i := 1) (j := 6) (Ni := some 17) (Nj := some 4) #[true, true, true, true, true, true, false, false, false] #[true, false, true, true, true, true, true, false, false] rfl rfl rfl rfl (two_of HT_.out (by kernel_rfl)) (by decide) (by decide) (fun K hK => ?_) (fun K hK => ?_)
              · skip
                refine goes_ Try.func121 (by kernel_rfl) rfl #[.agg #[.slice A0_0 l0_0.length c0_0, .int .i64 a0_1, .int .i64 a0_2, .int .i64 a0_3, .int .i64 a0_4, .int .i64 a0_5, .slice A0_6 l0_6.length c0_6]] (by rfl) rfl rfl (by (try simp only [List.map_toArray, List.map_cons, List.map_nil]); first | done | rfl | (simp only [List.length_drop, List.length_take]; rfl)) ?_
                with_reducible refine (impl_Arena_own.calls k _ _ l0_0 a0_1 a0_2 a0_3 a0_4 a0_5 _ _ l0_6 t1096 t1099 t1100 t1101 t1102 t1103 t1104 _ ?side1 ?side2 ?side3 ?side4 A12.out).mono ?_
                (case side1 => repeat (first | exact (Kd.C_below HR0_0.out HB.out) | (with_reducible refine Kd.C_alloc ?_ _) | (with_reducible refine Kd.C_drewN ?_ _) | (with_reducible refine Kd.C_drew ?_)))
                (case side2 => exact HC0_0.out)
                (case side3 => repeat (first | exact (Kd.C_below HR0_6.out HB.out) | (with_reducible refine Kd.C_alloc ?_ _) | (with_reducible refine Kd.C_drewN ?_ _) | (with_reducible refine Kd.C_drew ?_)))
                (case side4 => exact HC0_6.out)
                rintro e w24 ⟨v1097, v1105, rfl, ho0, ho1, hb⟩
                refine ⟨_, rfl, ?_⟩
                have n0_ := Aside0.mk (Kd.S_lower ho0 (below_size (by repeat (first | (with_reducible first | exact HB.out | apply below_alloc | apply pw_below_drewN | apply below_drew1 | refine below_set ?_ GE1093.out | refine below_set ?_ GE1094.out) | exact HB.out))))
                have n1_ := Aside0.mk (Kd.R_lower ho1 (below_size (by repeat (first | (with_reducible first | exact HB.out | apply below_alloc | apply pw_below_drewN | apply below_drew1 | refine below_set ?_ GE1093.out | refine below_set ?_ GE1094.out) | exact HB.out))))
                have n2_ := Aside0.mk (blk_below (g := gb1093) (o := .cells #[.slice A0_0 l0_0.length c0_0, .int .i64 a0_1, .int .i64 a0_2, .int .i64 a0_3, .int .i64 a0_4, .int .i64 a0_5, .slice A0_6 l0_6.length c0_6] 51 (0, 0)) (by (with_reducible repeat (first | refine blk_drewN ?_ _ | refine blk_drew ?_ | refine blk_alloc ?_ _)); exact BK1093.out) hb)
                have n3_ := Aside0.mk (blk_below (g := gb1094) (o := .cells #[.slice none 0 0, .int .i64 0, .int .i64 0, .int .i64 0, .int .i64 0, .int .i64 0, .slice none 0 0] 51 (0, 0)) (by (with_reducible repeat (first | refine blk_drewN ?_ _ | refine blk_drew ?_ | refine blk_alloc ?_ _)); exact BK1094.out) hb)
                have n4_ := Aside0.mk (below_step (by repeat (first | (with_reducible first | exact HB.out | apply below_alloc | apply pw_below_drewN | apply below_drew1 | refine below_set ?_ GE1093.out | refine below_set ?_ GE1094.out) | exact HB.out)) hb)
                clear BK1093
                clear BK1094
                clear HB
                have HO1098 := n0_
                have HO1106 := n1_
                have BK1093 := n2_
                have BK1094 := n3_
                have HB := n4_
                clear n0_ n1_ n2_ n3_ n4_
                (try clear hb)
                (try clear hb2)
                (try clear hk)
                (try clear hi)
                (try clear ho0)
                (try clear ho1)
                refine hK.out _ _ ⟨(blk_cell BK1093.out 0).trans rfl, (blk_cell BK1093.out 1).trans rfl, (blk_cell BK1093.out 2).trans rfl, (blk_cell BK1093.out 3).trans rfl, (blk_cell BK1093.out 4).trans rfl, (blk_cell BK1093.out 5).trans rfl, (blk_cell BK1093.out 6).trans rfl⟩ (fun hHeld => ?_)
                clear hK K
                refine norm_ (a' := ?_) ?_ ?_
                rotate_left
                · show Act.put _ (some 17) _ = _
                  simp only [Act.put, List.setIfInBounds_toArray, List.set_cons_zero, List.set_cons_succ, i64_w, i32_w]
                  rfl
                refine one_ (i := 6) (N := some 4) #[true, true, true, true, true, true, true, false, false] rfl rfl (one_of HT_.out (by kernel_rfl)) (by decide) (fun K hK => ?_)
                refine box_step ?hg (N := 4) ?hd (cs := #[.slice none 0 0, .int .i64 0, .int .i64 0, .int .i64 0, .int .i64 0, .int .i64 0, .slice none 0 0]) (t := 51) ?hr ?_; (case hd => rfl); (case hg => rfl); (case hr => first | (go_simp; done) | (go_simp; rfl))
                intro gb1107 hg w25 hbox hb
                have n0_ := Aside0.mk (Kd.S_below (by (with_reducible repeat (first | apply Kd.S_alloc | apply Kd.S_drewN | apply Kd.S_drew)); exact HO1098.out) hb)
                have n1_ := Aside0.mk (Kd.R_below (by (with_reducible repeat (first | apply Kd.R_alloc | apply Kd.R_drewN | apply Kd.R_drew)); exact HO1106.out) hb)
                have n2_ := Aside0.mk (blk_below (g := gb1093) (o := .cells #[.slice A0_0 l0_0.length c0_0, .int .i64 a0_1, .int .i64 a0_2, .int .i64 a0_3, .int .i64 a0_4, .int .i64 a0_5, .slice A0_6 l0_6.length c0_6] 51 (0, 0)) (by (with_reducible repeat (first | refine blk_drewN ?_ _ | refine blk_drew ?_ | refine blk_alloc ?_ _)); exact BK1093.out) hb)
                have n3_ := Aside0.mk (blk_below (g := gb1094) (o := .cells #[.slice none 0 0, .int .i64 0, .int .i64 0, .int .i64 0, .int .i64 0, .int .i64 0, .slice none 0 0] 51 (0, 0)) (by (with_reducible repeat (first | refine blk_drewN ?_ _ | refine blk_drew ?_ | refine blk_alloc ?_ _)); exact BK1094.out) hb)
                have n4_ := Aside0.mk (below_step (by repeat (first | (with_reducible first | exact HB.out | apply below_alloc | apply pw_below_drewN | apply below_drew1 | refine below_set ?_ GE1093.out | refine below_set ?_ GE1094.out) | exact HB.out)) hb)
                have n5_ := Aside0.mk (hbox)
                have n6_ := Aside0.mk ((by rw [hg]; exact (below_size (by repeat (first | (with_reducible first | exact HB.out | apply below_alloc | apply pw_below_drewN | apply below_drew1 | refine below_set ?_ GE1093.out | refine below_set ?_ GE1094.out) | exact HB.out))) : w.heap.size ≤ gb1107))
                have n7_ := Aside0.mk ((by rw [hg]; exact (below_size (by repeat (first | (with_reducible first | exact HB.out | apply below_alloc | apply pw_below_drewN | apply below_drew1 | refine below_set ?_ GE1093.out | refine below_set ?_ GE1094.out) | exact HB.out))) : w.heap.size ≤ gb1107))
                have n8_ := Aside0.mk ((by rw [hg]; exact Nat.ne_of_lt (blk_lt (g := gb1093) (o := .cells #[.slice A0_0 l0_0.length c0_0, .int .i64 a0_1, .int .i64 a0_2, .int .i64 a0_3, .int .i64 a0_4, .int .i64 a0_5, .slice A0_6 l0_6.length c0_6] 51 (0, 0)) (by (with_reducible repeat (first | refine blk_drewN ?_ _ | refine blk_drew ?_ | refine blk_alloc ?_ _)); exact BK1093.out)) : gb1093 ≠ gb1107))
                have n9_ := Aside0.mk ((by rw [hg]; exact Nat.ne_of_gt (blk_lt (g := gb1093) (o := .cells #[.slice A0_0 l0_0.length c0_0, .int .i64 a0_1, .int .i64 a0_2, .int .i64 a0_3, .int .i64 a0_4, .int .i64 a0_5, .slice A0_6 l0_6.length c0_6] 51 (0, 0)) (by (with_reducible repeat (first | refine blk_drewN ?_ _ | refine blk_drew ?_ | refine blk_alloc ?_ _)); exact BK1093.out)) : gb1107 ≠ gb1093))
                have n10_ := Aside0.mk ((by rw [hg]; exact Nat.ne_of_lt (blk_lt (g := gb1094) (o := .cells #[.slice none 0 0, .int .i64 0, .int .i64 0, .int .i64 0, .int .i64 0, .int .i64 0, .slice none 0 0] 51 (0, 0)) (by (with_reducible repeat (first | refine blk_drewN ?_ _ | refine blk_drew ?_ | refine blk_alloc ?_ _)); exact BK1094.out)) : gb1094 ≠ gb1107))
                have n11_ := Aside0.mk ((by rw [hg]; exact Nat.ne_of_gt (blk_lt (g := gb1094) (o := .cells #[.slice none 0 0, .int .i64 0, .int .i64 0, .int .i64 0, .int .i64 0, .int .i64 0, .slice none 0 0] 51 (0, 0)) (by (with_reducible repeat (first | refine blk_drewN ?_ _ | refine blk_drew ?_ | refine blk_alloc ?_ _)); exact BK1094.out)) : gb1107 ≠ gb1094))
                clear HO1098
                clear HO1106
                clear BK1093
                clear BK1094
                clear HB
                have HO1098 := n0_
                have HO1106 := n1_
                have BK1093 := n2_
                have BK1094 := n3_
                have HB := n4_
                have BK1107 := n5_
                have GW1107 := n6_
                have GE1107 := n7_
                have NB1093_1107 := n8_
                have NB1107_1093 := n9_
                have NB1094_1107 := n10_
                have NB1107_1094 := n11_
                clear n0_ n1_ n2_ n3_ n4_ n5_ n6_ n7_ n8_ n9_ n10_ n11_
                clear hb hbox hg
                refine hK.out _ _ ⟨(blk_cell BK1093.out 0).trans rfl, (blk_cell BK1093.out 1).trans rfl, (blk_cell BK1093.out 2).trans rfl, (blk_cell BK1093.out 3).trans rfl, (blk_cell BK1093.out 4).trans rfl, (blk_cell BK1093.out 5).trans rfl, (blk_cell BK1093.out 6).trans rfl⟩ (fun hHeld => ?_)
                clear hK K
                refine norm_ (a' := ?_) ?_ ?_
                rotate_left
                · show Act.put _ (some 4) _ = _
                  simp only [Act.put, List.setIfInBounds_toArray, List.set_cons_zero, List.set_cons_succ, i64_w, i32_w]
                  rfl
                exact norm_ (by simp only [putAll, Act.put, List.setIfInBounds_toArray, List.set_cons_zero, List.set_cons_succ]) (hCont (v1097, v1105, gb1107) _ ⟨hHeld, (by (with_reducible repeat (first | apply Kd.S_alloc | apply Kd.S_drewN | apply Kd.S_drew)); exact HO1098.out), (by (with_reducible repeat (first | apply Kd.R_alloc | apply Kd.R_drewN | apply Kd.R_drew)); exact HO1106.out), (by (with_reducible repeat (first | refine blk_drewN ?_ _ | refine blk_drew ?_ | refine blk_alloc ?_ _)); exact BK1093.out), (by (with_reducible repeat (first | refine blk_drewN ?_ _ | refine blk_drew ?_ | refine blk_alloc ?_ _)); exact BK1094.out), (by (with_reducible repeat (first | refine blk_drewN ?_ _ | refine blk_drew ?_ | refine blk_alloc ?_ _)); exact BK1107.out), GW1107.out, GE1107.out, NB1093_1107.out, NB1107_1093.out, NB1094_1107.out, NB1107_1094.out, (by repeat (first | (with_reducible first | exact HB.out | apply below_alloc | apply pw_below_drewN | apply below_drew1 | refine below_set ?_ GE1093.out | refine below_set ?_ GE1094.out | refine below_set ?_ GE1107.out) | exact HB.out))⟩)
              · skip
                refine box_step ?hg (N := 4) ?hd (cs := #[.slice none 0 0, .int .i64 0, .int .i64 0, .int .i64 0, .int .i64 0, .int .i64 0, .slice none 0 0]) (t := 51) ?hr ?_; (case hd => rfl); (case hg => rfl); (case hr => first | (go_simp; done) | (go_simp; rfl))
                intro gb1107 hg w24 hbox hb
                have n0_ := Aside0.mk (blk_below (g := gb1093) (o := .cells #[.slice A0_0 l0_0.length c0_0, .int .i64 a0_1, .int .i64 a0_2, .int .i64 a0_3, .int .i64 a0_4, .int .i64 a0_5, .slice A0_6 l0_6.length c0_6] 51 (0, 0)) (by (with_reducible repeat (first | refine blk_drewN ?_ _ | refine blk_drew ?_ | refine blk_alloc ?_ _)); exact BK1093.out) hb)
                have n1_ := Aside0.mk (blk_below (g := gb1094) (o := .cells #[.slice none 0 0, .int .i64 0, .int .i64 0, .int .i64 0, .int .i64 0, .int .i64 0, .slice none 0 0] 51 (0, 0)) (by (with_reducible repeat (first | refine blk_drewN ?_ _ | refine blk_drew ?_ | refine blk_alloc ?_ _)); exact BK1094.out) hb)
                have n2_ := Aside0.mk (below_step (by repeat (first | (with_reducible first | exact HB.out | apply below_alloc | apply pw_below_drewN | apply below_drew1 | refine below_set ?_ GE1093.out | refine below_set ?_ GE1094.out) | exact HB.out)) hb)
                have n3_ := Aside0.mk (hbox)
                have n4_ := Aside0.mk ((by rw [hg]; exact (below_size (by repeat (first | (with_reducible first | exact HB.out | apply below_alloc | apply pw_below_drewN | apply below_drew1 | refine below_set ?_ GE1093.out | refine below_set ?_ GE1094.out) | exact HB.out))) : w.heap.size ≤ gb1107))
                have n5_ := Aside0.mk ((by rw [hg]; exact (below_size (by repeat (first | (with_reducible first | exact HB.out | apply below_alloc | apply pw_below_drewN | apply below_drew1 | refine below_set ?_ GE1093.out | refine below_set ?_ GE1094.out) | exact HB.out))) : w.heap.size ≤ gb1107))
                have n6_ := Aside0.mk ((by rw [hg]; exact Nat.ne_of_lt (blk_lt (g := gb1093) (o := .cells #[.slice A0_0 l0_0.length c0_0, .int .i64 a0_1, .int .i64 a0_2, .int .i64 a0_3, .int .i64 a0_4, .int .i64 a0_5, .slice A0_6 l0_6.length c0_6] 51 (0, 0)) (by (with_reducible repeat (first | refine blk_drewN ?_ _ | refine blk_drew ?_ | refine blk_alloc ?_ _)); exact BK1093.out)) : gb1093 ≠ gb1107))
                have n7_ := Aside0.mk ((by rw [hg]; exact Nat.ne_of_gt (blk_lt (g := gb1093) (o := .cells #[.slice A0_0 l0_0.length c0_0, .int .i64 a0_1, .int .i64 a0_2, .int .i64 a0_3, .int .i64 a0_4, .int .i64 a0_5, .slice A0_6 l0_6.length c0_6] 51 (0, 0)) (by (with_reducible repeat (first | refine blk_drewN ?_ _ | refine blk_drew ?_ | refine blk_alloc ?_ _)); exact BK1093.out)) : gb1107 ≠ gb1093))
                have n8_ := Aside0.mk ((by rw [hg]; exact Nat.ne_of_lt (blk_lt (g := gb1094) (o := .cells #[.slice none 0 0, .int .i64 0, .int .i64 0, .int .i64 0, .int .i64 0, .int .i64 0, .slice none 0 0] 51 (0, 0)) (by (with_reducible repeat (first | refine blk_drewN ?_ _ | refine blk_drew ?_ | refine blk_alloc ?_ _)); exact BK1094.out)) : gb1094 ≠ gb1107))
                have n9_ := Aside0.mk ((by rw [hg]; exact Nat.ne_of_gt (blk_lt (g := gb1094) (o := .cells #[.slice none 0 0, .int .i64 0, .int .i64 0, .int .i64 0, .int .i64 0, .int .i64 0, .slice none 0 0] 51 (0, 0)) (by (with_reducible repeat (first | refine blk_drewN ?_ _ | refine blk_drew ?_ | refine blk_alloc ?_ _)); exact BK1094.out)) : gb1107 ≠ gb1094))
                clear BK1093
                clear BK1094
                clear HB
                have BK1093 := n0_
                have BK1094 := n1_
                have HB := n2_
                have BK1107 := n3_
                have GW1107 := n4_
                have GE1107 := n5_
                have NB1093_1107 := n6_
                have NB1107_1093 := n7_
                have NB1094_1107 := n8_
                have NB1107_1094 := n9_
                clear n0_ n1_ n2_ n3_ n4_ n5_ n6_ n7_ n8_ n9_
                clear hb hbox hg
                refine hK.out _ _ ⟨(blk_cell BK1093.out 0).trans rfl, (blk_cell BK1093.out 1).trans rfl, (blk_cell BK1093.out 2).trans rfl, (blk_cell BK1093.out 3).trans rfl, (blk_cell BK1093.out 4).trans rfl, (blk_cell BK1093.out 5).trans rfl, (blk_cell BK1093.out 6).trans rfl⟩ (fun hHeld => ?_)
                clear hK K
                refine norm_ (a' := ?_) ?_ ?_
                rotate_left
                · show Act.put _ (some 4) _ = _
                  simp only [Act.put, List.setIfInBounds_toArray, List.set_cons_zero, List.set_cons_succ, i64_w, i32_w]
                  rfl
                refine one_ (i := 1) (N := some 17) #[true, true, true, true, true, true, true, false, false] rfl rfl (one_of HT_.out (by kernel_rfl)) (by decide) (fun K hK => ?_)
                refine goes_ Try.func121 (by kernel_rfl) rfl #[.agg #[.slice A0_0 l0_0.length c0_0, .int .i64 a0_1, .int .i64 a0_2, .int .i64 a0_3, .int .i64 a0_4, .int .i64 a0_5, .slice A0_6 l0_6.length c0_6]] (by rfl) rfl rfl (by (try simp only [List.map_toArray, List.map_cons, List.map_nil]); first | done | rfl | (simp only [List.length_drop, List.length_take]; rfl)) ?_
                with_reducible refine (impl_Arena_own.calls k _ _ l0_0 a0_1 a0_2 a0_3 a0_4 a0_5 _ _ l0_6 t1096 t1099 t1100 t1101 t1102 t1103 t1104 _ ?side1 ?side2 ?side3 ?side4 A12.out).mono ?_
                (case side1 => repeat (first | exact (Kd.C_below HR0_0.out HB.out) | (with_reducible refine Kd.C_alloc ?_ _) | (with_reducible refine Kd.C_drewN ?_ _) | (with_reducible refine Kd.C_drew ?_)))
                (case side2 => exact HC0_0.out)
                (case side3 => repeat (first | exact (Kd.C_below HR0_6.out HB.out) | (with_reducible refine Kd.C_alloc ?_ _) | (with_reducible refine Kd.C_drewN ?_ _) | (with_reducible refine Kd.C_drew ?_)))
                (case side4 => exact HC0_6.out)
                rintro e w25 ⟨v1097, v1105, rfl, ho0, ho1, hb⟩
                refine ⟨_, rfl, ?_⟩
                have n0_ := Aside0.mk (Kd.S_lower ho0 (below_size (by repeat (first | (with_reducible first | exact HB.out | apply below_alloc | apply pw_below_drewN | apply below_drew1 | refine below_set ?_ GE1093.out | refine below_set ?_ GE1094.out | refine below_set ?_ GE1107.out) | exact HB.out))))
                have n1_ := Aside0.mk (Kd.R_lower ho1 (below_size (by repeat (first | (with_reducible first | exact HB.out | apply below_alloc | apply pw_below_drewN | apply below_drew1 | refine below_set ?_ GE1093.out | refine below_set ?_ GE1094.out | refine below_set ?_ GE1107.out) | exact HB.out))))
                have n2_ := Aside0.mk (blk_below (g := gb1093) (o := .cells #[.slice A0_0 l0_0.length c0_0, .int .i64 a0_1, .int .i64 a0_2, .int .i64 a0_3, .int .i64 a0_4, .int .i64 a0_5, .slice A0_6 l0_6.length c0_6] 51 (0, 0)) (by (with_reducible repeat (first | refine blk_drewN ?_ _ | refine blk_drew ?_ | refine blk_alloc ?_ _)); exact BK1093.out) hb)
                have n3_ := Aside0.mk (blk_below (g := gb1094) (o := .cells #[.slice none 0 0, .int .i64 0, .int .i64 0, .int .i64 0, .int .i64 0, .int .i64 0, .slice none 0 0] 51 (0, 0)) (by (with_reducible repeat (first | refine blk_drewN ?_ _ | refine blk_drew ?_ | refine blk_alloc ?_ _)); exact BK1094.out) hb)
                have n4_ := Aside0.mk (blk_below (g := gb1107) (o := .cells #[.slice none 0 0, .int .i64 0, .int .i64 0, .int .i64 0, .int .i64 0, .int .i64 0, .slice none 0 0] 51 (0, 0)) (by (with_reducible repeat (first | refine blk_drewN ?_ _ | refine blk_drew ?_ | refine blk_alloc ?_ _)); exact BK1107.out) hb)
                have n5_ := Aside0.mk (below_step (by repeat (first | (with_reducible first | exact HB.out | apply below_alloc | apply pw_below_drewN | apply below_drew1 | refine below_set ?_ GE1093.out | refine below_set ?_ GE1094.out | refine below_set ?_ GE1107.out) | exact HB.out)) hb)
                clear BK1093
                clear BK1094
                clear BK1107
                clear HB
                have HO1098 := n0_
                have HO1106 := n1_
                have BK1093 := n2_
                have BK1094 := n3_
                have BK1107 := n4_
                have HB := n5_
                clear n0_ n1_ n2_ n3_ n4_ n5_
                (try clear hb)
                (try clear hb2)
                (try clear hk)
                (try clear hi)
                (try clear ho0)
                (try clear ho1)
                refine hK.out _ _ ⟨(blk_cell BK1093.out 0).trans rfl, (blk_cell BK1093.out 1).trans rfl, (blk_cell BK1093.out 2).trans rfl, (blk_cell BK1093.out 3).trans rfl, (blk_cell BK1093.out 4).trans rfl, (blk_cell BK1093.out 5).trans rfl, (blk_cell BK1093.out 6).trans rfl⟩ (fun hHeld => ?_)
                clear hK K
                refine norm_ (a' := ?_) ?_ ?_
                rotate_left
                · show Act.put _ (some 17) _ = _
                  simp only [Act.put, List.setIfInBounds_toArray, List.set_cons_zero, List.set_cons_succ, i64_w, i32_w]
                  rfl
                exact norm_ (by simp only [putAll, Act.put, List.setIfInBounds_toArray, List.set_cons_zero, List.set_cons_succ]) (hCont (v1097, v1105, gb1107) _ ⟨hHeld, (by (with_reducible repeat (first | apply Kd.S_alloc | apply Kd.S_drewN | apply Kd.S_drew)); exact HO1098.out), (by (with_reducible repeat (first | apply Kd.R_alloc | apply Kd.R_drewN | apply Kd.R_drew)); exact HO1106.out), (by (with_reducible repeat (first | refine blk_drewN ?_ _ | refine blk_drew ?_ | refine blk_alloc ?_ _)); exact BK1093.out), (by (with_reducible repeat (first | refine blk_drewN ?_ _ | refine blk_drew ?_ | refine blk_alloc ?_ _)); exact BK1094.out), (by (with_reducible repeat (first | refine blk_drewN ?_ _ | refine blk_drew ?_ | refine blk_alloc ?_ _)); exact BK1107.out), GW1107.out, GE1107.out, NB1093_1107.out, NB1107_1093.out, NB1094_1107.out, NB1107_1094.out, (by repeat (first | (with_reducible first | exact HB.out | apply below_alloc | apply pw_below_drewN | apply below_drew1 | refine below_set ?_ GE1093.out | refine below_set ?_ GE1094.out | refine below_set ?_ GE1107.out) | exact HB.out))⟩)
            rintro ⟨v1097, v1105, gb1107⟩ w26 ⟨hS_, h0_, h1_, h2_, h3_, h4_, h5_, h6_, h7_, h8_, h9_, h10_, h11_⟩
            have n0_ : Aside0 (Kd.S (Kd.slice 5 (Kd.int .u8)) 119 w26 w.heap.size (fun _ => True) v1097 t1096) := ⟨h0_⟩
            have n1_ : Aside0 (Kd.R (Kd.int .i64) 3 w26 w.heap.size (fun _ => True) v1105 t1104) := ⟨h1_⟩
            have n2_ : Aside0 (w26.heap[gb1093]? = some (.cells #[.slice A0_0 l0_0.length c0_0, .int .i64 a0_1, .int .i64 a0_2, .int .i64 a0_3, .int .i64 a0_4, .int .i64 a0_5, .slice A0_6 l0_6.length c0_6] 51 (0, 0))) := ⟨h2_⟩
            have n3_ : Aside0 (w26.heap[gb1094]? = some (.cells #[.slice none 0 0, .int .i64 0, .int .i64 0, .int .i64 0, .int .i64 0, .int .i64 0, .slice none 0 0] 51 (0, 0))) := ⟨h3_⟩
            have n4_ : Aside0 (w26.heap[gb1107]? = some (.cells #[.slice none 0 0, .int .i64 0, .int .i64 0, .int .i64 0, .int .i64 0, .int .i64 0, .slice none 0 0] 51 (0, 0))) := ⟨h4_⟩
            have n5_ : Aside0 (w.heap.size ≤ gb1107) := ⟨h5_⟩
            have n6_ : Aside0 (w.heap.size ≤ gb1107) := ⟨h6_⟩
            have n7_ : Aside0 (gb1093 ≠ gb1107) := ⟨h7_⟩
            have n8_ : Aside0 (gb1107 ≠ gb1093) := ⟨h8_⟩
            have n9_ : Aside0 (gb1094 ≠ gb1107) := ⟨h9_⟩
            have n10_ : Aside0 (gb1107 ≠ gb1094) := ⟨h10_⟩
            have n11_ : Aside0 (Below w.heap.size w w26) := ⟨h11_⟩
            clear BK1093
            clear BK1094
            clear HB
            clear h0_ h1_ h2_ h3_ h4_ h5_ h6_ h7_ h8_ h9_ h10_ h11_
            have HO1098 := n0_
            have HO1106 := n1_
            have BK1093 := n2_
            have BK1094 := n3_
            have BK1107 := n4_
            have GW1107 := n5_
            have GE1107 := n6_
            have NB1093_1107 := n7_
            have NB1107_1093 := n8_
            have NB1094_1107 := n9_
            have NB1107_1094 := n10_
            have HB := n11_
            clear n0_ n1_ n2_ n3_ n4_ n5_ n6_ n7_ n8_ n9_ n10_ n11_
            have hHeld : w26.cell? ⟨gb1093, 0, none⟩ = some (.slice A0_0 l0_0.length c0_0) ∧ w26.cell? ⟨gb1093, 1, none⟩ = some (.int .i64 a0_1) ∧ w26.cell? ⟨gb1093, 2, none⟩ = some (.int .i64 a0_2) ∧ w26.cell? ⟨gb1093, 3, none⟩ = some (.int .i64 a0_3) ∧ w26.cell? ⟨gb1093, 4, none⟩ = some (.int .i64 a0_4) ∧ w26.cell? ⟨gb1093, 5, none⟩ = some (.int .i64 a0_5) ∧ w26.cell? ⟨gb1093, 6, none⟩ = some (.slice A0_6 l0_6.length c0_6) := hS_
            obtain ⟨Ao27, co27, eo27⟩ := Kd.S_slice HO1098.out
            (first | subst eo27 | (injection eo27 with f1_ f2_ f3_; have f4_ := f1_.symm; have f5_ := f3_.symm; clear f1_ f2_ f3_; subst f4_; subst f5_))
            obtain ⟨Ao34, co34, eo34⟩ := Kd.R_slice HO1106.out
            (first | subst eo34 | (injection eo34 with f1_ f2_ f3_; have f4_ := f1_.symm; have f5_ := f3_.symm; clear f1_ f2_ f3_; subst f4_; subst f5_))
            refine norm_ (a' := ?_) ?_ ?_
            rotate_left
            · simp only [putAll, Act.put, List.setIfInBounds_toArray, List.set_cons_zero, List.set_cons_succ]
              rfl
            refine one_ (i := 7) (N := none) #[true, true, true, true, true, true, true, true, false] rfl rfl (one_of HT_.out (by kernel_rfl)) (by decide) (fun K hK => ?_)
            have hs28 : w26.cell? ⟨gb1107, 0, none⟩ = some (.slice none 0 0) := (blk_cell BK1107.out 0).trans rfl
            have hfs28 := blk_frozen BK1107.out 0
            have hns28_0 := NB1093_1107.out
            have hns28_1 := NB1094_1107.out
            have hms28_0 := NB1107_1093.out
            have hms28_1 := NB1107_1094.out
            have hs29 : w26.cell? ⟨gb1107, 1, none⟩ = some (.int .i64 0) := (blk_cell BK1107.out 1).trans rfl
            have hfs29 := blk_frozen BK1107.out 1
            have hns29_0 := NB1093_1107.out
            have hns29_1 := NB1094_1107.out
            have hms29_0 := NB1107_1093.out
            have hms29_1 := NB1107_1094.out
            have hs30 : w26.cell? ⟨gb1107, 2, none⟩ = some (.int .i64 0) := (blk_cell BK1107.out 2).trans rfl
            have hfs30 := blk_frozen BK1107.out 2
            have hns30_0 := NB1093_1107.out
            have hns30_1 := NB1094_1107.out
            have hms30_0 := NB1107_1093.out
            have hms30_1 := NB1107_1094.out
            have hs31 : w26.cell? ⟨gb1107, 3, none⟩ = some (.int .i64 0) := (blk_cell BK1107.out 3).trans rfl
            have hfs31 := blk_frozen BK1107.out 3
            have hns31_0 := NB1093_1107.out
            have hns31_1 := NB1094_1107.out
            have hms31_0 := NB1107_1093.out
            have hms31_1 := NB1107_1094.out
            have hs32 : w26.cell? ⟨gb1107, 4, none⟩ = some (.int .i64 0) := (blk_cell BK1107.out 4).trans rfl
            have hfs32 := blk_frozen BK1107.out 4
            have hns32_0 := NB1093_1107.out
            have hns32_1 := NB1094_1107.out
            have hms32_0 := NB1107_1093.out
            have hms32_1 := NB1107_1094.out
            have hs33 : w26.cell? ⟨gb1107, 5, none⟩ = some (.int .i64 0) := (blk_cell BK1107.out 5).trans rfl
            have hfs33 := blk_frozen BK1107.out 5
            have hns33_0 := NB1093_1107.out
            have hns33_1 := NB1094_1107.out
            have hms33_0 := NB1107_1093.out
            have hms33_1 := NB1107_1094.out
            have hs35 : w26.cell? ⟨gb1107, 6, none⟩ = some (.slice none 0 0) := (blk_cell BK1107.out 6).trans rfl
            have hfs35 := blk_frozen BK1107.out 6
            have hns35_0 := NB1093_1107.out
            have hns35_1 := NB1094_1107.out
            have hms35_0 := NB1107_1093.out
            have hms35_1 := NB1107_1094.out
            refine skip_ (w1 := ?_) (by rfl) rfl ?_ ?_
            rotate_left
            · go_simp
              rfl
            refine hK.out _ _ ⟨((cell_far (p := ⟨gb1107, _, none⟩) NB1093_1107.out _).trans (((cell_far (p := ⟨gb1107, _, none⟩) NB1093_1107.out _).trans (((cell_far (p := ⟨gb1107, _, none⟩) NB1093_1107.out _).trans (((cell_far (p := ⟨gb1107, _, none⟩) NB1093_1107.out _).trans (((cell_far (p := ⟨gb1107, _, none⟩) NB1093_1107.out _).trans (((cell_far (p := ⟨gb1107, _, none⟩) NB1093_1107.out _).trans (((cell_far (p := ⟨gb1107, _, none⟩) NB1093_1107.out _).trans (hHeld.1)))))))))))))), ((cell_far (p := ⟨gb1107, _, none⟩) NB1093_1107.out _).trans (((cell_far (p := ⟨gb1107, _, none⟩) NB1093_1107.out _).trans (((cell_far (p := ⟨gb1107, _, none⟩) NB1093_1107.out _).trans (((cell_far (p := ⟨gb1107, _, none⟩) NB1093_1107.out _).trans (((cell_far (p := ⟨gb1107, _, none⟩) NB1093_1107.out _).trans (((cell_far (p := ⟨gb1107, _, none⟩) NB1093_1107.out _).trans (((cell_far (p := ⟨gb1107, _, none⟩) NB1093_1107.out _).trans (hHeld.2.1)))))))))))))), ((cell_far (p := ⟨gb1107, _, none⟩) NB1093_1107.out _).trans (((cell_far (p := ⟨gb1107, _, none⟩) NB1093_1107.out _).trans (((cell_far (p := ⟨gb1107, _, none⟩) NB1093_1107.out _).trans (((cell_far (p := ⟨gb1107, _, none⟩) NB1093_1107.out _).trans (((cell_far (p := ⟨gb1107, _, none⟩) NB1093_1107.out _).trans (((cell_far (p := ⟨gb1107, _, none⟩) NB1093_1107.out _).trans (((cell_far (p := ⟨gb1107, _, none⟩) NB1093_1107.out _).trans (hHeld.2.2.1)))))))))))))), ((cell_far (p := ⟨gb1107, _, none⟩) NB1093_1107.out _).trans (((cell_far (p := ⟨gb1107, _, none⟩) NB1093_1107.out _).trans (((cell_far (p := ⟨gb1107, _, none⟩) NB1093_1107.out _).trans (((cell_far (p := ⟨gb1107, _, none⟩) NB1093_1107.out _).trans (((cell_far (p := ⟨gb1107, _, none⟩) NB1093_1107.out _).trans (((cell_far (p := ⟨gb1107, _, none⟩) NB1093_1107.out _).trans (((cell_far (p := ⟨gb1107, _, none⟩) NB1093_1107.out _).trans (hHeld.2.2.2.1)))))))))))))), ((cell_far (p := ⟨gb1107, _, none⟩) NB1093_1107.out _).trans (((cell_far (p := ⟨gb1107, _, none⟩) NB1093_1107.out _).trans (((cell_far (p := ⟨gb1107, _, none⟩) NB1093_1107.out _).trans (((cell_far (p := ⟨gb1107, _, none⟩) NB1093_1107.out _).trans (((cell_far (p := ⟨gb1107, _, none⟩) NB1093_1107.out _).trans (((cell_far (p := ⟨gb1107, _, none⟩) NB1093_1107.out _).trans (((cell_far (p := ⟨gb1107, _, none⟩) NB1093_1107.out _).trans (hHeld.2.2.2.2.1)))))))))))))), ((cell_far (p := ⟨gb1107, _, none⟩) NB1093_1107.out _).trans (((cell_far (p := ⟨gb1107, _, none⟩) NB1093_1107.out _).trans (((cell_far (p := ⟨gb1107, _, none⟩) NB1093_1107.out _).trans (((cell_far (p := ⟨gb1107, _, none⟩) NB1093_1107.out _).trans (((cell_far (p := ⟨gb1107, _, none⟩) NB1093_1107.out _).trans (((cell_far (p := ⟨gb1107, _, none⟩) NB1093_1107.out _).trans (((cell_far (p := ⟨gb1107, _, none⟩) NB1093_1107.out _).trans (hHeld.2.2.2.2.2.1)))))))))))))), ((cell_far (p := ⟨gb1107, _, none⟩) NB1093_1107.out _).trans (((cell_far (p := ⟨gb1107, _, none⟩) NB1093_1107.out _).trans (((cell_far (p := ⟨gb1107, _, none⟩) NB1093_1107.out _).trans (((cell_far (p := ⟨gb1107, _, none⟩) NB1093_1107.out _).trans (((cell_far (p := ⟨gb1107, _, none⟩) NB1093_1107.out _).trans (((cell_far (p := ⟨gb1107, _, none⟩) NB1093_1107.out _).trans (((cell_far (p := ⟨gb1107, _, none⟩) NB1093_1107.out _).trans (hHeld.2.2.2.2.2.2))))))))))))))⟩ (fun hHeld => ?_)
            clear hK K
            refine pure_ (i := 8) (N := some 5) (v := ?_) (a' := ?_) #[true, true, true, true, true, true, true, true, true] rfl rfl (any_of HT_.out (by kernel_rfl)) (fun _ _ _ h => h) (Or.inl ⟨by rfl, ?_⟩) ?_ ?_
            rotate_left
            · intro w'
              go_simp
              with_reducible rfl
            rotate_left
            · simp only [Act.put, List.setIfInBounds_toArray, List.set_cons_zero, List.set_cons_succ, i64_w, i32_w]
              rfl
            refine done_ (done_of HT_.out (by kernel_rfl)) ?_
            try go_wp2
            have n0_ : Aside0 (Kd.S (Kd.slice 5 (Kd.int .u8)) 119 (((((((w26.setCell ⟨gb1107, 0, none⟩ (.slice Ao27 t1096.length co27)).setCell ⟨gb1107, 1, none⟩ (.int .i64 t1099)).setCell ⟨gb1107, 2, none⟩ (.int .i64 t1100)).setCell ⟨gb1107, 3, none⟩ (.int .i64 t1101)).setCell ⟨gb1107, 4, none⟩ (.int .i64 t1102)).setCell ⟨gb1107, 5, none⟩ (.int .i64 t1103)).setCell ⟨gb1107, 6, none⟩ (.slice Ao34 t1104.length co34)) w.heap.size (fun _ => True) (.slice Ao27 t1096.length co27) t1096) := ⟨by (with_reducible repeat (first | apply Kd.S_alloc | apply Kd.S_drewN | apply Kd.S_drew)); exact Kd.S_mono (Kd.S_far (p := ⟨gb1107, 6, none⟩) (Kd.S_far (p := ⟨gb1107, 5, none⟩) (Kd.S_far (p := ⟨gb1107, 4, none⟩) (Kd.S_far (p := ⟨gb1107, 3, none⟩) (Kd.S_far (p := ⟨gb1107, 2, none⟩) (Kd.S_far (p := ⟨gb1107, 1, none⟩) (Kd.S_far (p := ⟨gb1107, 0, none⟩) (Kd.S_types HO1098.out BK1107.out (by decide)) (fun _ hk => hk.2) (.slice Ao27 t1096.length co27)) (fun _ hk => hk.2) (.int .i64 t1099)) (fun _ hk => hk.2) (.int .i64 t1100)) (fun _ hk => hk.2) (.int .i64 t1101)) (fun _ hk => hk.2) (.int .i64 t1102)) (fun _ hk => hk.2) (.int .i64 t1103)) (fun _ hk => hk.2) (.slice Ao34 t1104.length co34)) (fun _ hk => trivial)⟩
            have n1_ : Aside0 (Kd.R (Kd.int .i64) 3 (((((((w26.setCell ⟨gb1107, 0, none⟩ (.slice Ao27 t1096.length co27)).setCell ⟨gb1107, 1, none⟩ (.int .i64 t1099)).setCell ⟨gb1107, 2, none⟩ (.int .i64 t1100)).setCell ⟨gb1107, 3, none⟩ (.int .i64 t1101)).setCell ⟨gb1107, 4, none⟩ (.int .i64 t1102)).setCell ⟨gb1107, 5, none⟩ (.int .i64 t1103)).setCell ⟨gb1107, 6, none⟩ (.slice Ao34 t1104.length co34)) w.heap.size (fun _ => True) (.slice Ao34 t1104.length co34) t1104) := ⟨by (with_reducible repeat (first | apply Kd.R_alloc | apply Kd.R_drewN | apply Kd.R_drew)); exact Kd.R_mono (Kd.R_far (p := ⟨gb1107, 6, none⟩) (Kd.R_far (p := ⟨gb1107, 5, none⟩) (Kd.R_far (p := ⟨gb1107, 4, none⟩) (Kd.R_far (p := ⟨gb1107, 3, none⟩) (Kd.R_far (p := ⟨gb1107, 2, none⟩) (Kd.R_far (p := ⟨gb1107, 1, none⟩) (Kd.R_far (p := ⟨gb1107, 0, none⟩) (Kd.R_types HO1106.out BK1107.out (by decide)) (fun _ hk => hk.2) (.slice Ao27 t1096.length co27)) (fun _ hk => hk.2) (.int .i64 t1099)) (fun _ hk => hk.2) (.int .i64 t1100)) (fun _ hk => hk.2) (.int .i64 t1101)) (fun _ hk => hk.2) (.int .i64 t1102)) (fun _ hk => hk.2) (.int .i64 t1103)) (fun _ hk => hk.2) (.slice Ao34 t1104.length co34)) (fun _ hk => trivial)⟩
            have n2_ : Aside0 ((((((((w26.setCell ⟨gb1107, 0, none⟩ (.slice Ao27 t1096.length co27)).setCell ⟨gb1107, 1, none⟩ (.int .i64 t1099)).setCell ⟨gb1107, 2, none⟩ (.int .i64 t1100)).setCell ⟨gb1107, 3, none⟩ (.int .i64 t1101)).setCell ⟨gb1107, 4, none⟩ (.int .i64 t1102)).setCell ⟨gb1107, 5, none⟩ (.int .i64 t1103)).setCell ⟨gb1107, 6, none⟩ (.slice Ao34 t1104.length co34)).heap[gb1093]? = some (.cells #[.slice A0_0 l0_0.length c0_0, .int .i64 a0_1, .int .i64 a0_2, .int .i64 a0_3, .int .i64 a0_4, .int .i64 a0_5, .slice A0_6 l0_6.length c0_6] 51 (0, 0))) := ⟨by (with_reducible repeat (first | refine blk_drewN ?_ _ | refine blk_drew ?_ | refine blk_alloc ?_ _)); refine blk_far ?_ NB1093_1107.out _; (with_reducible repeat (first | refine blk_drewN ?_ _ | refine blk_drew ?_ | refine blk_alloc ?_ _)); refine blk_far ?_ NB1093_1107.out _; (with_reducible repeat (first | refine blk_drewN ?_ _ | refine blk_drew ?_ | refine blk_alloc ?_ _)); refine blk_far ?_ NB1093_1107.out _; (with_reducible repeat (first | refine blk_drewN ?_ _ | refine blk_drew ?_ | refine blk_alloc ?_ _)); refine blk_far ?_ NB1093_1107.out _; (with_reducible repeat (first | refine blk_drewN ?_ _ | refine blk_drew ?_ | refine blk_alloc ?_ _)); refine blk_far ?_ NB1093_1107.out _; (with_reducible repeat (first | refine blk_drewN ?_ _ | refine blk_drew ?_ | refine blk_alloc ?_ _)); refine blk_far ?_ NB1093_1107.out _; (with_reducible repeat (first | refine blk_drewN ?_ _ | refine blk_drew ?_ | refine blk_alloc ?_ _)); refine blk_far ?_ NB1093_1107.out _; (with_reducible repeat (first | refine blk_drewN ?_ _ | refine blk_drew ?_ | refine blk_alloc ?_ _)); exact BK1093.out⟩
            have n3_ : Aside0 ((((((((w26.setCell ⟨gb1107, 0, none⟩ (.slice Ao27 t1096.length co27)).setCell ⟨gb1107, 1, none⟩ (.int .i64 t1099)).setCell ⟨gb1107, 2, none⟩ (.int .i64 t1100)).setCell ⟨gb1107, 3, none⟩ (.int .i64 t1101)).setCell ⟨gb1107, 4, none⟩ (.int .i64 t1102)).setCell ⟨gb1107, 5, none⟩ (.int .i64 t1103)).setCell ⟨gb1107, 6, none⟩ (.slice Ao34 t1104.length co34)).heap[gb1094]? = some (.cells #[.slice none 0 0, .int .i64 0, .int .i64 0, .int .i64 0, .int .i64 0, .int .i64 0, .slice none 0 0] 51 (0, 0))) := ⟨by (with_reducible repeat (first | refine blk_drewN ?_ _ | refine blk_drew ?_ | refine blk_alloc ?_ _)); refine blk_far ?_ NB1094_1107.out _; (with_reducible repeat (first | refine blk_drewN ?_ _ | refine blk_drew ?_ | refine blk_alloc ?_ _)); refine blk_far ?_ NB1094_1107.out _; (with_reducible repeat (first | refine blk_drewN ?_ _ | refine blk_drew ?_ | refine blk_alloc ?_ _)); refine blk_far ?_ NB1094_1107.out _; (with_reducible repeat (first | refine blk_drewN ?_ _ | refine blk_drew ?_ | refine blk_alloc ?_ _)); refine blk_far ?_ NB1094_1107.out _; (with_reducible repeat (first | refine blk_drewN ?_ _ | refine blk_drew ?_ | refine blk_alloc ?_ _)); refine blk_far ?_ NB1094_1107.out _; (with_reducible repeat (first | refine blk_drewN ?_ _ | refine blk_drew ?_ | refine blk_alloc ?_ _)); refine blk_far ?_ NB1094_1107.out _; (with_reducible repeat (first | refine blk_drewN ?_ _ | refine blk_drew ?_ | refine blk_alloc ?_ _)); refine blk_far ?_ NB1094_1107.out _; (with_reducible repeat (first | refine blk_drewN ?_ _ | refine blk_drew ?_ | refine blk_alloc ?_ _)); exact BK1094.out⟩
            have n4_ : Aside0 ((((((((w26.setCell ⟨gb1107, 0, none⟩ (.slice Ao27 t1096.length co27)).setCell ⟨gb1107, 1, none⟩ (.int .i64 t1099)).setCell ⟨gb1107, 2, none⟩ (.int .i64 t1100)).setCell ⟨gb1107, 3, none⟩ (.int .i64 t1101)).setCell ⟨gb1107, 4, none⟩ (.int .i64 t1102)).setCell ⟨gb1107, 5, none⟩ (.int .i64 t1103)).setCell ⟨gb1107, 6, none⟩ (.slice Ao34 t1104.length co34)).heap[gb1107]? = some (.cells #[.slice Ao27 t1096.length co27, .int .i64 t1099, .int .i64 t1100, .int .i64 t1101, .int .i64 t1102, .int .i64 t1103, .slice Ao34 t1104.length co34] 51 (0, 0))) := ⟨by (with_reducible repeat (first | refine blk_drewN ?_ _ | refine blk_drew ?_ | refine blk_alloc ?_ _)); refine blk_put (cs := #[.slice Ao27 t1096.length co27, .int .i64 t1099, .int .i64 t1100, .int .i64 t1101, .int .i64 t1102, .int .i64 t1103, .slice none 0 0]) ?_ 6 _ rfl; (with_reducible repeat (first | refine blk_drewN ?_ _ | refine blk_drew ?_ | refine blk_alloc ?_ _)); refine blk_put (cs := #[.slice Ao27 t1096.length co27, .int .i64 t1099, .int .i64 t1100, .int .i64 t1101, .int .i64 t1102, .int .i64 0, .slice none 0 0]) ?_ 5 _ rfl; (with_reducible repeat (first | refine blk_drewN ?_ _ | refine blk_drew ?_ | refine blk_alloc ?_ _)); refine blk_put (cs := #[.slice Ao27 t1096.length co27, .int .i64 t1099, .int .i64 t1100, .int .i64 t1101, .int .i64 0, .int .i64 0, .slice none 0 0]) ?_ 4 _ rfl; (with_reducible repeat (first | refine blk_drewN ?_ _ | refine blk_drew ?_ | refine blk_alloc ?_ _)); refine blk_put (cs := #[.slice Ao27 t1096.length co27, .int .i64 t1099, .int .i64 t1100, .int .i64 0, .int .i64 0, .int .i64 0, .slice none 0 0]) ?_ 3 _ rfl; (with_reducible repeat (first | refine blk_drewN ?_ _ | refine blk_drew ?_ | refine blk_alloc ?_ _)); refine blk_put (cs := #[.slice Ao27 t1096.length co27, .int .i64 t1099, .int .i64 0, .int .i64 0, .int .i64 0, .int .i64 0, .slice none 0 0]) ?_ 2 _ rfl; (with_reducible repeat (first | refine blk_drewN ?_ _ | refine blk_drew ?_ | refine blk_alloc ?_ _)); refine blk_put (cs := #[.slice Ao27 t1096.length co27, .int .i64 0, .int .i64 0, .int .i64 0, .int .i64 0, .int .i64 0, .slice none 0 0]) ?_ 1 _ rfl; (with_reducible repeat (first | refine blk_drewN ?_ _ | refine blk_drew ?_ | refine blk_alloc ?_ _)); refine blk_put (cs := #[.slice none 0 0, .int .i64 0, .int .i64 0, .int .i64 0, .int .i64 0, .int .i64 0, .slice none 0 0]) ?_ 0 _ rfl; (with_reducible repeat (first | refine blk_drewN ?_ _ | refine blk_drew ?_ | refine blk_alloc ?_ _)); exact BK1107.out⟩
            have n5_ : Aside0 (Below w.heap.size w (((((((w26.setCell ⟨gb1107, 0, none⟩ (.slice Ao27 t1096.length co27)).setCell ⟨gb1107, 1, none⟩ (.int .i64 t1099)).setCell ⟨gb1107, 2, none⟩ (.int .i64 t1100)).setCell ⟨gb1107, 3, none⟩ (.int .i64 t1101)).setCell ⟨gb1107, 4, none⟩ (.int .i64 t1102)).setCell ⟨gb1107, 5, none⟩ (.int .i64 t1103)).setCell ⟨gb1107, 6, none⟩ (.slice Ao34 t1104.length co34))) := ⟨by repeat (first | (with_reducible first | exact HB.out | apply below_alloc | apply pw_below_drewN | apply below_drew1 | refine below_set ?_ GE1093.out | refine below_set ?_ GE1094.out | refine below_set ?_ GE1107.out) | exact HB.out)⟩
            (try clear HO1098)
            (try clear HO1106)
            (try clear BK1093)
            (try clear BK1094)
            (try clear BK1107)
            (try clear HB)
            generalize (((((((w26.setCell ⟨gb1107, 0, none⟩ (.slice Ao27 t1096.length co27)).setCell ⟨gb1107, 1, none⟩ (.int .i64 t1099)).setCell ⟨gb1107, 2, none⟩ (.int .i64 t1100)).setCell ⟨gb1107, 3, none⟩ (.int .i64 t1101)).setCell ⟨gb1107, 4, none⟩ (.int .i64 t1102)).setCell ⟨gb1107, 5, none⟩ (.int .i64 t1103)).setCell ⟨gb1107, 6, none⟩ (.slice Ao34 t1104.length co34)) = w36 at n0_ n1_ n2_ n3_ n4_ n5_ ⊢
            have HO1098 := n0_
            have HO1106 := n1_
            have BK1093 := n2_
            have BK1094 := n3_
            have BK1107 := n4_
            have HB := n5_
            clear n0_ n1_ n2_ n3_ n4_ n5_
            have n0_ := Aside0.mk (Kd.S_drew HO1098.out)
            have n1_ := Aside0.mk (Kd.R_drew HO1106.out)
            have n2_ := Aside0.mk (blk_drew BK1093.out)
            have n3_ := Aside0.mk (blk_drew BK1094.out)
            have n4_ := Aside0.mk (blk_drew BK1107.out)
            have n5_ := Aside0.mk (below_drew1 HB.out)
            clear HO1098
            clear HO1106
            clear BK1093
            clear BK1094
            clear BK1107
            clear HB
            have HO1098 := n0_
            have HO1106 := n1_
            have BK1093 := n2_
            have BK1094 := n3_
            have BK1107 := n4_
            have HB := n5_
            clear n0_ n1_ n2_ n3_ n4_ n5_
            have p1108 : 0 ≤ ((ji13) : Int) := of_decide_eq_true (by first | (with_reducible assumption) | assumption)
            have q1108 : (ji13) < (l0_6.length : Int) := of_decide_eq_true (by first | (with_reducible assumption) | assumption)
            obtain ⟨ad1108, e1108, hx1108_0⟩ := Kd.at_int HR0_6.out (ji13) p1108 q1108
            have hw1108_0 := hx1108_0
            cases e1108
            replace hx1108_0 := (HB.out.cell (World.block_lt_of_cell? w _ hx1108_0)).trans hx1108_0
            replace p1108 := eq_true p1108
            replace q1108 := eq_true q1108
            have q38 : ((ji13) : Int) ≤ ((t1104.length : Int) : Int) := of_decide_eq_true (by first | (with_reducible assumption) | assumption)
            obtain ⟨i038, hi038, _, hsz38, _⟩ := info_parts info3
            have hcut38 := cut_to (P := Try.prog) 49 3 .i64 Try.underlying49 hi038 Ao34 t1104.length co34 (ji13) (of_decide_eq_true (by first | (with_reducible assumption) | assumption)) q38 (Kd.R_reads' HO1106.out).2.1
            have hr38 := Kd.R_take (m := ((ji13) : Int).toNat) HO1106.out (by omega)
            have hy38 : y1109.length = ((ji13) : Int).toNat := (by rw [Ny1109.out, List.length_take]; omega)
            rw [← Ny1109.out] at hr38
            rw [← hy38] at hr38 hcut38
            clear hy38 hi038 hsz38 HO1106
            have HO1111 := Aside0.mk hr38
            clear hr38
            replace q38 := eq_true q38
            refine start_ (n := 13) (S := fun w' => w'.cell? ⟨gb1093, 0, none⟩ = some (.slice A0_0 l0_0.length c0_0) ∧ w'.cell? ⟨gb1093, 1, none⟩ = some (.int .i64 a0_1) ∧ w'.cell? ⟨gb1093, 2, none⟩ = some (.int .i64 a0_2) ∧ w'.cell? ⟨gb1093, 3, none⟩ = some (.int .i64 a0_3) ∧ w'.cell? ⟨gb1093, 4, none⟩ = some (.int .i64 a0_4) ∧ w'.cell? ⟨gb1093, 5, none⟩ = some (.int .i64 a0_5) ∧ w'.cell? ⟨gb1093, 6, none⟩ = some (.slice (some ad1108) l0_6.length c0_6) ∧ w'.cell? ⟨gb1107, 0, none⟩ = some (.slice Ao27 t1096.length co27) ∧ w'.cell? ⟨gb1107, 1, none⟩ = some (.int .i64 t1099) ∧ w'.cell? ⟨gb1107, 2, none⟩ = some (.int .i64 t1100) ∧ w'.cell? ⟨gb1107, 3, none⟩ = some (.int .i64 t1101) ∧ w'.cell? ⟨gb1107, 4, none⟩ = some (.int .i64 t1102) ∧ w'.cell? ⟨gb1107, 5, none⟩ = some (.int .i64 t1103) ∧ w'.cell? ⟨gb1107, 6, none⟩ = some (.slice Ao34 t1104.length co34) ∧ w'.cell? (ad1108.add ((ji13)).toNat) = some (.int .i64 (rd l0_6 (ji13)))) (ds := [10, 12]) #[false, false, false, false, false, false, false, false, false, false, false, false, false] (by kernel_rfl) rfl rfl ⟨(blk_cell BK1093.out 0).trans rfl, (blk_cell BK1093.out 1).trans rfl, (blk_cell BK1093.out 2).trans rfl, (blk_cell BK1093.out 3).trans rfl, (blk_cell BK1093.out 4).trans rfl, (blk_cell BK1093.out 5).trans rfl, (blk_cell BK1093.out 6).trans rfl, (blk_cell BK1107.out 0).trans rfl, (blk_cell BK1107.out 1).trans rfl, (blk_cell BK1107.out 2).trans rfl, (blk_cell BK1107.out 3).trans rfl, (blk_cell BK1107.out 4).trans rfl, (blk_cell BK1107.out 5).trans rfl, (blk_cell BK1107.out 6).trans rfl, (by have h_ := ((HB.out.cell (World.block_lt_of_cell? w _ hw1108_0)).trans hw1108_0); first | exact h_ | (simp only [*] at h_; exact h_) | simpa [*] using h_)⟩ (fun hHeld => ?_); refine with_tabW impl_ResetArena.tab4 impl_ResetArena.bits4 (fun HT_ HW_ => ?_)
            generalize w36.drew = w37 at HO1098 BK1093 BK1094 BK1107 HB HO1111 hx1108_0 hHeld ⊢
            refine pure_ (i := 0) (N := some 22) (v := ?_) (a' := ?_) #[true, false, false, false, false, false, false, false, false, false, false, false, false] rfl rfl (any_of HT_.out (by kernel_rfl)) (fun _ _ _ h => h) (Or.inl ⟨by rfl, ?_⟩) ?_ ?_
            rotate_left
            · intro w'
              go_simp
              with_reducible rfl
            rotate_left
            · simp only [Act.put, List.setIfInBounds_toArray, List.set_cons_zero, List.set_cons_succ, i64_w, i32_w]
              rfl
            refine pure_ (i := 2) (N := some 24) (v := ?_) (a' := ?_) #[true, false, true, false, false, false, false, false, false, false, false, false, false] rfl rfl (any_of HT_.out (by kernel_rfl)) (fun _ _ _ h => h) (Or.inl ⟨by rfl, ?_⟩) ?_ ?_
            rotate_left
            · intro w'
              go_simp
              with_reducible rfl
            rotate_left
            · simp only [Act.put, List.setIfInBounds_toArray, List.set_cons_zero, List.set_cons_succ, i64_w, i32_w]
              rfl
            refine pure_ (i := 5) (N := some 27) (v := ?_) (a' := ?_) #[true, false, true, false, false, true, false, false, false, false, false, false, false] rfl rfl (any_of HT_.out (by kernel_rfl)) (fun _ _ _ h => h) (Or.inl ⟨by rfl, ?_⟩) ?_ ?_
            rotate_left
            · intro w'
              go_simp
              with_reducible rfl
            rotate_left
            · simp only [Act.put, List.setIfInBounds_toArray, List.set_cons_zero, List.set_cons_succ, i64_w, i32_w]
              rfl
            refine pure_ (i := 7) (N := some 29) (v := ?_) (a' := ?_) #[true, false, true, false, false, true, false, true, false, false, false, false, false] rfl rfl (any_of HT_.out (by kernel_rfl)) (fun _ _ _ h => h) (Or.inl ⟨by rfl, ?_⟩) ?_ ?_
            rotate_left
            · intro w'
              go_simp
              with_reducible rfl
            rotate_left
            · simp only [Act.put, List.setIfInBounds_toArray, List.set_cons_zero, List.set_cons_succ, i64_w, i32_w]
              rfl
            refine take_ (i := 1) (N := some 23) (v := ?_) (a' := ?_) #[true, true, true, false, false, true, false, true, false, false, false, false, false] rfl rfl (take_ofW HT_.out HW_.out (by kernel_rfl)) (fun _ _ _ h => h) (Or.inl ⟨by rfl, ?_⟩) hHeld ?_ ?_
            rotate_left
            · rintro w' ⟨s0, s1, s2, s3, s4, s5, s6, s7, s8, s9, s10, s11, s12, s13, s14⟩
              go_simp
              with_reducible rfl
            rotate_left
            · simp only [Act.put, List.setIfInBounds_toArray, List.set_cons_zero, List.set_cons_succ, i64_w, i32_w]
              rfl
            refine pure_ (i := 3) (N := some 25) (v := ?_) (a' := ?_) #[true, true, true, true, false, true, false, true, false, false, false, false, false] rfl rfl (any_of HT_.out (by kernel_rfl)) (fun _ _ _ h => h) (Or.inl ⟨by rfl, ?_⟩) ?_ ?_
            rotate_left
            · intro w'
              go_simp
              with_reducible rfl
            rotate_left
            · simp only [Act.put, List.setIfInBounds_toArray, List.set_cons_zero, List.set_cons_succ, i64_w, i32_w]
              rfl
            refine take_ (i := 4) (N := some 26) (v := ?_) (a' := ?_) #[true, true, true, true, true, true, false, true, false, false, false, false, false] rfl rfl (take_ofW HT_.out HW_.out (by kernel_rfl)) (fun _ _ _ h => h) (Or.inl ⟨by rfl, ?_⟩) hHeld ?_ ?_
            rotate_left
            · rintro w' ⟨s0, s1, s2, s3, s4, s5, s6, s7, s8, s9, s10, s11, s12, s13, s14⟩
              go_simp
              with_reducible rfl
            rotate_left
            · simp only [Act.put, List.setIfInBounds_toArray, List.set_cons_zero, List.set_cons_succ, i64_w, i32_w]
              rfl
            refine take_ (i := 6) (N := some 28) (v := ?_) (a' := ?_) #[true, true, true, true, true, true, true, true, false, false, false, false, false] rfl rfl (take_ofW HT_.out HW_.out (by kernel_rfl)) (fun _ _ _ h => h) (Or.inl ⟨by rfl, ?_⟩) hHeld ?_ ?_
            rotate_left
            · rintro w' ⟨s0, s1, s2, s3, s4, s5, s6, s7, s8, s9, s10, s11, s12, s13, s14⟩
              go_simp
              with_reducible rfl
            rotate_left
            · simp only [Act.put, List.setIfInBounds_toArray, List.set_cons_zero, List.set_cons_succ, i64_w, i32_w]
              rfl
            refine pure_ (i := 8) (N := some 30) (v := ?_) (a' := ?_) #[true, true, true, true, true, true, true, true, true, false, false, false, false] rfl rfl (any_of HT_.out (by kernel_rfl)) (fun _ _ _ h => h) (Or.inl ⟨by rfl, ?_⟩) ?_ ?_
            rotate_left
            · intro w'
              go_simp
              with_reducible rfl
            rotate_left
            · simp only [Act.put, List.setIfInBounds_toArray, List.set_cons_zero, List.set_cons_succ, i64_w, i32_w]
              rfl
            refine pure_ (i := 9) (N := some 31) (v := ?_) (a' := ?_) #[true, true, true, true, true, true, true, true, true, true, false, false, false] rfl rfl (any_of HT_.out (by kernel_rfl)) (fun _ _ _ h => h) (Or.inl ⟨by rfl, ?_⟩) ?_ ?_
            rotate_left
            · intro w'
              go_simp
              with_reducible rfl
            rotate_left
            · simp only [Act.put, List.setIfInBounds_toArray, List.set_cons_zero, List.set_cons_succ, i64_w, i32_w]
              rfl
            refine last_ (i := 10) (N := none) #[true, true, true, true, true, true, true, true, true, true, true, false, false] rfl rfl (one_of HT_.out (by kernel_rfl)) (by decide) (fun K hK => ?_)
            have hs39 : w37.cell? ⟨gb1107, 5, none⟩ = some (.int .i64 t1103) := (blk_cell BK1107.out 5).trans rfl
            have hfs39 := blk_frozen BK1107.out 5
            have hns39_0 := NB1093_1107.out
            have hns39_1 := NB1094_1107.out
            have hms39_0 := NB1107_1093.out
            have hms39_1 := NB1107_1094.out
            refine skip_ (w1 := ?_) (by rfl) rfl ?_ ?_
            rotate_left
            · go_simp
              rfl
            refine hK.out _ _ ?_
            clear hK K
            refine pure_ (i := 11) (N := some 32) (v := ?_) (a' := ?_) #[true, true, true, true, true, true, true, true, true, true, true, true, false] rfl rfl (any_of HT_.out (by kernel_rfl)) (fun _ _ _ h => h) (Or.inl ⟨by rfl, ?_⟩) ?_ ?_
            rotate_left
            · intro w'
              go_simp
              with_reducible rfl
            rotate_left
            · simp only [Act.put, List.setIfInBounds_toArray, List.set_cons_zero, List.set_cons_succ, i64_w, i32_w]
              rfl
            refine last_ (i := 12) (N := none) #[true, true, true, true, true, true, true, true, true, true, true, true, true] rfl rfl (one_of HT_.out (by kernel_rfl)) (by decide) (fun K hK => ?_)
            have hs40 : w37.cell? ⟨gb1107, 6, none⟩ = some (.slice Ao34 t1104.length co34) := (blk_cell BK1107.out 6).trans rfl
            have hfs40 := blk_frozen BK1107.out 6
            have hns40_0 := NB1093_1107.out
            have hns40_1 := NB1094_1107.out
            have hms40_0 := NB1107_1093.out
            have hms40_1 := NB1107_1094.out
            refine skip_ (w1 := ?_) (by rfl) rfl ?_ ?_
            rotate_left
            · go_simp
              rfl
            refine hK.out _ _ ?_
            clear hK K
            refine done_ (done_of HT_.out (by kernel_rfl)) ?_
            have hnb41 := NB1107_1093.out
            have hnc41 := NB1093_1107.out
            have hnb42 := NB1107_1094.out
            have hnc42 := NB1094_1107.out
            have hcz43_0 : w37.cell? ⟨gb1107, 0, none⟩ = some (.slice Ao27 t1096.length co27) := (blk_cell BK1107.out 0).trans rfl
            have hcz43_1 : w37.cell? ⟨gb1107, 1, none⟩ = some (.int .i64 t1099) := (blk_cell BK1107.out 1).trans rfl
            have hcz43_2 : w37.cell? ⟨gb1107, 2, none⟩ = some (.int .i64 t1100) := (blk_cell BK1107.out 2).trans rfl
            have hcz43_3 : w37.cell? ⟨gb1107, 3, none⟩ = some (.int .i64 t1101) := (blk_cell BK1107.out 3).trans rfl
            have hcz43_4 : w37.cell? ⟨gb1107, 4, none⟩ = some (.int .i64 t1102) := (blk_cell BK1107.out 4).trans rfl
            have hcz43_5 : w37.cell? ⟨gb1107, 5, none⟩ = some (.int .i64 t1103) := (blk_cell BK1107.out 5).trans rfl
            have hcz43_6 : w37.cell? ⟨gb1107, 6, none⟩ = some (.slice Ao34 t1104.length co34) := (blk_cell BK1107.out 6).trans rfl
            have hfz43_0 := blk_frozen BK1107.out 0
            have hfz43_1 := blk_frozen BK1107.out 1
            have hfz43_2 := blk_frozen BK1107.out 2
            have hfz43_3 := blk_frozen BK1107.out 3
            have hfz43_4 := blk_frozen BK1107.out 4
            have hfz43_5 := blk_frozen BK1107.out 5
            have hfz43_6 := blk_frozen BK1107.out 6
            have hcz44_0 : w37.cell? ⟨gb1094, 0, none⟩ = some (.slice none 0 0) := (blk_cell BK1094.out 0).trans rfl
            have hcz44_1 : w37.cell? ⟨gb1094, 1, none⟩ = some (.int .i64 0) := (blk_cell BK1094.out 1).trans rfl
            have hcz44_2 : w37.cell? ⟨gb1094, 2, none⟩ = some (.int .i64 0) := (blk_cell BK1094.out 2).trans rfl
            have hcz44_3 : w37.cell? ⟨gb1094, 3, none⟩ = some (.int .i64 0) := (blk_cell BK1094.out 3).trans rfl
            have hcz44_4 : w37.cell? ⟨gb1094, 4, none⟩ = some (.int .i64 0) := (blk_cell BK1094.out 4).trans rfl
            have hcz44_5 : w37.cell? ⟨gb1094, 5, none⟩ = some (.int .i64 0) := (blk_cell BK1094.out 5).trans rfl
            have hcz44_6 : w37.cell? ⟨gb1094, 6, none⟩ = some (.slice none 0 0) := (blk_cell BK1094.out 6).trans rfl
            have hfz44_0 := blk_frozen BK1094.out 0
            have hfz44_1 := blk_frozen BK1094.out 1
            have hfz44_2 := blk_frozen BK1094.out 2
            have hfz44_3 := blk_frozen BK1094.out 3
            have hfz44_4 := blk_frozen BK1094.out 4
            have hfz44_5 := blk_frozen BK1094.out 5
            have hfz44_6 := blk_frozen BK1094.out 6
            try go_wp2
            refine bodyPost_ret (results_ct rfl _ _ gb1094 51 #[.slice Ao27 t1096.length co27, .int .i64 t1099, .int .i64 t1100, .int .i64 t1101, .int .i64 t1102, .int .i64 (rd l0_6 (ji13)), .slice Ao34 y1109.length co34] (0, 0) _ rfl (by (with_reducible repeat (first | refine blk_drewN ?_ _ | refine blk_drew ?_ | refine blk_alloc ?_ _)); refine blk_put (cs := #[.slice Ao27 t1096.length co27, .int .i64 t1099, .int .i64 t1100, .int .i64 t1101, .int .i64 t1102, .int .i64 (rd l0_6 (ji13)), .slice none 0 0]) ?_ 6 _ rfl; (with_reducible repeat (first | refine blk_drewN ?_ _ | refine blk_drew ?_ | refine blk_alloc ?_ _)); refine blk_put (cs := #[.slice Ao27 t1096.length co27, .int .i64 t1099, .int .i64 t1100, .int .i64 t1101, .int .i64 t1102, .int .i64 0, .slice none 0 0]) ?_ 5 _ rfl; (with_reducible repeat (first | refine blk_drewN ?_ _ | refine blk_drew ?_ | refine blk_alloc ?_ _)); refine blk_put (cs := #[.slice Ao27 t1096.length co27, .int .i64 t1099, .int .i64 t1100, .int .i64 t1101, .int .i64 0, .int .i64 0, .slice none 0 0]) ?_ 4 _ rfl; (with_reducible repeat (first | refine blk_drewN ?_ _ | refine blk_drew ?_ | refine blk_alloc ?_ _)); refine blk_put (cs := #[.slice Ao27 t1096.length co27, .int .i64 t1099, .int .i64 t1100, .int .i64 0, .int .i64 0, .int .i64 0, .slice none 0 0]) ?_ 3 _ rfl; (with_reducible repeat (first | refine blk_drewN ?_ _ | refine blk_drew ?_ | refine blk_alloc ?_ _)); refine blk_put (cs := #[.slice Ao27 t1096.length co27, .int .i64 t1099, .int .i64 0, .int .i64 0, .int .i64 0, .int .i64 0, .slice none 0 0]) ?_ 2 _ rfl; (with_reducible repeat (first | refine blk_drewN ?_ _ | refine blk_drew ?_ | refine blk_alloc ?_ _)); refine blk_put (cs := #[.slice Ao27 t1096.length co27, .int .i64 0, .int .i64 0, .int .i64 0, .int .i64 0, .int .i64 0, .slice none 0 0]) ?_ 1 _ rfl; (with_reducible repeat (first | refine blk_drewN ?_ _ | refine blk_drew ?_ | refine blk_alloc ?_ _)); refine blk_put (cs := #[.slice none 0 0, .int .i64 0, .int .i64 0, .int .i64 0, .int .i64 0, .int .i64 0, .slice none 0 0]) ?_ 0 _ rfl; (with_reducible repeat (first | refine blk_drewN ?_ _ | refine blk_drew ?_ | refine blk_alloc ?_ _)); refine blk_far ?_ NB1094_1107.out _; (with_reducible repeat (first | refine blk_drewN ?_ _ | refine blk_drew ?_ | refine blk_alloc ?_ _)); refine blk_far ?_ NB1094_1107.out _; (with_reducible repeat (first | refine blk_drewN ?_ _ | refine blk_drew ?_ | refine blk_alloc ?_ _)); exact BK1094.out) Try.underlying51 rfl (by kernel_rfl)) rfl ?_
            exact ⟨_, _, by first | rfl | (simp [errW_none, errW_some] <;> rfl) | (simp only [← hji13]; first | rfl | (simp [errW_none, errW_some] <;> rfl)) | (simp [*, errW_none, errW_some] <;> rfl), by (with_reducible repeat (first | apply Kd.S_alloc | apply Kd.S_drewN | apply Kd.S_drew)); exact Kd.S_mono (Kd.S_far (p := ⟨gb1094, 6, none⟩) (Kd.S_far (p := ⟨gb1094, 5, none⟩) (Kd.S_far (p := ⟨gb1094, 4, none⟩) (Kd.S_far (p := ⟨gb1094, 3, none⟩) (Kd.S_far (p := ⟨gb1094, 2, none⟩) (Kd.S_far (p := ⟨gb1094, 1, none⟩) (Kd.S_far (p := ⟨gb1094, 0, none⟩) (Kd.S_far (p := ⟨gb1107, 6, none⟩) (Kd.S_far (p := ⟨gb1107, 5, none⟩) (Kd.S_types (Kd.S_types HO1098.out BK1107.out (by decide)) BK1094.out (by decide)) (fun _ hk => hk.1.2) (.int .i64 (rd l0_6 (ji13)))) (fun _ hk => hk.1.2) (.slice Ao34 y1109.length co34)) (fun _ hk => hk.2) (.slice Ao27 t1096.length co27)) (fun _ hk => hk.2) (.int .i64 t1099)) (fun _ hk => hk.2) (.int .i64 t1100)) (fun _ hk => hk.2) (.int .i64 t1101)) (fun _ hk => hk.2) (.int .i64 t1102)) (fun _ hk => hk.2) (.int .i64 (rd l0_6 (ji13)))) (fun _ hk => hk.2) (.slice Ao34 y1109.length co34)) (fun _ hk => trivial), by (with_reducible repeat (first | apply Kd.R_alloc | apply Kd.R_drewN | apply Kd.R_drew)); exact Kd.R_mono (Kd.R_far (p := ⟨gb1094, 6, none⟩) (Kd.R_far (p := ⟨gb1094, 5, none⟩) (Kd.R_far (p := ⟨gb1094, 4, none⟩) (Kd.R_far (p := ⟨gb1094, 3, none⟩) (Kd.R_far (p := ⟨gb1094, 2, none⟩) (Kd.R_far (p := ⟨gb1094, 1, none⟩) (Kd.R_far (p := ⟨gb1094, 0, none⟩) (Kd.R_far (p := ⟨gb1107, 6, none⟩) (Kd.R_far (p := ⟨gb1107, 5, none⟩) (Kd.R_types (Kd.R_types HO1111.out BK1107.out (by decide)) BK1094.out (by decide)) (fun _ hk => hk.1.2) (.int .i64 (rd l0_6 (ji13)))) (fun _ hk => hk.1.2) (.slice Ao34 y1109.length co34)) (fun _ hk => hk.2) (.slice Ao27 t1096.length co27)) (fun _ hk => hk.2) (.int .i64 t1099)) (fun _ hk => hk.2) (.int .i64 t1100)) (fun _ hk => hk.2) (.int .i64 t1101)) (fun _ hk => hk.2) (.int .i64 t1102)) (fun _ hk => hk.2) (.int .i64 (rd l0_6 (ji13)))) (fun _ hk => hk.2) (.slice Ao34 y1109.length co34)) (fun _ hk => trivial), by repeat (first | (with_reducible first | exact HB.out | apply below_alloc | apply pw_below_drewN | apply below_drew1 | refine below_set ?_ GE1093.out | refine below_set ?_ GE1094.out | refine below_set ?_ GE1107.out) | exact HB.out)⟩
          · rw [if_neg c16] at H
            exact absurd H (by simp)
        · rw [if_neg c15] at H
          exact absurd H (by simp)
      · rw [if_neg c14] at H
        exact absurd H (by simp)
  · replace c3 := Bool.eq_false_iff.mpr c3
    subst c3
    have H1 : (some (([] : List (List Int)), 0, 0, 0, 0, 0, ([] : List Int), false)) = some (r1, r2, r3, r4, r5, r6, r7, r8) := by rw [if_neg (show ¬ (false = true) by decide)] at H; exact H
    clear H
    have H := H1
    clear H1
    simp only [Option.some.injEq, Prod.mk.injEq] at H
    obtain ⟨rfl, rfl, rfl, rfl, rfl, rfl, rfl, rfl⟩ := H
    go_enter Try.func60, Try.ntmps60
    go_wp2_with (first | ((with_reducible refine gate_dst (N := 1) rfl ?_); (try (refine gate_guard (by rfl) ?_; dsimp only)); refine box_event ?hg (N := 1) ?hd (cs := #[.slice A0_0 l0_0.length c0_0, .int .i64 a0_1, .int .i64 a0_2, .int .i64 a0_3, .int .i64 a0_4, .int .i64 a0_5, .slice A0_6 l0_6.length c0_6]) (t := 51) ?hr ?_; (case hd => rfl); (case hg => rfl); (case hr => first | (go_simp; done) | (go_simp; rfl)); intro gb1093 hg w45 hbox hb; have n0_ := Aside0.mk (below_step (by repeat (first | (with_reducible first | exact HB.out | apply below_alloc | apply pw_below_drewN | apply below_drew1) | exact HB.out)) hb); have n1_ := Aside0.mk (hbox); have n2_ := Aside0.mk ((by rw [hg]; exact (below_size (by repeat (first | (with_reducible first | exact HB.out | apply below_alloc | apply pw_below_drewN | apply below_drew1) | exact HB.out))) : w.heap.size ≤ gb1093)); have n3_ := Aside0.mk ((by rw [hg]; exact (below_size (by repeat (first | (with_reducible first | exact HB.out | apply below_alloc | apply pw_below_drewN | apply below_drew1) | exact HB.out))) : w.heap.size ≤ gb1093)); clear HB; have HB := n0_; have BK1093 := n1_; have GW1093 := n2_; have GE1093 := n3_; clear n0_ n1_ n2_ n3_; clear hb hbox hg) | ((with_reducible refine gate_dst (N := 2) rfl ?_); (try (refine gate_guard (by rfl) ?_; dsimp only)); refine box_event ?hg (N := 2) ?hd (cs := #[.slice none 0 0, .int .i64 0, .int .i64 0, .int .i64 0, .int .i64 0, .int .i64 0, .slice none 0 0]) (t := 51) ?hr ?_; (case hd => rfl); (case hg => rfl); (case hr => first | (go_simp; done) | (go_simp; rfl)); intro gb1094 hg w46 hbox hb; have n0_ := Aside0.mk (blk_below (g := gb1093) (o := .cells #[.slice A0_0 l0_0.length c0_0, .int .i64 a0_1, .int .i64 a0_2, .int .i64 a0_3, .int .i64 a0_4, .int .i64 a0_5, .slice A0_6 l0_6.length c0_6] 51 (0, 0)) (by (with_reducible repeat (first | refine blk_drewN ?_ _ | refine blk_drew ?_ | refine blk_alloc ?_ _)); exact BK1093.out) hb); have n1_ := Aside0.mk (below_step (by repeat (first | (with_reducible first | exact HB.out | apply below_alloc | apply pw_below_drewN | apply below_drew1 | refine below_set ?_ GE1093.out) | exact HB.out)) hb); have n2_ := Aside0.mk (hbox); have n3_ := Aside0.mk ((by rw [hg]; exact (below_size (by repeat (first | (with_reducible first | exact HB.out | apply below_alloc | apply pw_below_drewN | apply below_drew1 | refine below_set ?_ GE1093.out) | exact HB.out))) : w.heap.size ≤ gb1094)); have n4_ := Aside0.mk ((by rw [hg]; exact (below_size (by repeat (first | (with_reducible first | exact HB.out | apply below_alloc | apply pw_below_drewN | apply below_drew1 | refine below_set ?_ GE1093.out) | exact HB.out))) : w.heap.size ≤ gb1094)); have n5_ := Aside0.mk ((by rw [hg]; exact Nat.ne_of_lt (blk_lt (g := gb1093) (o := .cells #[.slice A0_0 l0_0.length c0_0, .int .i64 a0_1, .int .i64 a0_2, .int .i64 a0_3, .int .i64 a0_4, .int .i64 a0_5, .slice A0_6 l0_6.length c0_6] 51 (0, 0)) (by (with_reducible repeat (first | refine blk_drewN ?_ _ | refine blk_drew ?_ | refine blk_alloc ?_ _)); exact BK1093.out)) : gb1093 ≠ gb1094)); have n6_ := Aside0.mk ((by rw [hg]; exact Nat.ne_of_gt (blk_lt (g := gb1093) (o := .cells #[.slice A0_0 l0_0.length c0_0, .int .i64 a0_1, .int .i64 a0_2, .int .i64 a0_3, .int .i64 a0_4, .int .i64 a0_5, .slice A0_6 l0_6.length c0_6] 51 (0, 0)) (by (with_reducible repeat (first | refine blk_drewN ?_ _ | refine blk_drew ?_ | refine blk_alloc ?_ _)); exact BK1093.out)) : gb1094 ≠ gb1093)); clear BK1093; clear HB; have BK1093 := n0_; have HB := n1_; have BK1094 := n2_; have GW1094 := n3_; have GE1094 := n4_; have NB1093_1094 := n5_; have NB1094_1093 := n6_; clear n0_ n1_ n2_ n3_ n4_ n5_ n6_; clear hb hbox hg; have hnb47 := NB1093_1094.out; have hnc47 := NB1094_1093.out; have hcz48_0 : w46.cell? ⟨gb1093, 0, none⟩ = some (.slice A0_0 l0_0.length c0_0) := (blk_cell BK1093.out 0).trans rfl; have hcz48_1 : w46.cell? ⟨gb1093, 1, none⟩ = some (.int .i64 a0_1) := (blk_cell BK1093.out 1).trans rfl; have hcz48_2 : w46.cell? ⟨gb1093, 2, none⟩ = some (.int .i64 a0_2) := (blk_cell BK1093.out 2).trans rfl; have hcz48_3 : w46.cell? ⟨gb1093, 3, none⟩ = some (.int .i64 a0_3) := (blk_cell BK1093.out 3).trans rfl; have hcz48_4 : w46.cell? ⟨gb1093, 4, none⟩ = some (.int .i64 a0_4) := (blk_cell BK1093.out 4).trans rfl; have hcz48_5 : w46.cell? ⟨gb1093, 5, none⟩ = some (.int .i64 a0_5) := (blk_cell BK1093.out 5).trans rfl; have hcz48_6 : w46.cell? ⟨gb1093, 6, none⟩ = some (.slice A0_6 l0_6.length c0_6) := (blk_cell BK1093.out 6).trans rfl; have hfz48_0 := blk_frozen BK1093.out 0; have hfz48_1 := blk_frozen BK1093.out 1; have hfz48_2 := blk_frozen BK1093.out 2; have hfz48_3 := blk_frozen BK1093.out 3; have hfz48_4 := blk_frozen BK1093.out 4; have hfz48_5 := blk_frozen BK1093.out 5; have hfz48_6 := blk_frozen BK1093.out 6) | ((with_reducible refine gate_callee (f := 120) rfl ?_); refine goesL_ (some 7) rfl rfl Try.func120 (by kernel_rfl) rfl #[.agg #[.slice A0_0 l0_0.length c0_0, .int .i64 a0_1, .int .i64 a0_2, .int .i64 a0_3, .int .i64 a0_4, .int .i64 a0_5, .slice A0_6 l0_6.length c0_6]] rfl (by (try simp only [List.map_toArray, List.map_cons, List.map_nil]); first | done | rfl | (simp only [List.length_drop, List.length_take]; rfl)) ?_; (with_reducible refine (impl_IsArena.calls k _ _ l0_0 a0_1 a0_2 a0_3 a0_4 a0_5 _ _ l0_6 false _ ?side1 ?side2 ?side3 ?side4 A2.out).mono ?_); (case side1 => repeat (first | exact (Kd.C_below HR0_0.out HB.out) | (with_reducible refine Kd.C_alloc ?_ _) | (with_reducible refine Kd.C_drewN ?_ _) | (with_reducible refine Kd.C_drew ?_))); (case side2 => exact HC0_0.out); (case side3 => repeat (first | exact (Kd.C_below HR0_6.out HB.out) | (with_reducible refine Kd.C_alloc ?_ _) | (with_reducible refine Kd.C_drewN ?_ _) | (with_reducible refine Kd.C_drew ?_))); (case side4 => exact HC0_6.out); rintro e w49 ⟨rfl, hb⟩; refine ⟨_, rfl, ?_⟩; have n0_ := Aside0.mk (blk_below (g := gb1093) (o := .cells #[.slice A0_0 l0_0.length c0_0, .int .i64 a0_1, .int .i64 a0_2, .int .i64 a0_3, .int .i64 a0_4, .int .i64 a0_5, .slice A0_6 l0_6.length c0_6] 51 (0, 0)) (by (with_reducible repeat (first | refine blk_drewN ?_ _ | refine blk_drew ?_ | refine blk_alloc ?_ _)); exact BK1093.out) hb); have n1_ := Aside0.mk (blk_below (g := gb1094) (o := .cells #[.slice none 0 0, .int .i64 0, .int .i64 0, .int .i64 0, .int .i64 0, .int .i64 0, .slice none 0 0] 51 (0, 0)) (by (with_reducible repeat (first | refine blk_drewN ?_ _ | refine blk_drew ?_ | refine blk_alloc ?_ _)); exact BK1094.out) hb); have n2_ := Aside0.mk (below_step (by repeat (first | (with_reducible first | exact HB.out | apply below_alloc | apply pw_below_drewN | apply below_drew1 | refine below_set ?_ GE1093.out | refine below_set ?_ GE1094.out) | exact HB.out)) hb); clear BK1093; clear BK1094; clear HB; have BK1093 := n0_; have BK1094 := n1_; have HB := n2_; clear n0_ n1_ n2_; (try clear hb); (try clear hb2); (try clear hk); (try clear hi); have hcz50_0 : w49.cell? ⟨gb1094, 0, none⟩ = some (.slice none 0 0) := (blk_cell BK1094.out 0).trans rfl; have hcz50_1 : w49.cell? ⟨gb1094, 1, none⟩ = some (.int .i64 0) := (blk_cell BK1094.out 1).trans rfl; have hcz50_2 : w49.cell? ⟨gb1094, 2, none⟩ = some (.int .i64 0) := (blk_cell BK1094.out 2).trans rfl; have hcz50_3 : w49.cell? ⟨gb1094, 3, none⟩ = some (.int .i64 0) := (blk_cell BK1094.out 3).trans rfl; have hcz50_4 : w49.cell? ⟨gb1094, 4, none⟩ = some (.int .i64 0) := (blk_cell BK1094.out 4).trans rfl; have hcz50_5 : w49.cell? ⟨gb1094, 5, none⟩ = some (.int .i64 0) := (blk_cell BK1094.out 5).trans rfl; have hcz50_6 : w49.cell? ⟨gb1094, 6, none⟩ = some (.slice none 0 0) := (blk_cell BK1094.out 6).trans rfl; have hfz50_0 := blk_frozen BK1094.out 0; have hfz50_1 := blk_frozen BK1094.out 1; have hfz50_2 := blk_frozen BK1094.out 2; have hfz50_3 := blk_frozen BK1094.out 3; have hfz50_4 := blk_frozen BK1094.out 4; have hfz50_5 := blk_frozen BK1094.out 5; have hfz50_6 := blk_frozen BK1094.out 6))
    refine bodyPost_ret (results_ct rfl _ _ gb1094 51 #[.slice none 0 0, .int .i64 0, .int .i64 0, .int .i64 0, .int .i64 0, .int .i64 0, .slice none 0 0] (0, 0) _ rfl (by (with_reducible repeat (first | refine blk_drewN ?_ _ | refine blk_drew ?_ | refine blk_alloc ?_ _)); refine blk_put (cs := #[.slice none 0 0, .int .i64 0, .int .i64 0, .int .i64 0, .int .i64 0, .int .i64 0, .slice none 0 0]) ?_ 6 _ rfl; (with_reducible repeat (first | refine blk_drewN ?_ _ | refine blk_drew ?_ | refine blk_alloc ?_ _)); refine blk_put (cs := #[.slice none 0 0, .int .i64 0, .int .i64 0, .int .i64 0, .int .i64 0, .int .i64 0, .slice none 0 0]) ?_ 5 _ rfl; (with_reducible repeat (first | refine blk_drewN ?_ _ | refine blk_drew ?_ | refine blk_alloc ?_ _)); refine blk_put (cs := #[.slice none 0 0, .int .i64 0, .int .i64 0, .int .i64 0, .int .i64 0, .int .i64 0, .slice none 0 0]) ?_ 4 _ rfl; (with_reducible repeat (first | refine blk_drewN ?_ _ | refine blk_drew ?_ | refine blk_alloc ?_ _)); refine blk_put (cs := #[.slice none 0 0, .int .i64 0, .int .i64 0, .int .i64 0, .int .i64 0, .int .i64 0, .slice none 0 0]) ?_ 3 _ rfl; (with_reducible repeat (first | refine blk_drewN ?_ _ | refine blk_drew ?_ | refine blk_alloc ?_ _)); refine blk_put (cs := #[.slice none 0 0, .int .i64 0, .int .i64 0, .int .i64 0, .int .i64 0, .int .i64 0, .slice none 0 0]) ?_ 2 _ rfl; (with_reducible repeat (first | refine blk_drewN ?_ _ | refine blk_drew ?_ | refine blk_alloc ?_ _)); refine blk_put (cs := #[.slice none 0 0, .int .i64 0, .int .i64 0, .int .i64 0, .int .i64 0, .int .i64 0, .slice none 0 0]) ?_ 1 _ rfl; (with_reducible repeat (first | refine blk_drewN ?_ _ | refine blk_drew ?_ | refine blk_alloc ?_ _)); refine blk_put (cs := #[.slice none 0 0, .int .i64 0, .int .i64 0, .int .i64 0, .int .i64 0, .int .i64 0, .slice none 0 0]) ?_ 0 _ rfl; (with_reducible repeat (first | refine blk_drewN ?_ _ | refine blk_drew ?_ | refine blk_alloc ?_ _)); exact BK1094.out) Try.underlying51 rfl (by kernel_rfl)) rfl ?_
    exact ⟨_, _, by first | rfl | (simp [errW_none, errW_some] <;> rfl) | (simp [*, errW_none, errW_some] <;> rfl), by first | exact Kd.S_nil _ _ _ _ _ | exact Kd.N_nil _ _ _ _ _ | exact Kd.V_nil _ _ _ _ _ | exact Kd.Q_nil _ _ _ _ _ | exact Kd.R_nil _ _ _ _ _, by first | exact Kd.R_nil _ _ _ _ _ | exact Kd.N_nil _ _ _ _ _ | exact Kd.V_nil _ _ _ _ _ | exact Kd.Q_nil _ _ _ _ _ | exact Kd.S_nil _ _ _ _ _, by repeat (first | (with_reducible first | exact HB.out | apply below_alloc | apply pw_below_drewN | apply below_drew1 | refine below_set ?_ GE1093.out | refine below_set ?_ GE1094.out) | exact HB.out)⟩

end Go.Proofs.Ytoomjghabiojkaa.P


namespace Go.Proofs.Ytoomjghabiojkaa.P
open Go.RowKit Go.Proofs.YtoomjghabiojkaaW.PrintWords Go.Proofs.YtoomjghabiojkaaW.PrintLast Go.Proofs.YtoomjghabiojkaaW.PrintMore
attribute [local go_sem] max2_int min2_int max_two min_two max_three min_three max_four min_four   -- for this text's walks alone
set_option linter.unusedVariables false
set_option linter.unusedSimpArgs false

def spec_ResetArena.j0 : Nat → Int → Bool → List (List Int) → Int → Int → Int → Int → Int → List Int → Option ((List (List Int)) × Int × Int × Int × Int × Int × List Int × Bool)
  | 0, _, _, _, _, _, _, _, _, _ => none
  | k + 1, x4, x15, x1074000, x1074001, x1074002, x1074003, x1074004, x1074005, x1074006 => if x15 = true then (some (([] : List (List Int)), 0, 0, 0, 0, 0, ([] : List Int), false)) else (if 0 ≤ (wrap64 (x4 - 1)) then (if (wrap64 (x4 - 1)) < (x1074006.length : Int) then ((spec_l8Own.f k x1074000 x1074001 x1074002 x1074003 x1074004 x1074005 x1074006 (rd x1074006 (wrap64 (x4 - 1)))).bind fun bt1077 => (if (wrap64 (x4 - 1)) ≤ (x1074006.length : Int) then ((spec_l1Own.f (x1074006.take ((wrap64 (x4 - 1)) : Int).toNat)).bind fun t1090 => (some (bt1077.1, bt1077.2.1, bt1077.2.2.1, bt1077.2.2.2.1, bt1077.2.2.2.2.1, bt1077.2.2.2.2.2.1, t1090, true))) else (none))) else (none)) else (none))
def spec_ResetArena.f (k : Nat) (l0_0 : List (List Int)) (a0_1 : Int) (a0_2 : Int) (a0_3 : Int) (a0_4 : Int) (a0_5 : Int) (l0_6 : List Int) : Option ((List (List Int)) × Int × Int × Int × Int × Int × List Int × Bool) := (spec_l8Arena.f k l0_0 a0_1 a0_2 a0_3 a0_4 a0_5 l0_6).bind fun t1075 => (if t1075 = true then (spec_ResetArena.j0 k (l0_6.length : Int) ((l0_6.length : Int) == 0) l0_0 a0_1 a0_2 a0_3 a0_4 a0_5 l0_6) else (spec_ResetArena.j0 k (l0_6.length : Int) true l0_0 a0_1 a0_2 a0_3 a0_4 a0_5 l0_6))
def spec_ResetArena.T4 : Bool × List (List Nat × List Nat) := (true, [([], []), ([], []), ([1], [1]), ([], []), ([3], [3]), ([2, 4], [2, 4]), ([5], [5]), ([0, 6], [0, 6]), ([], []), ([8, 7, 7, 0, 1, 2, 3, 4, 5, 6, 7, 8], [7, 8])])
def spec_ResetArena.B4 : List Nat := [0, 0, 2, 0, 8, 30, 62, 127, 0, 511]
theorem spec_ResetArena.tab4 : rtab .any (opsOf Try.f59 4) = spec_ResetArena.T4 := by kernel_rfl
theorem spec_ResetArena.bits4 : waitsOk spec_ResetArena.T4.2 spec_ResetArena.B4 = true := by kernel_rfl
set_option maxHeartbeats 8000000 in
set_option maxRecDepth 100000 in
theorem spec_ResetArena.calls (k : Nat) (A0_0 : Option Addr) (c0_0 : Nat) (l0_0 : List (List Int)) (a0_1 : Int) (a0_2 : Int) (a0_3 : Int) (a0_4 : Int) (a0_5 : Int) (A0_6 : Option Addr) (c0_6 : Nat) (l0_6 : List Int) (r1 : List (List Int)) (r2 : Int) (r3 : Int) (r4 : Int) (r5 : Int) (r6 : Int) (r7 : List Int) (r8 : Bool) (w : World) (hr0_0 : Kd.C (Kd.slice 5 (Kd.int .u8)) w A0_0 l0_0.length l0_0) (hc0_0 : l0_0.length ≤ c0_0) (hr0_6 : Kd.C (Kd.int .i64) w A0_6 l0_6.length l0_6) (hc0_6 : l0_6.length ≤ c0_6) (h : spec_ResetArena.f k l0_0 a0_1 a0_2 a0_3 a0_4 a0_5 l0_6 = some (r1, r2, r3, r4, r5, r6, r7, r8)) :
    Calls Try.prog 59 #[.agg #[.slice A0_0 l0_0.length c0_0, .int .i64 a0_1, .int .i64 a0_2, .int .i64 a0_3, .int .i64 a0_4, .int .i64 a0_5, .slice A0_6 l0_6.length c0_6]] w fun e w' => ∃ v0_ v6_ : Value, e = .returned (.tuple #[.agg #[v0_, .int .i64 r2, .int .i64 r3, .int .i64 r4, .int .i64 r5, .int .i64 r6, v6_], .bool r8]) ∧ Kd.S (Kd.slice 5 (Kd.int .u8)) 119 w' w.heap.size (fun _ => True) v0_ r1 ∧ Kd.R (Kd.int .i64) 3 w' w.heap.size (fun _ => True) v6_ r7 ∧ Below w.heap.size w w' := by
  have hu51 := Try.underlying51
  have HR0_0 := Aside0.mk hr0_0
  have HC0_0 := Aside0.mk hc0_0
  clear hr0_0 hc0_0
  have HR0_6 := Aside0.mk hr0_6
  have HC0_6 := Aside0.mk hc0_6
  clear hr0_6 hc0_6
  have HB := Aside0.mk (Below.refl w.heap.size w)
  have H : ((spec_l8Arena.f k l0_0 a0_1 a0_2 a0_3 a0_4 a0_5 l0_6).bind fun t1075 => (if t1075 = true then (spec_ResetArena.j0 k (l0_6.length : Int) ((l0_6.length : Int) == 0) l0_0 a0_1 a0_2 a0_3 a0_4 a0_5 l0_6) else (spec_ResetArena.j0 k (l0_6.length : Int) true l0_0 a0_1 a0_2 a0_3 a0_4 a0_5 l0_6))) = some (r1, r2, r3, r4, r5, r6, r7, r8) := h
  clear h
  have HC2 := Aside0.mk H
  clear H
  go_enter Try.func59, Try.ntmps59
  go_upto_region 2 with (first | ((with_reducible refine gate_dst (N := 1) rfl ?_); refine box_event ?hg (N := 1) ?hd (cs := #[.slice A0_0 l0_0.length c0_0, .int .i64 a0_1, .int .i64 a0_2, .int .i64 a0_3, .int .i64 a0_4, .int .i64 a0_5, .slice A0_6 l0_6.length c0_6]) (t := 51) ?hr ?_; (case hd => rfl); (case hg => rfl); (case hr => first | (go_simp; done) | (go_simp; rfl)); intro gb1073 hg w3 hbox hb; have n0_ := Aside0.mk (below_step (by repeat (first | (with_reducible first | exact HB.out | apply below_alloc | apply pw_below_drewN | apply below_drew1) | exact HB.out)) hb); have n1_ := Aside0.mk (hbox); have n2_ := Aside0.mk ((by rw [hg]; exact (below_size (by repeat (first | (with_reducible first | exact HB.out | apply below_alloc | apply pw_below_drewN | apply below_drew1) | exact HB.out))) : w.heap.size ≤ gb1073)); have n3_ := Aside0.mk ((by rw [hg]; exact (below_size (by repeat (first | (with_reducible first | exact HB.out | apply below_alloc | apply pw_below_drewN | apply below_drew1) | exact HB.out))) : w.heap.size ≤ gb1073)); clear HB; have HB := n0_; have BK1073 := n1_; have GW1073 := n2_; have GE1073 := n3_; clear n0_ n1_ n2_ n3_; clear hb hbox hg) | ((with_reducible refine gate_dst (N := 2) rfl ?_); refine box_event ?hg (N := 2) ?hd (cs := #[.slice none 0 0, .int .i64 0, .int .i64 0, .int .i64 0, .int .i64 0, .int .i64 0, .slice none 0 0]) (t := 51) ?hr ?_; (case hd => rfl); (case hg => rfl); (case hr => first | (go_simp; done) | (go_simp; rfl)); intro gb1074 hg w4 hbox hb; have n0_ := Aside0.mk (blk_below (g := gb1073) (o := .cells #[.slice A0_0 l0_0.length c0_0, .int .i64 a0_1, .int .i64 a0_2, .int .i64 a0_3, .int .i64 a0_4, .int .i64 a0_5, .slice A0_6 l0_6.length c0_6] 51 (0, 0)) (by (with_reducible repeat (first | refine blk_drewN ?_ _ | refine blk_drew ?_ | refine blk_alloc ?_ _)); exact BK1073.out) hb); have n1_ := Aside0.mk (below_step (by repeat (first | (with_reducible first | exact HB.out | apply below_alloc | apply pw_below_drewN | apply below_drew1 | refine below_set ?_ GE1073.out) | exact HB.out)) hb); have n2_ := Aside0.mk (hbox); have n3_ := Aside0.mk ((by rw [hg]; exact (below_size (by repeat (first | (with_reducible first | exact HB.out | apply below_alloc | apply pw_below_drewN | apply below_drew1 | refine below_set ?_ GE1073.out) | exact HB.out))) : w.heap.size ≤ gb1074)); have n4_ := Aside0.mk ((by rw [hg]; exact (below_size (by repeat (first | (with_reducible first | exact HB.out | apply below_alloc | apply pw_below_drewN | apply below_drew1 | refine below_set ?_ GE1073.out) | exact HB.out))) : w.heap.size ≤ gb1074)); have n5_ := Aside0.mk ((by rw [hg]; exact Nat.ne_of_lt (blk_lt (g := gb1073) (o := .cells #[.slice A0_0 l0_0.length c0_0, .int .i64 a0_1, .int .i64 a0_2, .int .i64 a0_3, .int .i64 a0_4, .int .i64 a0_5, .slice A0_6 l0_6.length c0_6] 51 (0, 0)) (by (with_reducible repeat (first | refine blk_drewN ?_ _ | refine blk_drew ?_ | refine blk_alloc ?_ _)); exact BK1073.out)) : gb1073 ≠ gb1074)); have n6_ := Aside0.mk ((by rw [hg]; exact Nat.ne_of_gt (blk_lt (g := gb1073) (o := .cells #[.slice A0_0 l0_0.length c0_0, .int .i64 a0_1, .int .i64 a0_2, .int .i64 a0_3, .int .i64 a0_4, .int .i64 a0_5, .slice A0_6 l0_6.length c0_6] 51 (0, 0)) (by (with_reducible repeat (first | refine blk_drewN ?_ _ | refine blk_drew ?_ | refine blk_alloc ?_ _)); exact BK1073.out)) : gb1074 ≠ gb1073)); clear BK1073; clear HB; have BK1073 := n0_; have HB := n1_; have BK1074 := n2_; have GW1074 := n3_; have GE1074 := n4_; have NB1073_1074 := n5_; have NB1074_1073 := n6_; clear n0_ n1_ n2_ n3_ n4_ n5_ n6_; clear hb hbox hg; have hnb5 := NB1073_1074.out; have hnc5 := NB1074_1073.out; have hcz6_0 : w4.cell? ⟨gb1073, 0, none⟩ = some (.slice A0_0 l0_0.length c0_0) := (blk_cell BK1073.out 0).trans rfl; have hcz6_1 : w4.cell? ⟨gb1073, 1, none⟩ = some (.int .i64 a0_1) := (blk_cell BK1073.out 1).trans rfl; have hcz6_2 : w4.cell? ⟨gb1073, 2, none⟩ = some (.int .i64 a0_2) := (blk_cell BK1073.out 2).trans rfl; have hcz6_3 : w4.cell? ⟨gb1073, 3, none⟩ = some (.int .i64 a0_3) := (blk_cell BK1073.out 3).trans rfl; have hcz6_4 : w4.cell? ⟨gb1073, 4, none⟩ = some (.int .i64 a0_4) := (blk_cell BK1073.out 4).trans rfl; have hcz6_5 : w4.cell? ⟨gb1073, 5, none⟩ = some (.int .i64 a0_5) := (blk_cell BK1073.out 5).trans rfl; have hcz6_6 : w4.cell? ⟨gb1073, 6, none⟩ = some (.slice A0_6 l0_6.length c0_6) := (blk_cell BK1073.out 6).trans rfl; have hfz6_0 := blk_frozen BK1073.out 0; have hfz6_1 := blk_frozen BK1073.out 1; have hfz6_2 := blk_frozen BK1073.out 2; have hfz6_3 := blk_frozen BK1073.out 3; have hfz6_4 := blk_frozen BK1073.out 4; have hfz6_5 := blk_frozen BK1073.out 5; have hfz6_6 := blk_frozen BK1073.out 6))
  (try simp only [Act.put, List.setIfInBounds_toArray, List.set_cons_zero, List.set_cons_succ])
  go_cut [15] (fun v15 wc => ∃ (kq : Nat) (x15_1 : Bool), v15 = .bool x15_1 ∧ Aside0 (spec_ResetArena.j0 kq (l0_6.length : Int) x15_1 l0_0 a0_1 a0_2 a0_3 a0_4 a0_5 l0_6 = some (r1, r2, r3, r4, r5, r6, r7, r8)) ∧ Aside0 (kq ≤ k) ∧ Aside0 (wc.heap[gb1073]? = some (.cells #[(.slice A0_0 l0_0.length c0_0), .int .i64 a0_1, .int .i64 a0_2, .int .i64 a0_3, .int .i64 a0_4, .int .i64 a0_5, (.slice A0_6 l0_6.length c0_6)] 51 (0, 0))) ∧ Aside0 (wc.heap[gb1074]? = some (.cells #[(.slice none 0 0), .int .i64 0, .int .i64 0, .int .i64 0, .int .i64 0, .int .i64 0, (.slice none 0 0)] 51 (0, 0))) ∧ Aside0 (Below w.heap.size w wc))
  case first =>
    have H := HC2.out
    clear HC2
    replace H := Option.bind_eq_some_iff.mp H
    obtain ⟨t1075, A70, H⟩ := H
    replace H : (if t1075 = true then (spec_ResetArena.j0 k (l0_6.length : Int) ((l0_6.length : Int) == 0) l0_0 a0_1 a0_2 a0_3 a0_4 a0_5 l0_6) else (spec_ResetArena.j0 k (l0_6.length : Int) true l0_0 a0_1 a0_2 a0_3 a0_4 a0_5 l0_6)) = some (r1, r2, r3, r4, r5, r6, r7, r8) := H
    have A7 := Aside0.mk A70
    clear A70
    by_cases c8 : t1075 = true
    · subst c8
      have H1 : (spec_ResetArena.j0 k (l0_6.length : Int) ((l0_6.length : Int) == 0) l0_0 a0_1 a0_2 a0_3 a0_4 a0_5 l0_6) = some (r1, r2, r3, r4, r5, r6, r7, r8) := by rw [if_pos rfl] at H; exact H
      clear H
      have H := H1
      clear H1
      have H' := Aside0.mk H
      clear H
      have hnb9 := NB1073_1074.out
      have hnc9 := NB1074_1073.out
      have hcz10_0 : w4.cell? ⟨gb1073, 0, none⟩ = some (.slice A0_0 l0_0.length c0_0) := (blk_cell BK1073.out 0).trans rfl
      have hcz10_1 : w4.cell? ⟨gb1073, 1, none⟩ = some (.int .i64 a0_1) := (blk_cell BK1073.out 1).trans rfl
      have hcz10_2 : w4.cell? ⟨gb1073, 2, none⟩ = some (.int .i64 a0_2) := (blk_cell BK1073.out 2).trans rfl
      have hcz10_3 : w4.cell? ⟨gb1073, 3, none⟩ = some (.int .i64 a0_3) := (blk_cell BK1073.out 3).trans rfl
      have hcz10_4 : w4.cell? ⟨gb1073, 4, none⟩ = some (.int .i64 a0_4) := (blk_cell BK1073.out 4).trans rfl
      have hcz10_5 : w4.cell? ⟨gb1073, 5, none⟩ = some (.int .i64 a0_5) := (blk_cell BK1073.out 5).trans rfl
      have hcz10_6 : w4.cell? ⟨gb1073, 6, none⟩ = some (.slice A0_6 l0_6.length c0_6) := (blk_cell BK1073.out 6).trans rfl
      have hfz10_0 := blk_frozen BK1073.out 0
      have hfz10_1 := blk_frozen BK1073.out 1
      have hfz10_2 := blk_frozen BK1073.out 2
      have hfz10_3 := blk_frozen BK1073.out 3
      have hfz10_4 := blk_frozen BK1073.out 4
      have hfz10_5 := blk_frozen BK1073.out 5
      have hfz10_6 := blk_frozen BK1073.out 6
      go_wp2_with (first | ((with_reducible refine gate_callee (f := 117) rfl ?_); refine goesL_ (some 10) rfl rfl Try.func117 (by kernel_rfl) rfl #[.agg #[.slice A0_0 l0_0.length c0_0, .int .i64 a0_1, .int .i64 a0_2, .int .i64 a0_3, .int .i64 a0_4, .int .i64 a0_5, .slice A0_6 l0_6.length c0_6]] rfl (by (try simp only [List.map_toArray, List.map_cons, List.map_nil]); first | done | rfl | (simp only [List.length_drop, List.length_take]; rfl)) ?_; (with_reducible refine (spec_l8Arena.calls k _ _ l0_0 a0_1 a0_2 a0_3 a0_4 a0_5 _ _ l0_6 true _ ?side1 ?side2 ?side3 ?side4 A7.out).mono ?_); (case side1 => repeat (first | exact (Kd.C_below HR0_0.out HB.out) | (with_reducible refine Kd.C_alloc ?_ _) | (with_reducible refine Kd.C_drewN ?_ _) | (with_reducible refine Kd.C_drew ?_))); (case side2 => exact HC0_0.out); (case side3 => repeat (first | exact (Kd.C_below HR0_6.out HB.out) | (with_reducible refine Kd.C_alloc ?_ _) | (with_reducible refine Kd.C_drewN ?_ _) | (with_reducible refine Kd.C_drew ?_))); (case side4 => exact HC0_6.out); rintro e w11 ⟨rfl, hb⟩; refine ⟨_, rfl, ?_⟩; have n0_ := Aside0.mk (blk_below (g := gb1073) (o := .cells #[.slice A0_0 l0_0.length c0_0, .int .i64 a0_1, .int .i64 a0_2, .int .i64 a0_3, .int .i64 a0_4, .int .i64 a0_5, .slice A0_6 l0_6.length c0_6] 51 (0, 0)) (by (with_reducible repeat (first | refine blk_drewN ?_ _ | refine blk_drew ?_ | refine blk_alloc ?_ _)); exact BK1073.out) hb); have n1_ := Aside0.mk (blk_below (g := gb1074) (o := .cells #[.slice none 0 0, .int .i64 0, .int .i64 0, .int .i64 0, .int .i64 0, .int .i64 0, .slice none 0 0] 51 (0, 0)) (by (with_reducible repeat (first | refine blk_drewN ?_ _ | refine blk_drew ?_ | refine blk_alloc ?_ _)); exact BK1074.out) hb); have n2_ := Aside0.mk (below_step (by repeat (first | (with_reducible first | exact HB.out | apply below_alloc | apply pw_below_drewN | apply below_drew1 | refine below_set ?_ GE1073.out | refine below_set ?_ GE1074.out) | exact HB.out)) hb); clear BK1073; clear BK1074; clear HB; have BK1073 := n0_; have BK1074 := n1_; have HB := n2_; clear n0_ n1_ n2_; (try clear hb); (try clear hb2); (try clear hk); (try clear hi)))
      go_meet
      case rel => exact ⟨_, (((l0_6.length : Int) == 0)), (by first | rfl | (simp; done) | (simp [*]; done)), H', ⟨by first | omega | exact Nat.le_refl _⟩, ⟨by (with_reducible repeat (first | refine blk_drewN ?_ _ | refine blk_drew ?_ | refine blk_alloc ?_ _)); exact BK1073.out⟩, ⟨by (with_reducible repeat (first | refine blk_drewN ?_ _ | refine blk_drew ?_ | refine blk_alloc ?_ _)); exact BK1074.out⟩, ⟨by repeat (first | (with_reducible first | exact HB.out | apply below_alloc | apply pw_below_drewN | apply below_drew1 | refine below_set ?_ GE1073.out | refine below_set ?_ GE1074.out) | exact HB.out)⟩⟩
    · replace c8 := Bool.eq_false_iff.mpr c8
      subst c8
      have H1 : (spec_ResetArena.j0 k (l0_6.length : Int) true l0_0 a0_1 a0_2 a0_3 a0_4 a0_5 l0_6) = some (r1, r2, r3, r4, r5, r6, r7, r8) := by rw [if_neg (show ¬ (false = true) by decide)] at H; exact H
      clear H
      have H := H1
      clear H1
      have H' := Aside0.mk H
      clear H
      have hnb12 := NB1073_1074.out
      have hnc12 := NB1074_1073.out
      have hcz13_0 : w4.cell? ⟨gb1073, 0, none⟩ = some (.slice A0_0 l0_0.length c0_0) := (blk_cell BK1073.out 0).trans rfl
      have hcz13_1 : w4.cell? ⟨gb1073, 1, none⟩ = some (.int .i64 a0_1) := (blk_cell BK1073.out 1).trans rfl
      have hcz13_2 : w4.cell? ⟨gb1073, 2, none⟩ = some (.int .i64 a0_2) := (blk_cell BK1073.out 2).trans rfl
      have hcz13_3 : w4.cell? ⟨gb1073, 3, none⟩ = some (.int .i64 a0_3) := (blk_cell BK1073.out 3).trans rfl
      have hcz13_4 : w4.cell? ⟨gb1073, 4, none⟩ = some (.int .i64 a0_4) := (blk_cell BK1073.out 4).trans rfl
      have hcz13_5 : w4.cell? ⟨gb1073, 5, none⟩ = some (.int .i64 a0_5) := (blk_cell BK1073.out 5).trans rfl
      have hcz13_6 : w4.cell? ⟨gb1073, 6, none⟩ = some (.slice A0_6 l0_6.length c0_6) := (blk_cell BK1073.out 6).trans rfl
      have hfz13_0 := blk_frozen BK1073.out 0
      have hfz13_1 := blk_frozen BK1073.out 1
      have hfz13_2 := blk_frozen BK1073.out 2
      have hfz13_3 := blk_frozen BK1073.out 3
      have hfz13_4 := blk_frozen BK1073.out 4
      have hfz13_5 := blk_frozen BK1073.out 5
      have hfz13_6 := blk_frozen BK1073.out 6
      go_wp2_with (first | ((with_reducible refine gate_callee (f := 117) rfl ?_); refine goesL_ (some 10) rfl rfl Try.func117 (by kernel_rfl) rfl #[.agg #[.slice A0_0 l0_0.length c0_0, .int .i64 a0_1, .int .i64 a0_2, .int .i64 a0_3, .int .i64 a0_4, .int .i64 a0_5, .slice A0_6 l0_6.length c0_6]] rfl (by (try simp only [List.map_toArray, List.map_cons, List.map_nil]); first | done | rfl | (simp only [List.length_drop, List.length_take]; rfl)) ?_; (with_reducible refine (spec_l8Arena.calls k _ _ l0_0 a0_1 a0_2 a0_3 a0_4 a0_5 _ _ l0_6 false _ ?side1 ?side2 ?side3 ?side4 A7.out).mono ?_); (case side1 => repeat (first | exact (Kd.C_below HR0_0.out HB.out) | (with_reducible refine Kd.C_alloc ?_ _) | (with_reducible refine Kd.C_drewN ?_ _) | (with_reducible refine Kd.C_drew ?_))); (case side2 => exact HC0_0.out); (case side3 => repeat (first | exact (Kd.C_below HR0_6.out HB.out) | (with_reducible refine Kd.C_alloc ?_ _) | (with_reducible refine Kd.C_drewN ?_ _) | (with_reducible refine Kd.C_drew ?_))); (case side4 => exact HC0_6.out); rintro e w14 ⟨rfl, hb⟩; refine ⟨_, rfl, ?_⟩; have n0_ := Aside0.mk (blk_below (g := gb1073) (o := .cells #[.slice A0_0 l0_0.length c0_0, .int .i64 a0_1, .int .i64 a0_2, .int .i64 a0_3, .int .i64 a0_4, .int .i64 a0_5, .slice A0_6 l0_6.length c0_6] 51 (0, 0)) (by (with_reducible repeat (first | refine blk_drewN ?_ _ | refine blk_drew ?_ | refine blk_alloc ?_ _)); exact BK1073.out) hb); have n1_ := Aside0.mk (blk_below (g := gb1074) (o := .cells #[.slice none 0 0, .int .i64 0, .int .i64 0, .int .i64 0, .int .i64 0, .int .i64 0, .slice none 0 0] 51 (0, 0)) (by (with_reducible repeat (first | refine blk_drewN ?_ _ | refine blk_drew ?_ | refine blk_alloc ?_ _)); exact BK1074.out) hb); have n2_ := Aside0.mk (below_step (by repeat (first | (with_reducible first | exact HB.out | apply below_alloc | apply pw_below_drewN | apply below_drew1 | refine below_set ?_ GE1073.out | refine below_set ?_ GE1074.out) | exact HB.out)) hb); clear BK1073; clear BK1074; clear HB; have BK1073 := n0_; have BK1074 := n1_; have HB := n2_; clear n0_ n1_ n2_; (try clear hb); (try clear hb2); (try clear hk); (try clear hi)))
      go_meet
      case rel => exact ⟨_, (true), (by first | rfl | (simp; done) | (simp [*]; done)), H', ⟨by first | omega | exact Nat.le_refl _⟩, ⟨by (with_reducible repeat (first | refine blk_drewN ?_ _ | refine blk_drew ?_ | refine blk_alloc ?_ _)); exact BK1073.out⟩, ⟨by (with_reducible repeat (first | refine blk_drewN ?_ _ | refine blk_drew ?_ | refine blk_alloc ?_ _)); exact BK1074.out⟩, ⟨by repeat (first | (with_reducible first | exact HB.out | apply below_alloc | apply pw_below_drewN | apply below_drew1 | refine below_set ?_ GE1073.out | refine below_set ?_ GE1074.out) | exact HB.out)⟩⟩
  case rest =>
    clear HC2
    try clear c1
    try clear p2
    try clear c5
    try clear c8
    try clear c9
    try clear c11
    try clear c12
    try clear hcz10_0
    try clear hcz10_1
    try clear hcz10_2
    try clear hcz10_3
    try clear hcz10_4
    try clear hcz10_5
    try clear hcz10_6
    try clear hcz13_0
    try clear hcz13_1
    try clear hcz13_2
    try clear hcz13_3
    try clear hcz13_4
    try clear hcz13_5
    try clear hcz13_6
    try clear hcz6_0
    try clear hcz6_1
    try clear hcz6_2
    try clear hcz6_3
    try clear hcz6_4
    try clear hcz6_5
    try clear hcz6_6
    try clear hfz10_0
    try clear hfz10_1
    try clear hfz10_2
    try clear hfz10_3
    try clear hfz10_4
    try clear hfz10_5
    try clear hfz10_6
    try clear hfz13_0
    try clear hfz13_1
    try clear hfz13_2
    try clear hfz13_3
    try clear hfz13_4
    try clear hfz13_5
    try clear hfz13_6
    try clear hfz6_0
    try clear hfz6_1
    try clear hfz6_2
    try clear hfz6_3
    try clear hfz6_4
    try clear hfz6_5
    try clear hfz6_6
    obtain ⟨kq, x15_1, rfl, HA, HJ1, BK1073, BK1074, HB⟩ := hcut
    cases kq with
    | zero => exact absurd HA.out (by simp [spec_ResetArena.j0])
    | succ kj1 =>
      have H := HA.out
      clear HA
      simp only [spec_ResetArena.j0] at H
      by_cases c15 : x15_1 = true
      · subst c15
        have H1 : (some (([] : List (List Int)), 0, 0, 0, 0, 0, ([] : List Int), false)) = some (r1, r2, r3, r4, r5, r6, r7, r8) := by rw [if_pos rfl] at H; exact H
        clear H
        have H := H1
        clear H1
        simp only [Option.some.injEq, Prod.mk.injEq] at H
        obtain ⟨rfl, rfl, rfl, rfl, rfl, rfl, rfl, rfl⟩ := H
        have hnb16 := NB1074_1073.out
        have hnc16 := NB1073_1074.out
        have hcz17_0 : wc.cell? ⟨gb1074, 0, none⟩ = some (.slice none 0 0) := (blk_cell BK1074.out 0).trans rfl
        have hcz17_1 : wc.cell? ⟨gb1074, 1, none⟩ = some (.int .i64 0) := (blk_cell BK1074.out 1).trans rfl
        have hcz17_2 : wc.cell? ⟨gb1074, 2, none⟩ = some (.int .i64 0) := (blk_cell BK1074.out 2).trans rfl
        have hcz17_3 : wc.cell? ⟨gb1074, 3, none⟩ = some (.int .i64 0) := (blk_cell BK1074.out 3).trans rfl
        have hcz17_4 : wc.cell? ⟨gb1074, 4, none⟩ = some (.int .i64 0) := (blk_cell BK1074.out 4).trans rfl
        have hcz17_5 : wc.cell? ⟨gb1074, 5, none⟩ = some (.int .i64 0) := (blk_cell BK1074.out 5).trans rfl
        have hcz17_6 : wc.cell? ⟨gb1074, 6, none⟩ = some (.slice none 0 0) := (blk_cell BK1074.out 6).trans rfl
        have hfz17_0 := blk_frozen BK1074.out 0
        have hfz17_1 := blk_frozen BK1074.out 1
        have hfz17_2 := blk_frozen BK1074.out 2
        have hfz17_3 := blk_frozen BK1074.out 3
        have hfz17_4 := blk_frozen BK1074.out 4
        have hfz17_5 := blk_frozen BK1074.out 5
        have hfz17_6 := blk_frozen BK1074.out 6
        go_wp2
        refine bodyPost_ret (results_ct rfl _ _ gb1074 51 #[.slice none 0 0, .int .i64 0, .int .i64 0, .int .i64 0, .int .i64 0, .int .i64 0, .slice none 0 0] (0, 0) _ rfl (by (with_reducible repeat (first | refine blk_drewN ?_ _ | refine blk_drew ?_ | refine blk_alloc ?_ _)); refine blk_put (cs := #[.slice none 0 0, .int .i64 0, .int .i64 0, .int .i64 0, .int .i64 0, .int .i64 0, .slice none 0 0]) ?_ 6 _ rfl; (with_reducible repeat (first | refine blk_drewN ?_ _ | refine blk_drew ?_ | refine blk_alloc ?_ _)); refine blk_put (cs := #[.slice none 0 0, .int .i64 0, .int .i64 0, .int .i64 0, .int .i64 0, .int .i64 0, .slice none 0 0]) ?_ 5 _ rfl; (with_reducible repeat (first | refine blk_drewN ?_ _ | refine blk_drew ?_ | refine blk_alloc ?_ _)); refine blk_put (cs := #[.slice none 0 0, .int .i64 0, .int .i64 0, .int .i64 0, .int .i64 0, .int .i64 0, .slice none 0 0]) ?_ 4 _ rfl; (with_reducible repeat (first | refine blk_drewN ?_ _ | refine blk_drew ?_ | refine blk_alloc ?_ _)); refine blk_put (cs := #[.slice none 0 0, .int .i64 0, .int .i64 0, .int .i64 0, .int .i64 0, .int .i64 0, .slice none 0 0]) ?_ 3 _ rfl; (with_reducible repeat (first | refine blk_drewN ?_ _ | refine blk_drew ?_ | refine blk_alloc ?_ _)); refine blk_put (cs := #[.slice none 0 0, .int .i64 0, .int .i64 0, .int .i64 0, .int .i64 0, .int .i64 0, .slice none 0 0]) ?_ 2 _ rfl; (with_reducible repeat (first | refine blk_drewN ?_ _ | refine blk_drew ?_ | refine blk_alloc ?_ _)); refine blk_put (cs := #[.slice none 0 0, .int .i64 0, .int .i64 0, .int .i64 0, .int .i64 0, .int .i64 0, .slice none 0 0]) ?_ 1 _ rfl; (with_reducible repeat (first | refine blk_drewN ?_ _ | refine blk_drew ?_ | refine blk_alloc ?_ _)); refine blk_put (cs := #[.slice none 0 0, .int .i64 0, .int .i64 0, .int .i64 0, .int .i64 0, .int .i64 0, .slice none 0 0]) ?_ 0 _ rfl; (with_reducible repeat (first | refine blk_drewN ?_ _ | refine blk_drew ?_ | refine blk_alloc ?_ _)); exact BK1074.out) Try.underlying51 rfl (by kernel_rfl)) rfl ?_
        exact ⟨_, _, by first | rfl | (simp [errW_none, errW_some] <;> rfl) | (simp [*, errW_none, errW_some] <;> rfl), by first | exact Kd.S_nil _ _ _ _ _ | exact Kd.N_nil _ _ _ _ _ | exact Kd.V_nil _ _ _ _ _ | exact Kd.Q_nil _ _ _ _ _ | exact Kd.R_nil _ _ _ _ _, by first | exact Kd.R_nil _ _ _ _ _ | exact Kd.N_nil _ _ _ _ _ | exact Kd.V_nil _ _ _ _ _ | exact Kd.Q_nil _ _ _ _ _ | exact Kd.S_nil _ _ _ _ _, by repeat (first | (with_reducible first | exact HB.out | apply below_alloc | apply pw_below_drewN | apply below_drew1 | refine below_set ?_ GE1073.out | refine below_set ?_ GE1074.out) | exact HB.out)⟩
      · replace c15 := Bool.eq_false_iff.mpr c15
        subst c15
        have H1 : (if 0 ≤ (wrap64 ((l0_6.length : Int) - 1)) then (if (wrap64 ((l0_6.length : Int) - 1)) < (l0_6.length : Int) then ((spec_l8Own.f kj1 l0_0 a0_1 a0_2 a0_3 a0_4 a0_5 l0_6 (rd l0_6 (wrap64 ((l0_6.length : Int) - 1)))).bind fun bt1077 => (if (wrap64 ((l0_6.length : Int) - 1)) ≤ (l0_6.length : Int) then ((spec_l1Own.f (l0_6.take ((wrap64 ((l0_6.length : Int) - 1)) : Int).toNat)).bind fun t1090 => (some (bt1077.1, bt1077.2.1, bt1077.2.2.1, bt1077.2.2.2.1, bt1077.2.2.2.2.1, bt1077.2.2.2.2.2.1, t1090, true))) else (none))) else (none)) else (none)) = some (r1, r2, r3, r4, r5, r6, r7, r8) := by rw [if_neg (show ¬ (false = true) by decide)] at H; exact H
        clear H
        have H := H1
        clear H1
        obtain ⟨ji18, hji18⟩ : ∃ j_ : Int, (wrap64 ((l0_6.length : Int) - 1)) = j_ := ⟨_, rfl⟩
        replace H : (if 0 ≤ (ji18) then (if (ji18) < (l0_6.length : Int) then ((spec_l8Own.f kj1 l0_0 a0_1 a0_2 a0_3 a0_4 a0_5 l0_6 (rd l0_6 (ji18))).bind fun bt1077 => (if (ji18) ≤ (l0_6.length : Int) then ((spec_l1Own.f (l0_6.take ((ji18) : Int).toNat)).bind fun t1090 => (some (bt1077.1, bt1077.2.1, bt1077.2.2.1, bt1077.2.2.2.1, bt1077.2.2.2.2.1, bt1077.2.2.2.2.2.1, t1090, true))) else (none))) else (none)) else (none)) = some (r1, r2, r3, r4, r5, r6, r7, r8) := by first | (rw [hji18] at H; exact H) | (simp only [hji18] at H ⊢; exact H)
        have hji18w : (IntKind.i64.wrap ((l0_6.length : Int) - 1)) = ji18 := (i64_w _).trans hji18
        by_cases c19 : 0 ≤ (ji18)
        · rw [if_pos c19] at H
          have c19b0 : decide (0 ≤ (ji18)) = true := decide_eq_true c19
          clear c19
          by_cases c20 : (ji18) < (l0_6.length : Int)
          · rw [if_pos c20] at H
            have c20b0 : decide ((ji18) < (l0_6.length : Int)) = true := decide_eq_true c20
            clear c20
            replace H := Option.bind_eq_some_iff.mp H
            obtain ⟨⟨t1077, t1080, t1081, t1082, t1083, t1084, t1085⟩, A210, H⟩ := H
            replace H : (if (ji18) ≤ (l0_6.length : Int) then ((spec_l1Own.f (l0_6.take ((ji18) : Int).toNat)).bind fun t1090 => (some (t1077, t1080, t1081, t1082, t1083, t1084, t1090, true))) else (none)) = some (r1, r2, r3, r4, r5, r6, r7, r8) := H
            have A21 := Aside0.mk A210
            clear A210
            have c22b0 := eq_true (of_decide_eq_true (by first | (with_reducible assumption) | assumption) : 0 ≤ (ji18))
            by_cases c23 : (ji18) ≤ (l0_6.length : Int)
            · rw [if_pos c23] at H
              have c23b0 := eq_true c23
              have c23b1 : decide ((ji18) ≤ (l0_6.length : Int)) = true := decide_eq_true c23
              clear c23
              replace H := Option.bind_eq_some_iff.mp H
              obtain ⟨t1090, A240, H⟩ := H
              replace H : (some (t1077, t1080, t1081, t1082, t1083, t1084, t1090, true)) = some (r1, r2, r3, r4, r5, r6, r7, r8) := H
              have A24 := Aside0.mk A240
              clear A240
              simp only [Option.some.injEq, Prod.mk.injEq] at H
              obtain ⟨rfl, rfl, rfl, rfl, rfl, rfl, rfl, rfl⟩ := H
              try go_wp2
              have n0_ := Aside0.mk (blk_drew BK1073.out)
              have n1_ := Aside0.mk (blk_drew BK1074.out)
              have n2_ := Aside0.mk (below_drew1 HB.out)
              clear BK1073
              clear BK1074
              clear HB
              have BK1073 := n0_
              have BK1074 := n1_
              have HB := n2_
              clear n0_ n1_ n2_
              have p1076 : 0 ≤ ((ji18) : Int) := of_decide_eq_true (by first | (with_reducible assumption) | assumption)
              have q1076 : (ji18) < (l0_6.length : Int) := of_decide_eq_true (by first | (with_reducible assumption) | assumption)
              obtain ⟨ad1076, e1076, hx1076_0⟩ := Kd.at_int HR0_6.out (ji18) p1076 q1076
              have hw1076_0 := hx1076_0
              cases e1076
              replace hx1076_0 := (HB.out.cell (World.block_lt_of_cell? w _ hx1076_0)).trans hx1076_0
              replace p1076 := eq_true p1076
              replace q1076 := eq_true q1076
              refine start_ (n := 10) (S := fun w' => w'.cell? ⟨gb1073, 0, none⟩ = some (.slice A0_0 l0_0.length c0_0) ∧ w'.cell? ⟨gb1073, 1, none⟩ = some (.int .i64 a0_1) ∧ w'.cell? ⟨gb1073, 2, none⟩ = some (.int .i64 a0_2) ∧ w'.cell? ⟨gb1073, 3, none⟩ = some (.int .i64 a0_3) ∧ w'.cell? ⟨gb1073, 4, none⟩ = some (.int .i64 a0_4) ∧ w'.cell? ⟨gb1073, 5, none⟩ = some (.int .i64 a0_5) ∧ w'.cell? ⟨gb1073, 6, none⟩ = some (.slice (some ad1076) l0_6.length c0_6) ∧ w'.cell? (ad1076.add ((ji18)).toNat) = some (.int .i64 (rd l0_6 (ji18)))) (ds := []) #[false, false, false, false, false, false, false, false, false, false] (by kernel_rfl) rfl rfl ⟨(blk_cell BK1073.out 0).trans rfl, (blk_cell BK1073.out 1).trans rfl, (blk_cell BK1073.out 2).trans rfl, (blk_cell BK1073.out 3).trans rfl, (blk_cell BK1073.out 4).trans rfl, (blk_cell BK1073.out 5).trans rfl, (blk_cell BK1073.out 6).trans rfl, (by have h_ := ((HB.out.cell (World.block_lt_of_cell? w _ hw1076_0)).trans hw1076_0); first | exact h_ | (simp only [*] at h_; exact h_) | simpa [*] using h_)⟩ (fun hHeld => ?_); refine with_tabW spec_ResetArena.tab4 spec_ResetArena.bits4 (fun HT_ HW_ => ?_)
              generalize wc.drew = w25 at BK1073 BK1074 HB hx1076_0 hHeld ⊢
              refine pure_ (i := 1) (N := some 18) (v := ?_) (a' := ?_) #[false, true, false, false, false, false, false, false, false, false] rfl rfl (any_of HT_.out (by kernel_rfl)) (fun _ _ _ h => h) (Or.inl ⟨by rfl, ?_⟩) ?_ ?_
              rotate_left
              · intro w'
                go_simp
                with_reducible rfl
              rotate_left
              · simp only [Act.put, List.setIfInBounds_toArray, List.set_cons_zero, List.set_cons_succ, i64_w, i32_w]
                rfl
              refine pure_ (i := 3) (N := some 20) (v := ?_) (a' := ?_) #[false, true, false, true, false, false, false, false, false, false] rfl rfl (any_of HT_.out (by kernel_rfl)) (fun _ _ _ h => h) (Or.inl ⟨by rfl, ?_⟩) ?_ ?_
              rotate_left
              · intro w'
                go_simp
                with_reducible rfl
              rotate_left
              · simp only [Act.put, List.setIfInBounds_toArray, List.set_cons_zero, List.set_cons_succ, i64_w, i32_w]
                rfl
              refine pure_ (i := 4) (N := some 21) (v := ?_) (a' := ?_) #[false, true, false, true, true, false, false, false, false, false] rfl rfl (any_of HT_.out (by kernel_rfl)) (fun _ _ _ h => h) (Or.inl ⟨by rfl, ?_⟩) ?_ ?_
              rotate_left
              · intro w'
                go_simp
                with_reducible rfl
              rotate_left
              · simp only [Act.put, List.setIfInBounds_toArray, List.set_cons_zero, List.set_cons_succ, i64_w, i32_w]
                rfl
              refine take_ (i := 0) (N := some 17) (v := ?_) (a' := ?_) #[true, true, false, true, true, false, false, false, false, false] rfl rfl (take_ofW HT_.out HW_.out (by kernel_rfl)) (fun _ _ _ h => h) (Or.inl ⟨by rfl, ?_⟩) hHeld ?_ ?_
              rotate_left
              · rintro w' ⟨s0, s1, s2, s3, s4, s5, s6, s7⟩
                go_simp
                with_reducible rfl
              rotate_left
              · simp only [Act.put, List.setIfInBounds_toArray, List.set_cons_zero, List.set_cons_succ, i64_w, i32_w]
                rfl
              refine take_ (i := 2) (N := some 19) (v := ?_) (a' := ?_) #[true, true, true, true, true, false, false, false, false, false] rfl rfl (take_ofW HT_.out HW_.out (by kernel_rfl)) (fun _ _ _ h => h) (Or.inl ⟨by rfl, ?_⟩) hHeld ?_ ?_
              rotate_left
              · rintro w' ⟨s0, s1, s2, s3, s4, s5, s6, s7⟩
                go_simp
                with_reducible rfl
              rotate_left
              · simp only [Act.put, List.setIfInBounds_toArray, List.set_cons_zero, List.set_cons_succ, i64_w, i32_w]
                rfl
              refine pure_ (i := 5) (N := some 22) (v := ?_) (a' := ?_) #[true, true, true, true, true, true, false, false, false, false] rfl rfl (any_of HT_.out (by kernel_rfl)) (fun _ _ _ h => h) (Or.inl ⟨by rfl, ?_⟩) ?_ ?_
              rotate_left
              · intro w'
                go_simp
                with_reducible rfl
              rotate_left
              · simp only [Act.put, List.setIfInBounds_toArray, List.set_cons_zero, List.set_cons_succ, i64_w, i32_w]
                rfl
              refine take_ (i := 6) (N := some 23) (v := ?_) (a' := ?_) #[true, true, true, true, true, true, true, false, false, false] rfl rfl (take_ofW HT_.out HW_.out (by kernel_rfl)) (fun _ _ _ h => h) (Or.inl ⟨by rfl, ?_⟩) hHeld ?_ ?_
              rotate_left
              · rintro w' ⟨s0, s1, s2, s3, s4, s5, s6, s7⟩
                go_simp
                with_reducible rfl
              rotate_left
              · simp only [Act.put, List.setIfInBounds_toArray, List.set_cons_zero, List.set_cons_succ, i64_w, i32_w]
                rfl
              refine join_ (σ := Value × Value × Nat) 1 #[true, true, true, true, true, true, true, true, true, false] (fun s_ => [(24, .agg #[s_.1, .int .i64 t1080, .int .i64 t1081, .int .i64 t1082, .int .i64 t1083, .int .i64 t1084, s_.2.1]), (5, .pointer (some ⟨s_.2.2, 0, none⟩))]) (fun s_ w' => (w'.cell? ⟨gb1073, 0, none⟩ = some (.slice A0_0 l0_0.length c0_0) ∧ w'.cell? ⟨gb1073, 1, none⟩ = some (.int .i64 a0_1) ∧ w'.cell? ⟨gb1073, 2, none⟩ = some (.int .i64 a0_2) ∧ w'.cell? ⟨gb1073, 3, none⟩ = some (.int .i64 a0_3) ∧ w'.cell? ⟨gb1073, 4, none⟩ = some (.int .i64 a0_4) ∧ w'.cell? ⟨gb1073, 5, none⟩ = some (.int .i64 a0_5) ∧ w'.cell? ⟨gb1073, 6, none⟩ = some (.slice (some ad1076) l0_6.length c0_6) ∧ w'.cell? (ad1076.add ((ji18)).toNat) = some (.int .i64 (rd l0_6 (ji18)))) ∧ (Kd.S (Kd.slice 5 (Kd.int .u8)) 119 w' w.heap.size (fun _ => True) s_.1 t1077) ∧ (Kd.R (Kd.int .i64) 3 w' w.heap.size (fun _ => True) s_.2.1 t1085) ∧ (w'.heap[gb1073]? = some (.cells #[.slice A0_0 l0_0.length c0_0, .int .i64 a0_1, .int .i64 a0_2, .int .i64 a0_3, .int .i64 a0_4, .int .i64 a0_5, .slice (some ad1076) l0_6.length c0_6] 51 (0, 0))) ∧ (w'.heap[gb1074]? = some (.cells #[.slice none 0 0, .int .i64 0, .int .i64 0, .int .i64 0, .int .i64 0, .int .i64 0, .slice none 0 0] 51 (0, 0))) ∧ (w'.heap[s_.2.2]? = some (.cells #[.slice none 0 0, .int .i64 0, .int .i64 0, .int .i64 0, .int .i64 0, .int .i64 0, .slice none 0 0] 51 (0, 0))) ∧ (w.heap.size ≤ s_.2.2) ∧ (w.heap.size ≤ s_.2.2) ∧ (gb1073 ≠ s_.2.2) ∧ (s_.2.2 ≠ gb1073) ∧ (gb1074 ≠ s_.2.2) ∧ (s_.2.2 ≠ gb1074) ∧ (Below w.heap.size w w')) ?_ ?_
              rotate_left
              · intro hCont
                refine two_ (i := 7) (j := 8) (Ni := some 24) (Nj := some 5) #[true, true, true, true, true, true, true, true, false, false] #[true, true, true, true, true, true, true, false, true, false] rfl rfl rfl rfl (two_of HT_.out (by kernel_rfl)) (by decide) (by decide) (fun K hK => ?_) (fun K hK => ?_)
                · skip
                  refine goes_ Try.func118 (by kernel_rfl) rfl #[.agg #[.slice A0_0 l0_0.length c0_0, .int .i64 a0_1, .int .i64 a0_2, .int .i64 a0_3, .int .i64 a0_4, .int .i64 a0_5, .slice (some ad1076) l0_6.length c0_6], .int .i64 (rd l0_6 (ji18))] (by rfl) rfl rfl (by (try simp only [List.map_toArray, List.map_cons, List.map_nil]); first | done | (simp only [hji18]; rfl) | rfl | (simp only [List.length_drop, List.length_take]; rfl)) ?_
                  with_reducible refine (spec_l8Own.calls kj1 _ _ l0_0 a0_1 a0_2 a0_3 a0_4 a0_5 _ _ l0_6 (rd l0_6 (ji18)) t1077 t1080 t1081 t1082 t1083 t1084 t1085 _ ?side1 ?side2 ?side3 ?side4 A21.out).mono ?_
                  (case side1 => repeat (first | exact (Kd.C_below HR0_0.out HB.out) | (with_reducible refine Kd.C_alloc ?_ _) | (with_reducible refine Kd.C_drewN ?_ _) | (with_reducible refine Kd.C_drew ?_)))
                  (case side2 => exact HC0_0.out)
                  (case side3 => repeat (first | exact (Kd.C_below HR0_6.out HB.out) | (with_reducible refine Kd.C_alloc ?_ _) | (with_reducible refine Kd.C_drewN ?_ _) | (with_reducible refine Kd.C_drew ?_)))
                  (case side4 => exact HC0_6.out)
                  rintro e w26 ⟨v1078, v1086, rfl, ho0, ho1, hb⟩
                  refine ⟨_, rfl, ?_⟩
                  have n0_ := Aside0.mk (Kd.S_lower ho0 (below_size (by repeat (first | (with_reducible first | exact HB.out | apply below_alloc | apply pw_below_drewN | apply below_drew1 | refine below_set ?_ GE1073.out | refine below_set ?_ GE1074.out) | exact HB.out))))
                  have n1_ := Aside0.mk (Kd.R_lower ho1 (below_size (by repeat (first | (with_reducible first | exact HB.out | apply below_alloc | apply pw_below_drewN | apply below_drew1 | refine below_set ?_ GE1073.out | refine below_set ?_ GE1074.out) | exact HB.out))))
                  have n2_ := Aside0.mk (blk_below (g := gb1073) (o := .cells #[.slice A0_0 l0_0.length c0_0, .int .i64 a0_1, .int .i64 a0_2, .int .i64 a0_3, .int .i64 a0_4, .int .i64 a0_5, .slice (some ad1076) l0_6.length c0_6] 51 (0, 0)) (by (with_reducible repeat (first | refine blk_drewN ?_ _ | refine blk_drew ?_ | refine blk_alloc ?_ _)); exact BK1073.out) hb)
                  have n3_ := Aside0.mk (blk_below (g := gb1074) (o := .cells #[.slice none 0 0, .int .i64 0, .int .i64 0, .int .i64 0, .int .i64 0, .int .i64 0, .slice none 0 0] 51 (0, 0)) (by (with_reducible repeat (first | refine blk_drewN ?_ _ | refine blk_drew ?_ | refine blk_alloc ?_ _)); exact BK1074.out) hb)
                  have n4_ := Aside0.mk (below_step (by repeat (first | (with_reducible first | exact HB.out | apply below_alloc | apply pw_below_drewN | apply below_drew1 | refine below_set ?_ GE1073.out | refine below_set ?_ GE1074.out) | exact HB.out)) hb)
                  clear BK1073
                  clear BK1074
                  clear HB
                  have HO1079 := n0_
                  have HO1087 := n1_
                  have BK1073 := n2_
                  have BK1074 := n3_
                  have HB := n4_
                  clear n0_ n1_ n2_ n3_ n4_
                  (try clear hb)
                  (try clear hb2)
                  (try clear hk)
                  (try clear hi)
                  (try clear ho0)
                  (try clear ho1)
                  refine hK.out _ _ ⟨(blk_cell BK1073.out 0).trans rfl, (blk_cell BK1073.out 1).trans rfl, (blk_cell BK1073.out 2).trans rfl, (blk_cell BK1073.out 3).trans rfl, (blk_cell BK1073.out 4).trans rfl, (blk_cell BK1073.out 5).trans rfl, (blk_cell BK1073.out 6).trans rfl, (by have h_ := ((HB.out.cell (World.block_lt_of_cell? w _ hw1076_0)).trans hw1076_0); first | exact h_ | (simp only [*] at h_; exact h_) | simpa [*] using h_)⟩ (fun hHeld => ?_)
                  clear hK K
                  refine norm_ (a' := ?_) ?_ ?_
                  rotate_left
                  · show Act.put _ (some 24) _ = _
                    simp only [Act.put, List.setIfInBounds_toArray, List.set_cons_zero, List.set_cons_succ, i64_w, i32_w]
                    rfl
                  refine one_ (i := 8) (N := some 5) #[true, true, true, true, true, true, true, true, true, false] rfl rfl (one_of HT_.out (by kernel_rfl)) (by decide) (fun K hK => ?_)
                  refine box_step ?hg (N := 5) ?hd (cs := #[.slice none 0 0, .int .i64 0, .int .i64 0, .int .i64 0, .int .i64 0, .int .i64 0, .slice none 0 0]) (t := 51) ?hr ?_; (case hd => rfl); (case hg => rfl); (case hr => first | (go_simp; done) | (go_simp; rfl))
                  intro gb1088 hg w27 hbox hb
                  have n0_ := Aside0.mk (Kd.S_below (by (with_reducible repeat (first | apply Kd.S_alloc | apply Kd.S_drewN | apply Kd.S_drew)); exact HO1079.out) hb)
                  have n1_ := Aside0.mk (Kd.R_below (by (with_reducible repeat (first | apply Kd.R_alloc | apply Kd.R_drewN | apply Kd.R_drew)); exact HO1087.out) hb)
                  have n2_ := Aside0.mk (blk_below (g := gb1073) (o := .cells #[.slice A0_0 l0_0.length c0_0, .int .i64 a0_1, .int .i64 a0_2, .int .i64 a0_3, .int .i64 a0_4, .int .i64 a0_5, .slice (some ad1076) l0_6.length c0_6] 51 (0, 0)) (by (with_reducible repeat (first | refine blk_drewN ?_ _ | refine blk_drew ?_ | refine blk_alloc ?_ _)); exact BK1073.out) hb)
                  have n3_ := Aside0.mk (blk_below (g := gb1074) (o := .cells #[.slice none 0 0, .int .i64 0, .int .i64 0, .int .i64 0, .int .i64 0, .int .i64 0, .slice none 0 0] 51 (0, 0)) (by (with_reducible repeat (first | refine blk_drewN ?_ _ | refine blk_drew ?_ | refine blk_alloc ?_ _)); exact BK1074.out) hb)
                  have n4_ := Aside0.mk (below_step (by repeat (first | (with_reducible first | exact HB.out | apply below_alloc | apply pw_below_drewN | apply below_drew1 | refine below_set ?_ GE1073.out | refine below_set ?_ GE1074.out) | exact HB.out)) hb)
                  have n5_ := Aside0.mk (hbox)
                  have n6_ := Aside0.mk ((by rw [hg]; exact (below_size (by repeat (first | (with_reducible first | exact HB.out | apply below_alloc | apply pw_below_drewN | apply below_drew1 | refine below_set ?_ GE1073.out | refine below_set ?_ GE1074.out) | exact HB.out))) : w.heap.size ≤ gb1088))
                  have n7_ := Aside0.mk ((by rw [hg]; exact (below_size (by repeat (first | (with_reducible first | exact HB.out | apply below_alloc | apply pw_below_drewN | apply below_drew1 | refine below_set ?_ GE1073.out | refine below_set ?_ GE1074.out) | exact HB.out))) : w.heap.size ≤ gb1088))
                  have n8_ := Aside0.mk ((by rw [hg]; exact Nat.ne_of_lt (blk_lt (g := gb1073) (o := .cells #[.slice A0_0 l0_0.length c0_0, .int .i64 a0_1, .int .i64 a0_2, .int .i64 a0_3, .int .i64 a0_4, .int .i64 a0_5, .slice (some ad1076) l0_6.length c0_6] 51 (0, 0)) (by (with_reducible repeat (first | refine blk_drewN ?_ _ | refine blk_drew ?_ | refine blk_alloc ?_ _)); exact BK1073.out)) : gb1073 ≠ gb1088))
                  have n9_ := Aside0.mk ((by rw [hg]; exact Nat.ne_of_gt (blk_lt (g := gb1073) (o := .cells #[.slice A0_0 l0_0.length c0_0, .int .i64 a0_1, .int .i64 a0_2, .int .i64 a0_3, .int .i64 a0_4, .int .i64 a0_5, .slice (some ad1076) l0_6.length c0_6] 51 (0, 0)) (by (with_reducible repeat (first | refine blk_drewN ?_ _ | refine blk_drew ?_ | refine blk_alloc ?_ _)); exact BK1073.out)) : gb1088 ≠ gb1073))
                  have n10_ := Aside0.mk ((by rw [hg]; exact Nat.ne_of_lt (blk_lt (g := gb1074) (o := .cells #[.slice none 0 0, .int .i64 0, .int .i64 0, .int .i64 0, .int .i64 0, .int .i64 0, .slice none 0 0] 51 (0, 0)) (by (with_reducible repeat (first | refine blk_drewN ?_ _ | refine blk_drew ?_ | refine blk_alloc ?_ _)); exact BK1074.out)) : gb1074 ≠ gb1088))
                  have n11_ := Aside0.mk ((by rw [hg]; exact Nat.ne_of_gt (blk_lt (g := gb1074) (o := .cells #[.slice none 0 0, .int .i64 0, .int .i64 0, .int .i64 0, .int .i64 0, .int .i64 0, .slice none 0 0] 51 (0, 0)) (by (with_reducible repeat (first | refine blk_drewN ?_ _ | refine blk_drew ?_ | refine blk_alloc ?_ _)); exact BK1074.out)) : gb1088 ≠ gb1074))
                  clear HO1079
                  clear HO1087
                  clear BK1073
                  clear BK1074
                  clear HB
                  have HO1079 := n0_
                  have HO1087 := n1_
                  have BK1073 := n2_
                  have BK1074 := n3_
                  have HB := n4_
                  have BK1088 := n5_
                  have GW1088 := n6_
                  have GE1088 := n7_
                  have NB1073_1088 := n8_
                  have NB1088_1073 := n9_
                  have NB1074_1088 := n10_
                  have NB1088_1074 := n11_
                  clear n0_ n1_ n2_ n3_ n4_ n5_ n6_ n7_ n8_ n9_ n10_ n11_
                  clear hb hbox hg
                  refine hK.out _ _ ⟨(blk_cell BK1073.out 0).trans rfl, (blk_cell BK1073.out 1).trans rfl, (blk_cell BK1073.out 2).trans rfl, (blk_cell BK1073.out 3).trans rfl, (blk_cell BK1073.out 4).trans rfl, (blk_cell BK1073.out 5).trans rfl, (blk_cell BK1073.out 6).trans rfl, (by have h_ := ((HB.out.cell (World.block_lt_of_cell? w _ hw1076_0)).trans hw1076_0); first | exact h_ | (simp only [*] at h_; exact h_) | simpa [*] using h_)⟩ (fun hHeld => ?_)
                  clear hK K
                  refine norm_ (a' := ?_) ?_ ?_
                  rotate_left
                  · show Act.put _ (some 5) _ = _
                    simp only [Act.put, List.setIfInBounds_toArray, List.set_cons_zero, List.set_cons_succ, i64_w, i32_w]
                    rfl
                  exact norm_ (by simp only [putAll, Act.put, List.setIfInBounds_toArray, List.set_cons_zero, List.set_cons_succ]) (hCont (v1078, v1086, gb1088) _ ⟨hHeld, (by (with_reducible repeat (first | apply Kd.S_alloc | apply Kd.S_drewN | apply Kd.S_drew)); exact HO1079.out), (by (with_reducible repeat (first | apply Kd.R_alloc | apply Kd.R_drewN | apply Kd.R_drew)); exact HO1087.out), (by (with_reducible repeat (first | refine blk_drewN ?_ _ | refine blk_drew ?_ | refine blk_alloc ?_ _)); exact BK1073.out), (by (with_reducible repeat (first | refine blk_drewN ?_ _ | refine blk_drew ?_ | refine blk_alloc ?_ _)); exact BK1074.out), (by (with_reducible repeat (first | refine blk_drewN ?_ _ | refine blk_drew ?_ | refine blk_alloc ?_ _)); exact BK1088.out), GW1088.out, GE1088.out, NB1073_1088.out, NB1088_1073.out, NB1074_1088.out, NB1088_1074.out, (by repeat (first | (with_reducible first | exact HB.out | apply below_alloc | apply pw_below_drewN | apply below_drew1 | refine below_set ?_ GE1073.out | refine below_set ?_ GE1074.out | refine below_set ?_ GE1088.out) | exact HB.out))⟩)
                · skip
                  refine box_step ?hg (N := 5) ?hd (cs := #[.slice none 0 0, .int .i64 0, .int .i64 0, .int .i64 0, .int .i64 0, .int .i64 0, .slice none 0 0]) (t := 51) ?hr ?_; (case hd => rfl); (case hg => rfl); (case hr => first | (go_simp; done) | (go_simp; rfl))
                  intro gb1088 hg w26 hbox hb
                  have n0_ := Aside0.mk (blk_below (g := gb1073) (o := .cells #[.slice A0_0 l0_0.length c0_0, .int .i64 a0_1, .int .i64 a0_2, .int .i64 a0_3, .int .i64 a0_4, .int .i64 a0_5, .slice (some ad1076) l0_6.length c0_6] 51 (0, 0)) (by (with_reducible repeat (first | refine blk_drewN ?_ _ | refine blk_drew ?_ | refine blk_alloc ?_ _)); exact BK1073.out) hb)
                  have n1_ := Aside0.mk (blk_below (g := gb1074) (o := .cells #[.slice none 0 0, .int .i64 0, .int .i64 0, .int .i64 0, .int .i64 0, .int .i64 0, .slice none 0 0] 51 (0, 0)) (by (with_reducible repeat (first | refine blk_drewN ?_ _ | refine blk_drew ?_ | refine blk_alloc ?_ _)); exact BK1074.out) hb)
                  have n2_ := Aside0.mk (below_step (by repeat (first | (with_reducible first | exact HB.out | apply below_alloc | apply pw_below_drewN | apply below_drew1 | refine below_set ?_ GE1073.out | refine below_set ?_ GE1074.out) | exact HB.out)) hb)
                  have n3_ := Aside0.mk (hbox)
                  have n4_ := Aside0.mk ((by rw [hg]; exact (below_size (by repeat (first | (with_reducible first | exact HB.out | apply below_alloc | apply pw_below_drewN | apply below_drew1 | refine below_set ?_ GE1073.out | refine below_set ?_ GE1074.out) | exact HB.out))) : w.heap.size ≤ gb1088))
                  have n5_ := Aside0.mk ((by rw [hg]; exact (below_size (by repeat (first | (with_reducible first | exact HB.out | apply below_alloc | apply pw_below_drewN | apply below_drew1 | refine below_set ?_ GE1073.out | refine below_set ?_ GE1074.out) | exact HB.out))) : w.heap.size ≤ gb1088))
                  have n6_ := Aside0.mk ((by rw [hg]; exact Nat.ne_of_lt (blk_lt (g := gb1073) (o := .cells #[.slice A0_0 l0_0.length c0_0, .int .i64 a0_1, .int .i64 a0_2, .int .i64 a0_3, .int .i64 a0_4, .int .i64 a0_5, .slice (some ad1076) l0_6.length c0_6] 51 (0, 0)) (by (with_reducible repeat (first | refine blk_drewN ?_ _ | refine blk_drew ?_ | refine blk_alloc ?_ _)); exact BK1073.out)) : gb1073 ≠ gb1088))
                  have n7_ := Aside0.mk ((by rw [hg]; exact Nat.ne_of_gt (blk_lt (g := gb1073) (o := .cells #[.slice A0_0 l0_0.length c0_0, .int .i64 a0_1, .int .i64 a0_2, .int .i64 a0_3, .int .i64 a0_4, .int .i64 a0_5, .slice (some ad1076) l0_6.length c0_6] 51 (0, 0)) (by (with_reducible repeat (first | refine blk_drewN ?_ _ | refine blk_drew ?_ | refine blk_alloc ?_ _)); exact BK1073.out)) : gb1088 ≠ gb1073))
                  have n8_ := Aside0.mk ((by rw [hg]; exact Nat.ne_of_lt (blk_lt (g := gb1074) (o := .cells #[.slice none 0 0, .int .i64 0, .int .i64 0, .int .i64 0, .int .i64 0, .int .i64 0, .slice none 0 0] 51 (0, 0)) (by (with_reducible repeat (first | refine blk_drewN ?_ _ | refine blk_drew ?_ | refine blk_alloc ?_ _)); exact BK1074.out)) : gb1074 ≠ gb1088))
                  have n9_ := Aside0.mk ((by rw [hg]; exact Nat.ne_of_gt (blk_lt (g := gb1074) (o := .cells #[.slice none 0 0, .int .i64 0, .int .i64 0, .int .i64 0, .int .i64 0, .int .i64 0, .slice none 0 0] 51 (0, 0)) (by (with_reducible repeat (first | refine blk_drewN ?_ _ | refine blk_drew ?_ | refine blk_alloc ?_ _)); exact BK1074.out)) : gb1088 ≠ gb1074))
                  clear BK1073
                  clear BK1074
                  clear HB
                  have BK1073 := n0_
                  have BK1074 := n1_
                  have HB := n2_
                  have BK1088 := n3_
                  have GW1088 := n4_
                  have GE1088 := n5_
                  have NB1073_1088 := n6_
                  have NB1088_1073 := n7_
                  have NB1074_1088 := n8_
                  have NB1088_1074 := n9_
                  clear n0_ n1_ n2_ n3_ n4_ n5_ n6_ n7_ n8_ n9_
                  clear hb hbox hg
                  refine hK.out _ _ ⟨(blk_cell BK1073.out 0).trans rfl, (blk_cell BK1073.out 1).trans rfl, (blk_cell BK1073.out 2).trans rfl, (blk_cell BK1073.out 3).trans rfl, (blk_cell BK1073.out 4).trans rfl, (blk_cell BK1073.out 5).trans rfl, (blk_cell BK1073.out 6).trans rfl, (by have h_ := ((HB.out.cell (World.block_lt_of_cell? w _ hw1076_0)).trans hw1076_0); first | exact h_ | (simp only [*] at h_; exact h_) | simpa [*] using h_)⟩ (fun hHeld => ?_)
                  clear hK K
                  refine norm_ (a' := ?_) ?_ ?_
                  rotate_left
                  · show Act.put _ (some 5) _ = _
                    simp only [Act.put, List.setIfInBounds_toArray, List.set_cons_zero, List.set_cons_succ, i64_w, i32_w]
                    rfl
                  refine one_ (i := 7) (N := some 24) #[true, true, true, true, true, true, true, true, true, false] rfl rfl (one_of HT_.out (by kernel_rfl)) (by decide) (fun K hK => ?_)
                  refine goes_ Try.func118 (by kernel_rfl) rfl #[.agg #[.slice A0_0 l0_0.length c0_0, .int .i64 a0_1, .int .i64 a0_2, .int .i64 a0_3, .int .i64 a0_4, .int .i64 a0_5, .slice (some ad1076) l0_6.length c0_6], .int .i64 (rd l0_6 (ji18))] (by rfl) rfl rfl (by (try simp only [List.map_toArray, List.map_cons, List.map_nil]); first | done | (simp only [hji18]; rfl) | rfl | (simp only [List.length_drop, List.length_take]; rfl)) ?_
                  with_reducible refine (spec_l8Own.calls kj1 _ _ l0_0 a0_1 a0_2 a0_3 a0_4 a0_5 _ _ l0_6 (rd l0_6 (ji18)) t1077 t1080 t1081 t1082 t1083 t1084 t1085 _ ?side1 ?side2 ?side3 ?side4 A21.out).mono ?_
                  (case side1 => repeat (first | exact (Kd.C_below HR0_0.out HB.out) | (with_reducible refine Kd.C_alloc ?_ _) | (with_reducible refine Kd.C_drewN ?_ _) | (with_reducible refine Kd.C_drew ?_)))
                  (case side2 => exact HC0_0.out)
                  (case side3 => repeat (first | exact (Kd.C_below HR0_6.out HB.out) | (with_reducible refine Kd.C_alloc ?_ _) | (with_reducible refine Kd.C_drewN ?_ _) | (with_reducible refine Kd.C_drew ?_)))
                  (case side4 => exact HC0_6.out)
                  rintro e w27 ⟨v1078, v1086, rfl, ho0, ho1, hb⟩
                  refine ⟨_, rfl, ?_⟩
                  have n0_ := Aside0.mk (Kd.S_lower ho0 (below_size (by repeat (first | (with_reducible first | exact HB.out | apply below_alloc | apply pw_below_drewN | apply below_drew1 | refine below_set ?_ GE1073.out | refine below_set ?_ GE1074.out | refine below_set ?_ GE1088.out) | exact HB.out))))
                  have n1_ := Aside0.mk (Kd.R_lower ho1 (below_size (by repeat (first | (with_reducible first | exact HB.out | apply below_alloc | apply pw_below_drewN | apply below_drew1 | refine below_set ?_ GE1073.out | refine below_set ?_ GE1074.out | refine below_set ?_ GE1088.out) | exact HB.out))))
                  have n2_ := Aside0.mk (blk_below (g := gb1073) (o := .cells #[.slice A0_0 l0_0.length c0_0, .int .i64 a0_1, .int .i64 a0_2, .int .i64 a0_3, .int .i64 a0_4, .int .i64 a0_5, .slice (some ad1076) l0_6.length c0_6] 51 (0, 0)) (by (with_reducible repeat (first | refine blk_drewN ?_ _ | refine blk_drew ?_ | refine blk_alloc ?_ _)); exact BK1073.out) hb)
                  have n3_ := Aside0.mk (blk_below (g := gb1074) (o := .cells #[.slice none 0 0, .int .i64 0, .int .i64 0, .int .i64 0, .int .i64 0, .int .i64 0, .slice none 0 0] 51 (0, 0)) (by (with_reducible repeat (first | refine blk_drewN ?_ _ | refine blk_drew ?_ | refine blk_alloc ?_ _)); exact BK1074.out) hb)
                  have n4_ := Aside0.mk (blk_below (g := gb1088) (o := .cells #[.slice none 0 0, .int .i64 0, .int .i64 0, .int .i64 0, .int .i64 0, .int .i64 0, .slice none 0 0] 51 (0, 0)) (by (with_reducible repeat (first | refine blk_drewN ?_ _ | refine blk_drew ?_ | refine blk_alloc ?_ _)); exact BK1088.out) hb)
                  have n5_ := Aside0.mk (below_step (by repeat (first | (with_reducible first | exact HB.out | apply below_alloc | apply pw_below_drewN | apply below_drew1 | refine below_set ?_ GE1073.out | refine below_set ?_ GE1074.out | refine below_set ?_ GE1088.out) | exact HB.out)) hb)
                  clear BK1073
                  clear BK1074
                  clear BK1088
                  clear HB
                  have HO1079 := n0_
                  have HO1087 := n1_
                  have BK1073 := n2_
                  have BK1074 := n3_
                  have BK1088 := n4_
                  have HB := n5_
                  clear n0_ n1_ n2_ n3_ n4_ n5_
                  (try clear hb)
                  (try clear hb2)
                  (try clear hk)
                  (try clear hi)
                  (try clear ho0)
                  (try clear ho1)
                  refine hK.out _ _ ⟨(blk_cell BK1073.out 0).trans rfl, (blk_cell BK1073.out 1).trans rfl, (blk_cell BK1073.out 2).trans rfl, (blk_cell BK1073.out 3).trans rfl, (blk_cell BK1073.out 4).trans rfl, (blk_cell BK1073.out 5).trans rfl, (blk_cell BK1073.out 6).trans rfl, (by have h_ := ((HB.out.cell (World.block_lt_of_cell? w _ hw1076_0)).trans hw1076_0); first | exact h_ | (simp only [*] at h_; exact h_) | simpa [*] using h_)⟩ (fun hHeld => ?_)
                  clear hK K
                  refine norm_ (a' := ?_) ?_ ?_
                  rotate_left
                  · show Act.put _ (some 24) _ = _
                    simp only [Act.put, List.setIfInBounds_toArray, List.set_cons_zero, List.set_cons_succ, i64_w, i32_w]
                    rfl
                  exact norm_ (by simp only [putAll, Act.put, List.setIfInBounds_toArray, List.set_cons_zero, List.set_cons_succ]) (hCont (v1078, v1086, gb1088) _ ⟨hHeld, (by (with_reducible repeat (first | apply Kd.S_alloc | apply Kd.S_drewN | apply Kd.S_drew)); exact HO1079.out), (by (with_reducible repeat (first | apply Kd.R_alloc | apply Kd.R_drewN | apply Kd.R_drew)); exact HO1087.out), (by (with_reducible repeat (first | refine blk_drewN ?_ _ | refine blk_drew ?_ | refine blk_alloc ?_ _)); exact BK1073.out), (by (with_reducible repeat (first | refine blk_drewN ?_ _ | refine blk_drew ?_ | refine blk_alloc ?_ _)); exact BK1074.out), (by (with_reducible repeat (first | refine blk_drewN ?_ _ | refine blk_drew ?_ | refine blk_alloc ?_ _)); exact BK1088.out), GW1088.out, GE1088.out, NB1073_1088.out, NB1088_1073.out, NB1074_1088.out, NB1088_1074.out, (by repeat (first | (with_reducible first | exact HB.out | apply below_alloc | apply pw_below_drewN | apply below_drew1 | refine below_set ?_ GE1073.out | refine below_set ?_ GE1074.out | refine below_set ?_ GE1088.out) | exact HB.out))⟩)
              rintro ⟨v1078, v1086, gb1088⟩ w28 ⟨hS_, h0_, h1_, h2_, h3_, h4_, h5_, h6_, h7_, h8_, h9_, h10_, h11_⟩
              have n0_ : Aside0 (Kd.S (Kd.slice 5 (Kd.int .u8)) 119 w28 w.heap.size (fun _ => True) v1078 t1077) := ⟨h0_⟩
              have n1_ : Aside0 (Kd.R (Kd.int .i64) 3 w28 w.heap.size (fun _ => True) v1086 t1085) := ⟨h1_⟩
              have n2_ : Aside0 (w28.heap[gb1073]? = some (.cells #[.slice A0_0 l0_0.length c0_0, .int .i64 a0_1, .int .i64 a0_2, .int .i64 a0_3, .int .i64 a0_4, .int .i64 a0_5, .slice (some ad1076) l0_6.length c0_6] 51 (0, 0))) := ⟨h2_⟩
              have n3_ : Aside0 (w28.heap[gb1074]? = some (.cells #[.slice none 0 0, .int .i64 0, .int .i64 0, .int .i64 0, .int .i64 0, .int .i64 0, .slice none 0 0] 51 (0, 0))) := ⟨h3_⟩
              have n4_ : Aside0 (w28.heap[gb1088]? = some (.cells #[.slice none 0 0, .int .i64 0, .int .i64 0, .int .i64 0, .int .i64 0, .int .i64 0, .slice none 0 0] 51 (0, 0))) := ⟨h4_⟩
              have n5_ : Aside0 (w.heap.size ≤ gb1088) := ⟨h5_⟩
              have n6_ : Aside0 (w.heap.size ≤ gb1088) := ⟨h6_⟩
              have n7_ : Aside0 (gb1073 ≠ gb1088) := ⟨h7_⟩
              have n8_ : Aside0 (gb1088 ≠ gb1073) := ⟨h8_⟩
              have n9_ : Aside0 (gb1074 ≠ gb1088) := ⟨h9_⟩
              have n10_ : Aside0 (gb1088 ≠ gb1074) := ⟨h10_⟩
              have n11_ : Aside0 (Below w.heap.size w w28) := ⟨h11_⟩
              clear BK1073
              clear BK1074
              clear HB
              clear h0_ h1_ h2_ h3_ h4_ h5_ h6_ h7_ h8_ h9_ h10_ h11_
              have HO1079 := n0_
              have HO1087 := n1_
              have BK1073 := n2_
              have BK1074 := n3_
              have BK1088 := n4_
              have GW1088 := n5_
              have GE1088 := n6_
              have NB1073_1088 := n7_
              have NB1088_1073 := n8_
              have NB1074_1088 := n9_
              have NB1088_1074 := n10_
              have HB := n11_
              clear n0_ n1_ n2_ n3_ n4_ n5_ n6_ n7_ n8_ n9_ n10_ n11_
              have hHeld : w28.cell? ⟨gb1073, 0, none⟩ = some (.slice A0_0 l0_0.length c0_0) ∧ w28.cell? ⟨gb1073, 1, none⟩ = some (.int .i64 a0_1) ∧ w28.cell? ⟨gb1073, 2, none⟩ = some (.int .i64 a0_2) ∧ w28.cell? ⟨gb1073, 3, none⟩ = some (.int .i64 a0_3) ∧ w28.cell? ⟨gb1073, 4, none⟩ = some (.int .i64 a0_4) ∧ w28.cell? ⟨gb1073, 5, none⟩ = some (.int .i64 a0_5) ∧ w28.cell? ⟨gb1073, 6, none⟩ = some (.slice (some ad1076) l0_6.length c0_6) ∧ w28.cell? (ad1076.add ((ji18)).toNat) = some (.int .i64 (rd l0_6 (ji18))) := hS_
              obtain ⟨Ao29, co29, eo29⟩ := Kd.S_slice HO1079.out
              (first | subst eo29 | (injection eo29 with f1_ f2_ f3_; have f4_ := f1_.symm; have f5_ := f3_.symm; clear f1_ f2_ f3_; subst f4_; subst f5_))
              obtain ⟨Ao36, co36, eo36⟩ := Kd.R_slice HO1087.out
              (first | subst eo36 | (injection eo36 with f1_ f2_ f3_; have f4_ := f1_.symm; have f5_ := f3_.symm; clear f1_ f2_ f3_; subst f4_; subst f5_))
              refine norm_ (a' := ?_) ?_ ?_
              rotate_left
              · simp only [putAll, Act.put, List.setIfInBounds_toArray, List.set_cons_zero, List.set_cons_succ]
                rfl
              refine one_ (i := 9) (N := none) #[true, true, true, true, true, true, true, true, true, true] rfl rfl (one_of HT_.out (by kernel_rfl)) (by decide) (fun K hK => ?_)
              have hs30 : w28.cell? ⟨gb1088, 0, none⟩ = some (.slice none 0 0) := (blk_cell BK1088.out 0).trans rfl
              have hfs30 := blk_frozen BK1088.out 0
              have hns30_0 := NB1073_1088.out
              have hns30_1 := NB1074_1088.out
              have hms30_0 := NB1088_1073.out
              have hms30_1 := NB1088_1074.out
              have hs31 : w28.cell? ⟨gb1088, 1, none⟩ = some (.int .i64 0) := (blk_cell BK1088.out 1).trans rfl
              have hfs31 := blk_frozen BK1088.out 1
              have hns31_0 := NB1073_1088.out
              have hns31_1 := NB1074_1088.out
              have hms31_0 := NB1088_1073.out
              have hms31_1 := NB1088_1074.out
              have hs32 : w28.cell? ⟨gb1088, 2, none⟩ = some (.int .i64 0) := (blk_cell BK1088.out 2).trans rfl
              have hfs32 := blk_frozen BK1088.out 2
              have hns32_0 := NB1073_1088.out
              have hns32_1 := NB1074_1088.out
              have hms32_0 := NB1088_1073.out
              have hms32_1 := NB1088_1074.out
              have hs33 : w28.cell? ⟨gb1088, 3, none⟩ = some (.int .i64 0) := (blk_cell BK1088.out 3).trans rfl
              have hfs33 := blk_frozen BK1088.out 3
              have hns33_0 := NB1073_1088.out
              have hns33_1 := NB1074_1088.out
              have hms33_0 := NB1088_1073.out
              have hms33_1 := NB1088_1074.out
              have hs34 : w28.cell? ⟨gb1088, 4, none⟩ = some (.int .i64 0) := (blk_cell BK1088.out 4).trans rfl
              have hfs34 := blk_frozen BK1088.out 4
              have hns34_0 := NB1073_1088.out
              have hns34_1 := NB1074_1088.out
              have hms34_0 := NB1088_1073.out
              have hms34_1 := NB1088_1074.out
              have hs35 : w28.cell? ⟨gb1088, 5, none⟩ = some (.int .i64 0) := (blk_cell BK1088.out 5).trans rfl
              have hfs35 := blk_frozen BK1088.out 5
              have hns35_0 := NB1073_1088.out
              have hns35_1 := NB1074_1088.out
              have hms35_0 := NB1088_1073.out
              have hms35_1 := NB1088_1074.out
              have hs37 : w28.cell? ⟨gb1088, 6, none⟩ = some (.slice none 0 0) := (blk_cell BK1088.out 6).trans rfl
              have hfs37 := blk_frozen BK1088.out 6
              have hns37_0 := NB1073_1088.out
              have hns37_1 := NB1074_1088.out
              have hms37_0 := NB1088_1073.out
              have hms37_1 := NB1088_1074.out
              refine skip_ (w1 := ?_) (by rfl) rfl ?_ ?_
              rotate_left
              · go_simp
                rfl
              refine hK.out _ _ ⟨((cell_far (p := ⟨gb1088, _, none⟩) NB1073_1088.out _).trans (((cell_far (p := ⟨gb1088, _, none⟩) NB1073_1088.out _).trans (((cell_far (p := ⟨gb1088, _, none⟩) NB1073_1088.out _).trans (((cell_far (p := ⟨gb1088, _, none⟩) NB1073_1088.out _).trans (((cell_far (p := ⟨gb1088, _, none⟩) NB1073_1088.out _).trans (((cell_far (p := ⟨gb1088, _, none⟩) NB1073_1088.out _).trans (((cell_far (p := ⟨gb1088, _, none⟩) NB1073_1088.out _).trans (hHeld.1)))))))))))))), ((cell_far (p := ⟨gb1088, _, none⟩) NB1073_1088.out _).trans (((cell_far (p := ⟨gb1088, _, none⟩) NB1073_1088.out _).trans (((cell_far (p := ⟨gb1088, _, none⟩) NB1073_1088.out _).trans (((cell_far (p := ⟨gb1088, _, none⟩) NB1073_1088.out _).trans (((cell_far (p := ⟨gb1088, _, none⟩) NB1073_1088.out _).trans (((cell_far (p := ⟨gb1088, _, none⟩) NB1073_1088.out _).trans (((cell_far (p := ⟨gb1088, _, none⟩) NB1073_1088.out _).trans (hHeld.2.1)))))))))))))), ((cell_far (p := ⟨gb1088, _, none⟩) NB1073_1088.out _).trans (((cell_far (p := ⟨gb1088, _, none⟩) NB1073_1088.out _).trans (((cell_far (p := ⟨gb1088, _, none⟩) NB1073_1088.out _).trans (((cell_far (p := ⟨gb1088, _, none⟩) NB1073_1088.out _).trans (((cell_far (p := ⟨gb1088, _, none⟩) NB1073_1088.out _).trans (((cell_far (p := ⟨gb1088, _, none⟩) NB1073_1088.out _).trans (((cell_far (p := ⟨gb1088, _, none⟩) NB1073_1088.out _).trans (hHeld.2.2.1)))))))))))))), ((cell_far (p := ⟨gb1088, _, none⟩) NB1073_1088.out _).trans (((cell_far (p := ⟨gb1088, _, none⟩) NB1073_1088.out _).trans (((cell_far (p := ⟨gb1088, _, none⟩) NB1073_1088.out _).trans (((cell_far (p := ⟨gb1088, _, none⟩) NB1073_1088.out _).trans (((cell_far (p := ⟨gb1088, _, none⟩) NB1073_1088.out _).trans (((cell_far (p := ⟨gb1088, _, none⟩) NB1073_1088.out _).trans (((cell_far (p := ⟨gb1088, _, none⟩) NB1073_1088.out _).trans (hHeld.2.2.2.1)))))))))))))), ((cell_far (p := ⟨gb1088, _, none⟩) NB1073_1088.out _).trans (((cell_far (p := ⟨gb1088, _, none⟩) NB1073_1088.out _).trans (((cell_far (p := ⟨gb1088, _, none⟩) NB1073_1088.out _).trans (((cell_far (p := ⟨gb1088, _, none⟩) NB1073_1088.out _).trans (((cell_far (p := ⟨gb1088, _, none⟩) NB1073_1088.out _).trans (((cell_far (p := ⟨gb1088, _, none⟩) NB1073_1088.out _).trans (((cell_far (p := ⟨gb1088, _, none⟩) NB1073_1088.out _).trans (hHeld.2.2.2.2.1)))))))))))))), ((cell_far (p := ⟨gb1088, _, none⟩) NB1073_1088.out _).trans (((cell_far (p := ⟨gb1088, _, none⟩) NB1073_1088.out _).trans (((cell_far (p := ⟨gb1088, _, none⟩) NB1073_1088.out _).trans (((cell_far (p := ⟨gb1088, _, none⟩) NB1073_1088.out _).trans (((cell_far (p := ⟨gb1088, _, none⟩) NB1073_1088.out _).trans (((cell_far (p := ⟨gb1088, _, none⟩) NB1073_1088.out _).trans (((cell_far (p := ⟨gb1088, _, none⟩) NB1073_1088.out _).trans (hHeld.2.2.2.2.2.1)))))))))))))), ((cell_far (p := ⟨gb1088, _, none⟩) NB1073_1088.out _).trans (((cell_far (p := ⟨gb1088, _, none⟩) NB1073_1088.out _).trans (((cell_far (p := ⟨gb1088, _, none⟩) NB1073_1088.out _).trans (((cell_far (p := ⟨gb1088, _, none⟩) NB1073_1088.out _).trans (((cell_far (p := ⟨gb1088, _, none⟩) NB1073_1088.out _).trans (((cell_far (p := ⟨gb1088, _, none⟩) NB1073_1088.out _).trans (((cell_far (p := ⟨gb1088, _, none⟩) NB1073_1088.out _).trans (hHeld.2.2.2.2.2.2.1)))))))))))))), ((cell_far (p := ⟨gb1088, _, none⟩) (by first | exact Nat.ne_of_lt (Nat.lt_of_lt_of_le (by have := World.block_lt_of_cell? _ _ hw1076_0; first | rwa [add_block] at this | exact this) GW1088.out) | (rw [add_block]; exact Nat.ne_of_lt (Nat.lt_of_lt_of_le (by have := World.block_lt_of_cell? _ _ hw1076_0; first | rwa [add_block] at this | exact this) GW1088.out)) | (show (Addr.add _ _).block ≠ _; rw [add_block]; exact Nat.ne_of_lt (Nat.lt_of_lt_of_le (by have := World.block_lt_of_cell? _ _ hw1076_0; first | rwa [add_block] at this | exact this) GW1088.out)) | (dsimp only; exact Nat.ne_of_lt (Nat.lt_of_lt_of_le (by have := World.block_lt_of_cell? _ _ hw1076_0; first | rwa [add_block] at this | exact this) GW1088.out))) _).trans (((cell_far (p := ⟨gb1088, _, none⟩) (by first | exact Nat.ne_of_lt (Nat.lt_of_lt_of_le (by have := World.block_lt_of_cell? _ _ hw1076_0; first | rwa [add_block] at this | exact this) GW1088.out) | (rw [add_block]; exact Nat.ne_of_lt (Nat.lt_of_lt_of_le (by have := World.block_lt_of_cell? _ _ hw1076_0; first | rwa [add_block] at this | exact this) GW1088.out)) | (show (Addr.add _ _).block ≠ _; rw [add_block]; exact Nat.ne_of_lt (Nat.lt_of_lt_of_le (by have := World.block_lt_of_cell? _ _ hw1076_0; first | rwa [add_block] at this | exact this) GW1088.out)) | (dsimp only; exact Nat.ne_of_lt (Nat.lt_of_lt_of_le (by have := World.block_lt_of_cell? _ _ hw1076_0; first | rwa [add_block] at this | exact this) GW1088.out))) _).trans (((cell_far (p := ⟨gb1088, _, none⟩) (by first | exact Nat.ne_of_lt (Nat.lt_of_lt_of_le (by have := World.block_lt_of_cell? _ _ hw1076_0; first | rwa [add_block] at this | exact this) GW1088.out) | (rw [add_block]; exact Nat.ne_of_lt (Nat.lt_of_lt_of_le (by have := World.block_lt_of_cell? _ _ hw1076_0; first | rwa [add_block] at this | exact this) GW1088.out)) | (show (Addr.add _ _).block ≠ _; rw [add_block]; exact Nat.ne_of_lt (Nat.lt_of_lt_of_le (by have := World.block_lt_of_cell? _ _ hw1076_0; first | rwa [add_block] at this | exact this) GW1088.out)) | (dsimp only; exact Nat.ne_of_lt (Nat.lt_of_lt_of_le (by have := World.block_lt_of_cell? _ _ hw1076_0; first | rwa [add_block] at this | exact this) GW1088.out))) _).trans (((cell_far (p := ⟨gb1088, _, none⟩) (by first | exact Nat.ne_of_lt (Nat.lt_of_lt_of_le (by have := World.block_lt_of_cell? _ _ hw1076_0; first | rwa [add_block] at this | exact this) GW1088.out) | (rw [add_block]; exact Nat.ne_of_lt (Nat.lt_of_lt_of_le (by have := World.block_lt_of_cell? _ _ hw1076_0; first | rwa [add_block] at this | exact this) GW1088.out)) | (show (Addr.add _ _).block ≠ _; rw [add_block]; exact Nat.ne_of_lt (Nat.lt_of_lt_of_le (by have := World.block_lt_of_cell? _ _ hw1076_0; first | rwa [add_block] at this | exact this) GW1088.out)) | (dsimp only; exact Nat.ne_of_lt (Nat.lt_of_lt_of_le (by have := World.block_lt_of_cell? _ _ hw1076_0; first | rwa [add_block] at this | exact this) GW1088.out))) _).trans (((cell_far (p := ⟨gb1088, _, none⟩) (by first | exact Nat.ne_of_lt (Nat.lt_of_lt_of_le (by have := World.block_lt_of_cell? _ _ hw1076_0; first | rwa [add_block] at this | exact this) GW1088.out) | (rw [add_block]; exact Nat.ne_of_lt (Nat.lt_of_lt_of_le (by have := World.block_lt_of_cell? _ _ hw1076_0; first | rwa [add_block] at this | exact this) GW1088.out)) | (show (Addr.add _ _).block ≠ _; rw [add_block]; exact Nat.ne_of_lt (Nat.lt_of_lt_of_le (by have := World.block_lt_of_cell? _ _ hw1076_0; first | rwa [add_block] at this | exact this) GW1088.out)) | (dsimp only; exact Nat.ne_of_lt (Nat.lt_of_lt_of_le (by have := World.block_lt_of_cell? _ _ hw1076_0; first | rwa [add_block] at this | exact this) GW1088.out))) _).trans (((cell_far (p := ⟨gb1088, _, none⟩) (by first | exact Nat.ne_of_lt (Nat.lt_of_lt_of_le (by have := World.block_lt_of_cell? _ _ hw1076_0; first | rwa [add_block] at this | exact this) GW1088.out) | (rw [add_block]; exact Nat.ne_of_lt (Nat.lt_of_lt_of_le (by have := World.block_lt_of_cell? _ _ hw1076_0; first | rwa [add_block] at this | exact this) GW1088.out)) | (show (Addr.add _ _).block ≠ _; rw [add_block]; exact Nat.ne_of_lt (Nat.lt_of_lt_of_le (by have := World.block_lt_of_cell? _ _ hw1076_0; first | rwa [add_block] at this | exact this) GW1088.out)) | (dsimp only; exact Nat.ne_of_lt (Nat.lt_of_lt_of_le (by have := World.block_lt_of_cell? _ _ hw1076_0; first | rwa [add_block] at this | exact this) GW1088.out))) _).trans (((cell_far (p := ⟨gb1088, _, none⟩) (by first | exact Nat.ne_of_lt (Nat.lt_of_lt_of_le (by have := World.block_lt_of_cell? _ _ hw1076_0; first | rwa [add_block] at this | exact this) GW1088.out) | (rw [add_block]; exact Nat.ne_of_lt (Nat.lt_of_lt_of_le (by have := World.block_lt_of_cell? _ _ hw1076_0; first | rwa [add_block] at this | exact this) GW1088.out)) | (show (Addr.add _ _).block ≠ _; rw [add_block]; exact Nat.ne_of_lt (Nat.lt_of_lt_of_le (by have := World.block_lt_of_cell? _ _ hw1076_0; first | rwa [add_block] at this | exact this) GW1088.out)) | (dsimp only; exact Nat.ne_of_lt (Nat.lt_of_lt_of_le (by have := World.block_lt_of_cell? _ _ hw1076_0; first | rwa [add_block] at this | exact this) GW1088.out))) _).trans (hHeld.2.2.2.2.2.2.2))))))))))))))⟩ (fun hHeld => ?_)
              clear hK K
              refine done_ (done_of HT_.out (by kernel_rfl)) ?_
              have hnb38 := NB1073_1074.out
              have hnc38 := NB1074_1073.out
              have hnb39 := NB1073_1088.out
              have hnc39 := NB1088_1073.out
              have hcz40_0 : w28.cell? ⟨gb1073, 0, none⟩ = some (.slice A0_0 l0_0.length c0_0) := (blk_cell BK1073.out 0).trans rfl
              have hcz40_1 : w28.cell? ⟨gb1073, 1, none⟩ = some (.int .i64 a0_1) := (blk_cell BK1073.out 1).trans rfl
              have hcz40_2 : w28.cell? ⟨gb1073, 2, none⟩ = some (.int .i64 a0_2) := (blk_cell BK1073.out 2).trans rfl
              have hcz40_3 : w28.cell? ⟨gb1073, 3, none⟩ = some (.int .i64 a0_3) := (blk_cell BK1073.out 3).trans rfl
              have hcz40_4 : w28.cell? ⟨gb1073, 4, none⟩ = some (.int .i64 a0_4) := (blk_cell BK1073.out 4).trans rfl
              have hcz40_5 : w28.cell? ⟨gb1073, 5, none⟩ = some (.int .i64 a0_5) := (blk_cell BK1073.out 5).trans rfl
              have hcz40_6 : w28.cell? ⟨gb1073, 6, none⟩ = some (.slice (some ad1076) l0_6.length c0_6) := (blk_cell BK1073.out 6).trans rfl
              have hfz40_0 := blk_frozen BK1073.out 0
              have hfz40_1 := blk_frozen BK1073.out 1
              have hfz40_2 := blk_frozen BK1073.out 2
              have hfz40_3 := blk_frozen BK1073.out 3
              have hfz40_4 := blk_frozen BK1073.out 4
              have hfz40_5 := blk_frozen BK1073.out 5
              have hfz40_6 := blk_frozen BK1073.out 6
              obtain ⟨i041, hi041, _, hsz41, _⟩ := info_parts info3
              obtain ⟨hcut41, hA41, hC41⟩ := print_take_of (P := Try.prog) (Value.int .i64) 0 49 3 .i64 Try.underlying49 hi041 hsz41 (some ad1076) c0_6 l0_6 (ji18) (of_decide_eq_true (by first | (with_reducible assumption) | assumption)) (of_decide_eq_true (by first | (with_reducible assumption) | assumption)) HC0_6.out
              have HR1089 := Aside0.mk (Kd.C_of_reads (h1 := fun _ => rfl) (hA41 _ (Kd.reads_of_C HR0_6.out)))
              have HC1089 := Aside0.mk hC41
              clear hA41 hC41 hi041 hsz41
              try go_wp2_with (first | ((with_reducible refine gate_callee (f := 122) rfl ?_); refine goesL_ (some 30) rfl rfl Try.func122 (by kernel_rfl) rfl #[.slice (some ad1076) (l0_6.take ((ji18) : Int).toNat).length c0_6] rfl (by (try simp only [List.map_toArray, List.map_cons, List.map_nil]); first | done | (rw [show (l0_6.take ((ji18) : Int).toNat).length = (ji18).toNat from (by rw [List.length_take]; have h_ : ((ji18) : Int) ≤ (l0_6.length : Int) := of_decide_eq_true (by first | (with_reducible assumption) | assumption); omega)] <;> rfl) | (simp only [hji18]; rfl) | rfl | (simp only [List.length_drop, List.length_take]; rfl)) ?_; (with_reducible refine (spec_l1Own.calls _ _ (l0_6.take ((ji18) : Int).toNat) t1090 _ ?side1 ?side2 A24.out).mono ?_); (case side1 => exact Kd.C_below HR1089.out (by repeat (first | (with_reducible first | exact HB.out | apply below_alloc | apply pw_below_drewN | apply below_drew1 | refine below_set ?_ GE1073.out | refine below_set ?_ GE1074.out | refine below_set ?_ GE1088.out) | exact HB.out))); (case side2 => exact HC1089.out); rintro e w42 ⟨v1091, rfl, ho0, hb⟩; refine ⟨_, rfl, ?_⟩; have n0_ := Aside0.mk (Kd.S_below (by (with_reducible repeat (first | apply Kd.S_alloc | apply Kd.S_drewN | apply Kd.S_drew)); exact (Kd.S_mono (Kd.S_far (p := ⟨gb1088, 6, none⟩) (Kd.S_far (p := ⟨gb1088, 5, none⟩) (Kd.S_far (p := ⟨gb1088, 4, none⟩) (Kd.S_far (p := ⟨gb1088, 3, none⟩) (Kd.S_far (p := ⟨gb1088, 2, none⟩) (Kd.S_far (p := ⟨gb1088, 1, none⟩) (Kd.S_far (p := ⟨gb1088, 0, none⟩) (Kd.S_types HO1079.out BK1088.out (by decide)) (fun _ hk => hk.2) (.slice Ao29 t1077.length co29)) (fun _ hk => hk.2) (.int .i64 t1080)) (fun _ hk => hk.2) (.int .i64 t1081)) (fun _ hk => hk.2) (.int .i64 t1082)) (fun _ hk => hk.2) (.int .i64 t1083)) (fun _ hk => hk.2) (.int .i64 t1084)) (fun _ hk => hk.2) (.slice Ao36 t1085.length co36)) (fun _ h_ => h_.1))) hb); have n1_ := Aside0.mk (Kd.R_elder' (by (with_reducible repeat (first | apply Kd.R_alloc | apply Kd.R_drewN | apply Kd.R_drew)); exact (Kd.R_mono (Kd.R_far (p := ⟨gb1088, 6, none⟩) (Kd.R_far (p := ⟨gb1088, 5, none⟩) (Kd.R_far (p := ⟨gb1088, 4, none⟩) (Kd.R_far (p := ⟨gb1088, 3, none⟩) (Kd.R_far (p := ⟨gb1088, 2, none⟩) (Kd.R_far (p := ⟨gb1088, 1, none⟩) (Kd.R_far (p := ⟨gb1088, 0, none⟩) (Kd.R_types HO1087.out BK1088.out (by decide)) (fun _ hk => hk.2) (.slice Ao29 t1077.length co29)) (fun _ hk => hk.2) (.int .i64 t1080)) (fun _ hk => hk.2) (.int .i64 t1081)) (fun _ hk => hk.2) (.int .i64 t1082)) (fun _ hk => hk.2) (.int .i64 t1083)) (fun _ hk => hk.2) (.int .i64 t1084)) (fun _ hk => hk.2) (.slice Ao36 t1085.length co36)) (fun _ h_ => h_.1))) (Kd.R_base ho0) hb); have n2_ := Aside0.mk (Kd.R_lower (Kd.R_new' ho0 (Kd.R_lt (by (with_reducible repeat (first | apply Kd.R_alloc | apply Kd.R_drewN | apply Kd.R_drew)); exact (Kd.R_mono (Kd.R_far (p := ⟨gb1088, 6, none⟩) (Kd.R_far (p := ⟨gb1088, 5, none⟩) (Kd.R_far (p := ⟨gb1088, 4, none⟩) (Kd.R_far (p := ⟨gb1088, 3, none⟩) (Kd.R_far (p := ⟨gb1088, 2, none⟩) (Kd.R_far (p := ⟨gb1088, 1, none⟩) (Kd.R_far (p := ⟨gb1088, 0, none⟩) (Kd.R_types HO1087.out BK1088.out (by decide)) (fun _ hk => hk.2) (.slice Ao29 t1077.length co29)) (fun _ hk => hk.2) (.int .i64 t1080)) (fun _ hk => hk.2) (.int .i64 t1081)) (fun _ hk => hk.2) (.int .i64 t1082)) (fun _ hk => hk.2) (.int .i64 t1083)) (fun _ hk => hk.2) (.int .i64 t1084)) (fun _ hk => hk.2) (.slice Ao36 t1085.length co36)) (fun _ h_ => h_.1))))) (below_size (by repeat (first | (with_reducible first | exact HB.out | apply below_alloc | apply pw_below_drewN | apply below_drew1 | refine below_set ?_ GE1073.out | refine below_set ?_ GE1074.out | refine below_set ?_ GE1088.out) | exact HB.out)))); have n3_ := Aside0.mk (blk_below (g := gb1073) (o := .cells #[.slice A0_0 l0_0.length c0_0, .int .i64 a0_1, .int .i64 a0_2, .int .i64 a0_3, .int .i64 a0_4, .int .i64 a0_5, .slice (some ad1076) l0_6.length c0_6] 51 (0, 0)) (by (with_reducible repeat (first | refine blk_drewN ?_ _ | refine blk_drew ?_ | refine blk_alloc ?_ _)); refine blk_far ?_ NB1073_1088.out _; (with_reducible repeat (first | refine blk_drewN ?_ _ | refine blk_drew ?_ | refine blk_alloc ?_ _)); refine blk_far ?_ NB1073_1088.out _; (with_reducible repeat (first | refine blk_drewN ?_ _ | refine blk_drew ?_ | refine blk_alloc ?_ _)); refine blk_far ?_ NB1073_1088.out _; (with_reducible repeat (first | refine blk_drewN ?_ _ | refine blk_drew ?_ | refine blk_alloc ?_ _)); refine blk_far ?_ NB1073_1088.out _; (with_reducible repeat (first | refine blk_drewN ?_ _ | refine blk_drew ?_ | refine blk_alloc ?_ _)); refine blk_far ?_ NB1073_1088.out _; (with_reducible repeat (first | refine blk_drewN ?_ _ | refine blk_drew ?_ | refine blk_alloc ?_ _)); refine blk_far ?_ NB1073_1088.out _; (with_reducible repeat (first | refine blk_drewN ?_ _ | refine blk_drew ?_ | refine blk_alloc ?_ _)); refine blk_far ?_ NB1073_1088.out _; (with_reducible repeat (first | refine blk_drewN ?_ _ | refine blk_drew ?_ | refine blk_alloc ?_ _)); exact BK1073.out) hb); have n4_ := Aside0.mk (blk_below (g := gb1074) (o := .cells #[.slice none 0 0, .int .i64 0, .int .i64 0, .int .i64 0, .int .i64 0, .int .i64 0, .slice none 0 0] 51 (0, 0)) (by (with_reducible repeat (first | refine blk_drewN ?_ _ | refine blk_drew ?_ | refine blk_alloc ?_ _)); refine blk_far ?_ NB1074_1088.out _; (with_reducible repeat (first | refine blk_drewN ?_ _ | refine blk_drew ?_ | refine blk_alloc ?_ _)); refine blk_far ?_ NB1074_1088.out _; (with_reducible repeat (first | refine blk_drewN ?_ _ | refine blk_drew ?_ | refine blk_alloc ?_ _)); refine blk_far ?_ NB1074_1088.out _; (with_reducible repeat (first | refine blk_drewN ?_ _ | refine blk_drew ?_ | refine blk_alloc ?_ _)); refine blk_far ?_ NB1074_1088.out _; (with_reducible repeat (first | refine blk_drewN ?_ _ | refine blk_drew ?_ | refine blk_alloc ?_ _)); refine blk_far ?_ NB1074_1088.out _; (with_reducible repeat (first | refine blk_drewN ?_ _ | refine blk_drew ?_ | refine blk_alloc ?_ _)); refine blk_far ?_ NB1074_1088.out _; (with_reducible repeat (first | refine blk_drewN ?_ _ | refine blk_drew ?_ | refine blk_alloc ?_ _)); refine blk_far ?_ NB1074_1088.out _; (with_reducible repeat (first | refine blk_drewN ?_ _ | refine blk_drew ?_ | refine blk_alloc ?_ _)); exact BK1074.out) hb); have n5_ := Aside0.mk (blk_below (g := gb1088) (o := .cells #[.slice Ao29 t1077.length co29, .int .i64 t1080, .int .i64 t1081, .int .i64 t1082, .int .i64 t1083, .int .i64 t1084, .slice Ao36 t1085.length co36] 51 (0, 0)) (by (with_reducible repeat (first | refine blk_drewN ?_ _ | refine blk_drew ?_ | refine blk_alloc ?_ _)); refine blk_put (cs := #[.slice Ao29 t1077.length co29, .int .i64 t1080, .int .i64 t1081, .int .i64 t1082, .int .i64 t1083, .int .i64 t1084, .slice none 0 0]) ?_ 6 _ rfl; (with_reducible repeat (first | refine blk_drewN ?_ _ | refine blk_drew ?_ | refine blk_alloc ?_ _)); refine blk_put (cs := #[.slice Ao29 t1077.length co29, .int .i64 t1080, .int .i64 t1081, .int .i64 t1082, .int .i64 t1083, .int .i64 0, .slice none 0 0]) ?_ 5 _ rfl; (with_reducible repeat (first | refine blk_drewN ?_ _ | refine blk_drew ?_ | refine blk_alloc ?_ _)); refine blk_put (cs := #[.slice Ao29 t1077.length co29, .int .i64 t1080, .int .i64 t1081, .int .i64 t1082, .int .i64 0, .int .i64 0, .slice none 0 0]) ?_ 4 _ rfl; (with_reducible repeat (first | refine blk_drewN ?_ _ | refine blk_drew ?_ | refine blk_alloc ?_ _)); refine blk_put (cs := #[.slice Ao29 t1077.length co29, .int .i64 t1080, .int .i64 t1081, .int .i64 0, .int .i64 0, .int .i64 0, .slice none 0 0]) ?_ 3 _ rfl; (with_reducible repeat (first | refine blk_drewN ?_ _ | refine blk_drew ?_ | refine blk_alloc ?_ _)); refine blk_put (cs := #[.slice Ao29 t1077.length co29, .int .i64 t1080, .int .i64 0, .int .i64 0, .int .i64 0, .int .i64 0, .slice none 0 0]) ?_ 2 _ rfl; (with_reducible repeat (first | refine blk_drewN ?_ _ | refine blk_drew ?_ | refine blk_alloc ?_ _)); refine blk_put (cs := #[.slice Ao29 t1077.length co29, .int .i64 0, .int .i64 0, .int .i64 0, .int .i64 0, .int .i64 0, .slice none 0 0]) ?_ 1 _ rfl; (with_reducible repeat (first | refine blk_drewN ?_ _ | refine blk_drew ?_ | refine blk_alloc ?_ _)); refine blk_put (cs := #[.slice none 0 0, .int .i64 0, .int .i64 0, .int .i64 0, .int .i64 0, .int .i64 0, .slice none 0 0]) ?_ 0 _ rfl; (with_reducible repeat (first | refine blk_drewN ?_ _ | refine blk_drew ?_ | refine blk_alloc ?_ _)); exact BK1088.out) hb); have n6_ := Aside0.mk (below_step (by repeat (first | (with_reducible first | exact HB.out | apply below_alloc | apply pw_below_drewN | apply below_drew1 | refine below_set ?_ GE1073.out | refine below_set ?_ GE1074.out | refine below_set ?_ GE1088.out) | exact HB.out)) hb); clear HO1079; clear HO1087; clear BK1073; clear BK1074; clear BK1088; clear HB; have HO1079 := n0_; have HO1087 := n1_; have HO1092 := n2_; have BK1073 := n3_; have BK1074 := n4_; have BK1088 := n5_; have HB := n6_; clear n0_ n1_ n2_ n3_ n4_ n5_ n6_; (try clear hb); (try clear hb2); (try clear hk); (try clear hi); (try clear ho0); obtain ⟨Ao43, co43, eo43⟩ := Kd.R_slice HO1092.out; subst eo43; have hnb44 := NB1088_1074.out; have hnc44 := NB1074_1088.out; have hcz45_0 : w42.cell? ⟨gb1088, 0, none⟩ = some (.slice Ao29 t1077.length co29) := (blk_cell BK1088.out 0).trans rfl; have hcz45_1 : w42.cell? ⟨gb1088, 1, none⟩ = some (.int .i64 t1080) := (blk_cell BK1088.out 1).trans rfl; have hcz45_2 : w42.cell? ⟨gb1088, 2, none⟩ = some (.int .i64 t1081) := (blk_cell BK1088.out 2).trans rfl; have hcz45_3 : w42.cell? ⟨gb1088, 3, none⟩ = some (.int .i64 t1082) := (blk_cell BK1088.out 3).trans rfl; have hcz45_4 : w42.cell? ⟨gb1088, 4, none⟩ = some (.int .i64 t1083) := (blk_cell BK1088.out 4).trans rfl; have hcz45_5 : w42.cell? ⟨gb1088, 5, none⟩ = some (.int .i64 t1084) := (blk_cell BK1088.out 5).trans rfl; have hcz45_6 : w42.cell? ⟨gb1088, 6, none⟩ = some (.slice Ao36 t1085.length co36) := (blk_cell BK1088.out 6).trans rfl; have hfz45_0 := blk_frozen BK1088.out 0; have hfz45_1 := blk_frozen BK1088.out 1; have hfz45_2 := blk_frozen BK1088.out 2; have hfz45_3 := blk_frozen BK1088.out 3; have hfz45_4 := blk_frozen BK1088.out 4; have hfz45_5 := blk_frozen BK1088.out 5; have hfz45_6 := blk_frozen BK1088.out 6; have hcz46_0 : w42.cell? ⟨gb1074, 0, none⟩ = some (.slice none 0 0) := (blk_cell BK1074.out 0).trans rfl; have hcz46_1 : w42.cell? ⟨gb1074, 1, none⟩ = some (.int .i64 0) := (blk_cell BK1074.out 1).trans rfl; have hcz46_2 : w42.cell? ⟨gb1074, 2, none⟩ = some (.int .i64 0) := (blk_cell BK1074.out 2).trans rfl; have hcz46_3 : w42.cell? ⟨gb1074, 3, none⟩ = some (.int .i64 0) := (blk_cell BK1074.out 3).trans rfl; have hcz46_4 : w42.cell? ⟨gb1074, 4, none⟩ = some (.int .i64 0) := (blk_cell BK1074.out 4).trans rfl; have hcz46_5 : w42.cell? ⟨gb1074, 5, none⟩ = some (.int .i64 0) := (blk_cell BK1074.out 5).trans rfl; have hcz46_6 : w42.cell? ⟨gb1074, 6, none⟩ = some (.slice none 0 0) := (blk_cell BK1074.out 6).trans rfl; have hfz46_0 := blk_frozen BK1074.out 0; have hfz46_1 := blk_frozen BK1074.out 1; have hfz46_2 := blk_frozen BK1074.out 2; have hfz46_3 := blk_frozen BK1074.out 3; have hfz46_4 := blk_frozen BK1074.out 4; have hfz46_5 := blk_frozen BK1074.out 5; have hfz46_6 := blk_frozen BK1074.out 6))
              refine bodyPost_ret (results_ct rfl _ _ gb1074 51 #[.slice Ao29 t1077.length co29, .int .i64 t1080, .int .i64 t1081, .int .i64 t1082, .int .i64 t1083, .int .i64 t1084, .slice Ao43 t1090.length co43] (0, 0) _ rfl (by (with_reducible repeat (first | refine blk_drewN ?_ _ | refine blk_drew ?_ | refine blk_alloc ?_ _)); refine blk_put (cs := #[.slice Ao29 t1077.length co29, .int .i64 t1080, .int .i64 t1081, .int .i64 t1082, .int .i64 t1083, .int .i64 t1084, .slice none 0 0]) ?_ 6 _ rfl; (with_reducible repeat (first | refine blk_drewN ?_ _ | refine blk_drew ?_ | refine blk_alloc ?_ _)); refine blk_put (cs := #[.slice Ao29 t1077.length co29, .int .i64 t1080, .int .i64 t1081, .int .i64 t1082, .int .i64 t1083, .int .i64 0, .slice none 0 0]) ?_ 5 _ rfl; (with_reducible repeat (first | refine blk_drewN ?_ _ | refine blk_drew ?_ | refine blk_alloc ?_ _)); refine blk_put (cs := #[.slice Ao29 t1077.length co29, .int .i64 t1080, .int .i64 t1081, .int .i64 t1082, .int .i64 0, .int .i64 0, .slice none 0 0]) ?_ 4 _ rfl; (with_reducible repeat (first | refine blk_drewN ?_ _ | refine blk_drew ?_ | refine blk_alloc ?_ _)); refine blk_put (cs := #[.slice Ao29 t1077.length co29, .int .i64 t1080, .int .i64 t1081, .int .i64 0, .int .i64 0, .int .i64 0, .slice none 0 0]) ?_ 3 _ rfl; (with_reducible repeat (first | refine blk_drewN ?_ _ | refine blk_drew ?_ | refine blk_alloc ?_ _)); refine blk_put (cs := #[.slice Ao29 t1077.length co29, .int .i64 t1080, .int .i64 0, .int .i64 0, .int .i64 0, .int .i64 0, .slice none 0 0]) ?_ 2 _ rfl; (with_reducible repeat (first | refine blk_drewN ?_ _ | refine blk_drew ?_ | refine blk_alloc ?_ _)); refine blk_put (cs := #[.slice Ao29 t1077.length co29, .int .i64 0, .int .i64 0, .int .i64 0, .int .i64 0, .int .i64 0, .slice none 0 0]) ?_ 1 _ rfl; (with_reducible repeat (first | refine blk_drewN ?_ _ | refine blk_drew ?_ | refine blk_alloc ?_ _)); refine blk_put (cs := #[.slice none 0 0, .int .i64 0, .int .i64 0, .int .i64 0, .int .i64 0, .int .i64 0, .slice none 0 0]) ?_ 0 _ rfl; (with_reducible repeat (first | refine blk_drewN ?_ _ | refine blk_drew ?_ | refine blk_alloc ?_ _)); refine blk_far ?_ NB1074_1088.out _; (with_reducible repeat (first | refine blk_drewN ?_ _ | refine blk_drew ?_ | refine blk_alloc ?_ _)); exact BK1074.out) Try.underlying51 rfl (by kernel_rfl)) rfl ?_
              exact ⟨_, _, by first | rfl | (simp [errW_none, errW_some] <;> rfl) | (simp only [← hji18]; first | rfl | (simp [errW_none, errW_some] <;> rfl)) | (simp [*, errW_none, errW_some] <;> rfl), by (with_reducible repeat (first | apply Kd.S_alloc | apply Kd.S_drewN | apply Kd.S_drew)); exact Kd.S_mono (Kd.S_far (p := ⟨gb1074, 6, none⟩) (Kd.S_far (p := ⟨gb1074, 5, none⟩) (Kd.S_far (p := ⟨gb1074, 4, none⟩) (Kd.S_far (p := ⟨gb1074, 3, none⟩) (Kd.S_far (p := ⟨gb1074, 2, none⟩) (Kd.S_far (p := ⟨gb1074, 1, none⟩) (Kd.S_far (p := ⟨gb1074, 0, none⟩) (Kd.S_far (p := ⟨gb1088, 6, none⟩) (Kd.S_types (Kd.S_types HO1079.out BK1088.out (by decide)) BK1074.out (by decide)) (fun _ hk => hk.1.2) (.slice Ao43 t1090.length co43)) (fun _ hk => hk.2) (.slice Ao29 t1077.length co29)) (fun _ hk => hk.2) (.int .i64 t1080)) (fun _ hk => hk.2) (.int .i64 t1081)) (fun _ hk => hk.2) (.int .i64 t1082)) (fun _ hk => hk.2) (.int .i64 t1083)) (fun _ hk => hk.2) (.int .i64 t1084)) (fun _ hk => hk.2) (.slice Ao43 t1090.length co43)) (fun _ hk => trivial), by (with_reducible repeat (first | apply Kd.R_alloc | apply Kd.R_drewN | apply Kd.R_drew)); exact Kd.R_mono (Kd.R_far (p := ⟨gb1074, 6, none⟩) (Kd.R_far (p := ⟨gb1074, 5, none⟩) (Kd.R_far (p := ⟨gb1074, 4, none⟩) (Kd.R_far (p := ⟨gb1074, 3, none⟩) (Kd.R_far (p := ⟨gb1074, 2, none⟩) (Kd.R_far (p := ⟨gb1074, 1, none⟩) (Kd.R_far (p := ⟨gb1074, 0, none⟩) (Kd.R_far (p := ⟨gb1088, 6, none⟩) (Kd.R_types (Kd.R_types HO1092.out BK1088.out (by decide)) BK1074.out (by decide)) (fun _ hk => hk.1.2) (.slice Ao43 t1090.length co43)) (fun _ hk => hk.2) (.slice Ao29 t1077.length co29)) (fun _ hk => hk.2) (.int .i64 t1080)) (fun _ hk => hk.2) (.int .i64 t1081)) (fun _ hk => hk.2) (.int .i64 t1082)) (fun _ hk => hk.2) (.int .i64 t1083)) (fun _ hk => hk.2) (.int .i64 t1084)) (fun _ hk => hk.2) (.slice Ao43 t1090.length co43)) (fun _ hk => trivial), by repeat (first | (with_reducible first | exact HB.out | apply below_alloc | apply pw_below_drewN | apply below_drew1 | refine below_set ?_ GE1073.out | refine below_set ?_ GE1074.out | refine below_set ?_ GE1088.out) | exact HB.out)⟩
            · rw [if_neg c23] at H
              exact absurd H (by simp)
          · rw [if_neg c20] at H
            exact absurd H (by simp)
        · rw [if_neg c19] at H
          exact absurd H (by simp)

end Go.Proofs.Ytoomjghabiojkaa.P


/- ResetArena: what both sides come to. -/
namespace Go.Proofs.Ytoomjghabiojkaa.P
open Go.RowKit Go.Proofs.YtoomjghabiojkaaW.PrintWords Go.Proofs.YtoomjghabiojkaaW.Mine
set_option linter.unusedVariables false
def arReset (m : List (List Int)) (a s n c u : Int) (l : List Int) : List (List Int) × Int × Int × Int × Int × Int × List Int × Bool := if (arenaB m a s n c u l && decide (l.length ≠ 0)) = true then (m, a, s, n, c, rd l ((l.length : Int) - 1), l.take (l.length - 1), true) else ([], 0, 0, 0, 0, 0, [], false)
theorem arReset_ok (m : List (List Int)) (a s n c u : Int) (l : List Int) (h : okM m) (hl : l.length ≤ 1048576) : okM (arReset m a s n c u l).1 ∧ (arReset m a s n c u l).2.2.2.2.2.2.1.length ≤ 1048576 := by
  unfold arReset
  split
  next hh => exact ⟨h, by simp; omega⟩
  next => exact ⟨okM_nil, by simp⟩
theorem implResetArena_f (m : List (List Int)) (a s n c u : Int) (l : List Int) (h : okM m) (hl : l.length ≤ 1048576) : Ev (fun k => impl_ResetArena.f k m a s n c u l) (arReset m a s n c u l) := by
  refine Ev.bind (isArena_f m a s n c u l hl) ?_
  unfold arReset
  have hw : wrap64 ((l.length : Int) - 1) = (l.length : Int) - 1 := wrap_ok (by omega) (by omega)
  cases arenaB m a s n c u l
  · exact Ev.now _
  · simp only [if_true, Bool.true_and]
    by_cases h8 : l.length = 0
    · simp only [if_pos (show (l.length : Int) = 0 by omega), decide_eq_false (show ¬ (l.length ≠ 0) by omega), Bool.false_eq_true, if_false]
      exact Ev.now _
    · simp only [if_neg (show ¬ (l.length : Int) = 0 by omega), decide_eq_true h8, if_true]
      refine Ev.bind (arenaOwn_f m a s n c u l h hl) ?_
      simp only [hw]
      rw [if_pos (show (0 : Int) ≤ (l.length : Int) - 1 by omega), if_pos (show (l.length : Int) - 1 < (l.length : Int) by omega), if_pos (show (l.length : Int) - 1 ≤ (l.length : Int) by omega), show ((l.length : Int) - 1).toNat = l.length - 1 by omega]
      exact Ev.now _
theorem specResetArena_f (m : List (List Int)) (a s n c u : Int) (l : List Int) (h : okM m) (hs : -9223372036854775808 ≤ s ∧ s ≤ 9223372036854775807) (hl : l.length ≤ 1048576) : Ev (fun k => spec_ResetArena.f k m a s n c u l) (arReset m a s n c u l) := by
  refine Ev.bind (l8Arena_f m a s n c u l h hs hl) ?_
  unfold arReset
  have hw : wrap64 ((l.length : Int) - 1) = (l.length : Int) - 1 := wrap_ok (by omega) (by omega)
  have jf : Ev (fun k => spec_ResetArena.j0 k (l.length : Int) true m a s n c u l) ([], 0, 0, 0, 0, 0, [], false) := Ev.step (fun k => by simp [spec_ResetArena.j0]) (Ev.now _)
  cases arenaB m a s n c u l
  · simp only [Bool.false_eq_true, if_false, Bool.false_and]
    exact jf
  · simp only [if_true, Bool.true_and]
    by_cases h8 : l.length = 0
    · rw [show (((l.length : Int) == 0) = true) by simp [h8], decide_eq_false (by omega)]
      exact jf
    · rw [show (((l.length : Int) == 0) = false) by simp; intro e; subst e; simp at h8, decide_eq_true h8]
      refine Ev.step (f := fun k => (spec_l8Own.f k m a s n c u l (rd l ((l.length : Int) - 1))).bind fun bt => (spec_l1Own.f (l.take (l.length - 1))).bind fun t => some (bt.1, bt.2.1, bt.2.2.1, bt.2.2.2.1, bt.2.2.2.2.1, bt.2.2.2.2.2.1, t, true)) (fun k => ?_) ?_
      · simp only [spec_ResetArena.j0, hw]
        rw [if_neg (by simp), if_pos (by omega), if_pos (by omega), show ((l.length : Int) - 1).toNat = l.length - 1 by omega]
        congr 1
        funext bt
        rw [if_pos (by omega)]
      · refine Ev.bind (l8Own_f m a s n c u l _ h hl) ?_
        simp only [l1Own_f (l.take (l.length - 1)) (by simp; omega), Option.bind_some]
        exact Ev.now _
end Go.Proofs.Ytoomjghabiojkaa.P


/- From a row's reading of an argument to what the print's kinds say of it. -/
namespace Go.Proofs.YtoomjghabiojkaaW.Mine
open Go.RowKit Go.Proofs.YtoomjghabiojkaaW.PrintWords
set_option linter.unusedVariables false
def ReadsK {α : Type} (P : Program) (T : TypeId) (d : Kd α) (ok : α → Prop) : Prop :=
  ∀ {H : Type} {enc : TypeId × Value → H} {w : World} {base : Nat} {spare : Nat → Bool} {held : Bool} {fuel : Nat} {cs : List Value} {x : DataW H × List MemPlace}, DataW.trod enc P w base spare held fuel T cs = some x → ∃ a : α, d.K w a cs ∧ ok a
theorem ReadsK.int {P : Program} {T : TypeId} {k : IntKind} (hT : P.underlying T = some (.int k)) : ReadsK P T (Kd.int k) (fun n => (Lit.int k n).wf = true) := by
  intro H enc w base spare held fuel cs x h
  obtain ⟨n, rfl, _, hw⟩ := DataW.trod_int hT h
  exact ⟨n, rfl, hw⟩
theorem ReadsK.bool {P : Program} {T : TypeId} (hT : P.underlying T = some .bool) : ReadsK P T Kd.bool (fun _ => True) := by
  intro H enc w base spare held fuel cs x h
  obtain ⟨b, rfl, _⟩ := DataW.trod_bool hT h
  exact ⟨b, rfl, trivial⟩
theorem exists_list {α : Type} {n : Nat} {p : Nat → α → Prop} (h : ∀ i, i < n → ∃ a, p i a) : ∃ l : List α, l.length = n ∧ ∀ i a, l[i]? = some a → p i a := by
  induction n with
  | zero => exact ⟨[], rfl, fun i a hi => by simp at hi⟩
  | succ n ih =>
    obtain ⟨l, hl, hp⟩ := ih (fun i hi => h i (by omega))
    obtain ⟨a, ha⟩ := h n (by omega)
    refine ⟨l ++ [a], by simp [hl], fun i b hb => ?_⟩
    rcases Nat.lt_or_ge i n with hi | hi
    · rw [List.getElem?_append_left (by omega)] at hb
      exact hp i b hb
    · have hi2 : i = n := by
        have := (List.getElem?_eq_some_iff.1 hb).1
        simp [hl] at this
        omega
      subst hi2
      rw [← hl, List.getElem?_append_right (Nat.le_refl _)] at hb
      simp at hb
      rw [← hb]
      exact ha
theorem ReadsK.slice {α : Type} {P : Program} {T e : TypeId} {d : Kd α} {ok : α → Prop} (hT : P.underlying T = some (.slice e)) (hc : P.cellsOf e = d.sz) (h1 : ReadsK P e d ok) : ReadsK P T (Kd.slice e d) (fun xs => ∀ x ∈ xs, ok x) := by
  intro H enc w base spare held fuel cs x h
  rcases Deep.open_slice hT h with ⟨rfl, _⟩ | ⟨a, len, cap, m, n, D, Pl, rfl, hb, hl, hm, hmm, _, hx⟩
  · exact ⟨[], ⟨none, 0, rfl, Nat.le_refl _, rfl, by simp, fun h => absurd h (by simp)⟩, fun x hx => by simp at hx⟩
  · have hlm : len ≤ m := by rw [hmm]; split <;> omega
    obtain ⟨l, hll, hp⟩ := exists_list (n := len) (p := fun i y => ∃ cs', w.cells? base (a.add (i * P.cellsOf e)) (P.cellsOf e) = some cs' ∧ d.K w y cs' ∧ ok y) (fun i hi => by
      obtain ⟨cs', h2, h3⟩ := hx i (by omega)
      obtain ⟨y, hy, hok⟩ := h1 h3
      exact ⟨y, cs', h2, hy, hok⟩)
    refine ⟨l, ⟨some a, cap, by rw [hll], by omega, rfl, ?_, fun hn => ⟨a, rfl, fun j p hj => ?_⟩⟩, fun y hy => ?_⟩
    · rw [hll]; unfold maxLen at hm; omega
    · obtain ⟨cs', h2, h3, _⟩ := hp j p hj
      obtain ⟨_, hlen, hcell⟩ := World.cells?_some h2
      refine ⟨cs', by rw [hlen, hc], h3, fun i u hu => ?_⟩
      have hi : i < P.cellsOf e := by
        have := (List.getElem?_eq_some_iff.1 hu).1
        omega
      have h4 := hcell i hi
      rw [hu] at h4
      rw [← h4, ← hc]
      congr 1
      unfold Addr.add
      by_cases z1 : j * P.cellsOf e = 0 <;> by_cases z2 : i = 0 <;> simp [z1, z2, Nat.add_assoc]
    · obtain ⟨j, hj, rfl⟩ := List.mem_iff_getElem.1 hy
      obtain ⟨_, _, _, hok⟩ := hp j _ (List.getElem?_eq_getElem hj)
      exact hok
def ReadsF {α : Type} (P : Program) (o : Nat) (fs : List Field) (d : Kd α) (ok : α → Prop) : Prop :=
  ∀ {H : Type} {enc : TypeId × Value → H} {w : World} {base : Nat} {spare : Nat → Bool} {held : Bool} {n : Nat} {cs : List Value}, (∀ f ∈ fs, ∃ x, DataW.trod enc P w base spare held n f.type ((cs.drop f.offset).take (P.cellsOf f.type)) = some x) → ∃ a : α, d.K w a ((cs.drop o).take d.sz) ∧ ok a
theorem ReadsF.last {α : Type} {P : Program} {o : Nat} {f : Field} {d : Kd α} {ok : α → Prop} (ho : f.offset = o) (h : ReadsK P f.type d ok) (hc : P.cellsOf f.type = d.sz) : ReadsF P o [f] d ok := by
  intro H enc w base spare held n cs hh
  obtain ⟨x, hx⟩ := hh f (by simp)
  rw [ho, hc] at hx
  exact h hx
theorem ReadsF.cons {α β : Type} {P : Program} {o : Nat} {f : Field} {fs : List Field} {d : Kd α} {d2 : Kd β} {ok : α → Prop} {ok2 : β → Prop} (ho : f.offset = o) (h : ReadsK P f.type d ok) (hc : P.cellsOf f.type = d.sz) (h2 : ReadsF P (o + d.sz) fs d2 ok2) : ReadsF P o (f :: fs) (Kd.pair d d2) (fun p => ok p.1 ∧ ok2 p.2) := by
  intro H enc w base spare held n cs hh
  obtain ⟨x, hx⟩ := hh f (by simp)
  rw [ho, hc] at hx
  obtain ⟨a, ha, hok⟩ := h hx
  obtain ⟨b, hb, hok2⟩ := h2 (fun g hg => hh g (by simp [hg]))
  refine ⟨(a, b), ⟨_, _, ?_, ha, hb⟩, hok, hok2⟩
  show (cs.drop o).take (d.sz + d2.sz) = _
  rw [List.take_add, List.drop_drop]
theorem ReadsK.struct {α : Type} {P : Program} {T : TypeId} {fs : Array Field} {d : Kd α} {ok : α → Prop} (hT : P.underlying T = some (.struct fs)) (hc : P.cellsOf T = d.sz) (h : ReadsF P 0 fs.toList d ok) : ReadsK P T d ok := by
  intro H enc w base spare held fuel cs x hx
  obtain ⟨xs, n, _, _, hl, hlen, hf⟩ := DataW.trod_struct hT hx
  obtain ⟨a, ha, hok⟩ := h (n := n) (cs := cs) (enc := enc) (w := w) (base := base) (spare := spare) (held := held) (fun f hf2 => by
    obtain ⟨i, hi, rfl⟩ := List.mem_iff_getElem.1 hf2
    have h1 := hf i fs[i] (by simp at hi; exact Array.getElem?_eq_getElem hi)
    have hi2 : i < xs.length := by simp at hi; omega
    rw [List.getElem?_eq_getElem hi2] at h1
    exact ⟨_, by simpa using h1⟩)
  refine ⟨a, ?_, hok⟩
  rwa [List.drop_zero, ← hc, ← hl, List.take_length] at ha
theorem ReadsK.iso {α β : Type} {P : Program} {T : TypeId} {d : Kd α} {ok : α → Prop} (h : ReadsK P T d ok) (f : β → α) (g : α → β) (hfg : ∀ a, f (g a) = a) : ReadsK P T (Kd.iso d f) (fun b => ok (f b)) := by
  intro H enc w base spare held fuel cs x hx
  obtain ⟨a, ha, hok⟩ := h hx
  refine ⟨g a, ?_, by show ok (f (g a)); rw [hfg]; exact hok⟩
  show d.K w (f (g a)) cs
  rw [hfg]
  exact ha
theorem agg_of {cs : Array Value} {L : List Value} (h : cs.toList = L) : cs = L.toArray := by rw [← h]
end Go.Proofs.YtoomjghabiojkaaW.Mine


-- written by wip/gen_law.py
namespace Go.Proofs.Ytoomjghabiojkaa.P
open Go.RowKit Go.Proofs.YtoomjghabiojkaaW.PrintWords Go.Proofs.YtoomjghabiojkaaW.PrintLast Go.Proofs.YtoomjghabiojkaaW.PrintMore Go.Proofs.YtoomjghabiojkaaW.Mine
open List (setIfInBounds_toArray set_cons_zero set_cons_succ)
attribute [local go_sem] max2_int min2_int max_two min_two max_three min_three max_four min_four
set_option linter.unusedVariables false
set_option linter.unusedSimpArgs false
set_option maxHeartbeats 8000000 in
set_option maxRecDepth 100000 in
theorem FnExactResetArena_run0 (A0_0 : Option Addr) (c0_0 : Nat) (l0_0 : List (List Int)) (a0_1 : Int) (a0_2 : Int) (a0_3 : Int) (a0_4 : Int) (a0_5 : Int) (A0_6 : Option Addr) (c0_6 : Nat) (l0_6 : List Int) (r1_0 : Int) (w : World) (hr0_0 : Kd.C (Kd.slice 5 (Kd.int .u8)) w A0_0 l0_0.length l0_0) (hc0_0 : l0_0.length ≤ c0_0) (hr0_6 : Kd.C (Kd.int .i64) w A0_6 l0_6.length l0_6) (hc0_6 : l0_6.length ≤ c0_6) (H1 : ∃ k, laws_szArena.f k l0_0 a0_1 a0_2 a0_3 a0_4 a0_5 l0_6 1048576 = some r1_0) (P_ : r1_0 < 0) :
    Calls Try.prog 11 #[.agg #[.slice A0_0 l0_0.length c0_0, .int .i64 a0_1, .int .i64 a0_2, .int .i64 a0_3, .int .i64 a0_4, .int .i64 a0_5, .slice A0_6 l0_6.length c0_6]] w fun e w' => e = .returned (.bool true) ∧ Below w.heap.size w w' := by
  have HR0_0 := Aside0.mk hr0_0; have HC0_0 := Aside0.mk hc0_0; clear hr0_0 hc0_0
  have HR0_6 := Aside0.mk hr0_6; have HC0_6 := Aside0.mk hc0_6; clear hr0_6 hc0_6
  obtain ⟨k, H1_⟩ := H1; have H1 := Aside0.mk H1_; clear H1_
  have Pb_ : decide (r1_0 < 0) = true := decide_eq_true P_; clear P_
  have HS0 : Aside0 (Stk w [] w) := ⟨Stk.nil w⟩
  go_enter Try.func11, Try.ntmps11
  refine reg (aF := ?_) (nw := ?_) [evB 0 1 [] 90 (fun s => #[.slice A0_0 l0_0.length c0_0, .int .i64 a0_1, .int .i64 a0_2, .int .i64 a0_3, .int .i64 a0_4, .int .i64 a0_5, .slice A0_6 l0_6.length c0_6]) 9999 [] (fun s => #[.slice A0_0 l0_0.length c0_0, .int .i64 a0_1, .int .i64 a0_2, .int .i64 a0_3, .int .i64 a0_4, .int .i64 a0_5, .slice A0_6 l0_6.length c0_6]), evP 1 2 [] (fun s => .bool false)] [] [] false 2 rfl rfl (by kernel_rfl) rfl (mf0) ?aF ?nw HS0.out ?hs ?_
  rotate_left 2
  case aF => intro s; simp only [putE, EvT.val, Act.put, setIfInBounds_toArray, set_cons_zero, set_cons_succ]; rfl
  case nw => intro s; simp only [thA, bsA, List.nil_append, List.cons_append, List.append_nil, if_true, if_false, Nat.reduceLT, set_cons_zero, set_cons_succ]; rfl
  case hs => exact ⟨bv rfl (fun s w => by go_simp; try rfl), pu rfl, trivial⟩
  intro s1 w1 h; have HS1 := Aside0.mk h; clear h HS0
  refine tl0 ?_
  refine reg0 (aF := ?_) [] [0] false 1 rfl rfl (by kernel_rfl) rfl (fun _ => rfl) ?aF HS1.out ?hs ?_
  rotate_left 1
  case aF => intro s; simp only [putE, EvT.val, Act.put, setIfInBounds_toArray, set_cons_zero, set_cons_succ]; rfl
  case hs => exact trivial
  intro s2 w2 h; have HS2 := Aside0.mk h; clear h HS1
  refine tlP (v := .int .i64 1048576) 3 rfl ?_
  refine tl0 ?_
  refine reg0 (aF := ?_) [evL 0 14 [] (fun s => .agg #[.slice A0_0 l0_0.length c0_0, .int .i64 a0_1, .int .i64 a0_2, .int .i64 a0_3, .int .i64 a0_4, .int .i64 a0_5, .slice A0_6 l0_6.length c0_6]), evP 1 15 [] (fun s => .int .i64 1048576), evC 2 (some 16) [] (fun s x => .int .i64 r1_0) (fun s x => [])] [3] false 4 rfl rfl (by kernel_rfl) rfl (fun _ => rfl) ?aF HS2.out ?hs ?_
  rotate_left 1
  case aF => intro s; simp only [putE, EvT.val, Act.put, setIfInBounds_toArray, set_cons_zero, set_cons_succ]; rfl
  case hs => exact ⟨ld rfl 0 (fun s => rfl) (fun s w h => by have h0 := h 0 _ rfl; have h1 := h 1 _ rfl; have h2 := h 2 _ rfl; have h3 := h 3 _ rfl; have h4 := h 4 _ rfl; have h5 := h 5 _ rfl; have h6 := h 6 _ rfl; clear h; go_simp; try rfl), pu rfl, cl rfl (fun s => #[.agg #[.slice A0_0 l0_0.length c0_0, .int .i64 a0_1, .int .i64 a0_2, .int .i64 a0_3, .int .i64 a0_4, .int .i64 a0_5, .slice A0_6 l0_6.length c0_6], .int .i64 1048576]) Try.func55 (fun s w1 h => (laws_szArena.calls _ _ _ _ _ _ _ _ _ _ _ _ _ _ _ (Kd.C_below HR0_0.out h.hb) HC0_0.out (Kd.C_below HR0_6.out h.hb) HC0_6.out H1.out).mono (by rintro e w2 ⟨rfl, hb⟩; exact fin0 hb)), trivial⟩
  intro s3 w3 h; have HS3 := Aside0.mk h; clear h HS2
  refine tlP (v := .int .i64 r1_0) 3 rfl ?_
  refine tl0 ?_
  refine wp_seq ?_
  refine reg0 (aF := ?_) [evP 0 17 [] (fun s => .int .i64 r1_0), evP 1 18 [] (fun s => .bool true)] [] false 2 rfl rfl (by kernel_rfl) rfl (fun _ => rfl) ?aF HS3.out ?hs ?_
  rotate_left 1
  case aF => intro s; simp only [putE, EvT.val, Act.put, setIfInBounds_toArray, set_cons_zero, set_cons_succ]; rfl
  case hs => exact ⟨pu rfl, pb (q := .lss) Pb_ rfl, trivial⟩
  intro s4 w4 h; have HS4 := Aside0.mk h; clear h HS3
  refine tl0 ?_
  refine wp_cond_true rfl ?_
  refine reg0 (aF := ?_) [] [0] false 1 rfl rfl (by kernel_rfl) rfl (fun _ => rfl) ?aF HS4.out ?hs ?_
  rotate_left 1
  case aF => intro s; simp only [putE, EvT.val, Act.put, setIfInBounds_toArray, set_cons_zero, set_cons_succ]; rfl
  case hs => exact trivial
  intro s5 w5 h; have HS5 := Aside0.mk h; clear h HS4
  refine tlP (v := .bool true) 2 rfl ?_
  refine tl0 ?_
  refine wp_ret ?_
  go_ret
  exact ⟨by first | rfl | simp, HS5.out.hb⟩
set_option maxHeartbeats 8000000 in
set_option maxRecDepth 100000 in
theorem FnExactResetArena_run (A0_0 : Option Addr) (c0_0 : Nat) (l0_0 : List (List Int)) (a0_1 : Int) (a0_2 : Int) (a0_3 : Int) (a0_4 : Int) (a0_5 : Int) (A0_6 : Option Addr) (c0_6 : Nat) (l0_6 : List Int) (r1_0 : Int) (r2_0 : List (List Int)) (r2_1 : Int) (r2_2 : Int) (r2_3 : Int) (r2_4 : Int) (r2_5 : Int) (r2_6 : List Int) (r3_0 : List (List Int)) (r3_1 : Int) (r3_2 : Int) (r3_3 : Int) (r3_4 : Int) (r3_5 : Int) (r3_6 : List Int) (r3_7 : Bool) (r7_0 : Int) (r7_1 : List (List Int)) (r7_2 : List Int) (r8_0 : Int) (r8_1 : List (List Int)) (r8_2 : List Int) (w : World) (hr0_0 : Kd.C (Kd.slice 5 (Kd.int .u8)) w A0_0 l0_0.length l0_0) (hc0_0 : l0_0.length ≤ c0_0) (hr0_6 : Kd.C (Kd.int .i64) w A0_6 l0_6.length l0_6) (hc0_6 : l0_6.length ≤ c0_6) (H1 : ∃ k, laws_szArena.f k l0_0 a0_1 a0_2 a0_3 a0_4 a0_5 l0_6 1048576 = some r1_0) (H2 : ∃ k, laws_toArena.f k l0_0 a0_1 a0_2 a0_3 a0_4 a0_5 l0_6 = some (r2_0, r2_1, r2_2, r2_3, r2_4, r2_5, r2_6)) (H3 : ∃ k, spec_ResetArena.f k r2_0 r2_1 r2_2 r2_3 r2_4 r2_5 r2_6 = some (r3_0, r3_1, r3_2, r3_3, r3_4, r3_5, r3_6, r3_7)) (H4 : ∃ k, impl_ResetArena.f k r2_0 r2_1 r2_2 r2_3 r2_4 r2_5 r2_6 = some (r3_0, r3_1, r3_2, r3_3, r3_4, r3_5, r3_6, r3_7)) (H5 : ∃ k, laws_eqArena.f k r3_0 r3_1 r3_2 r3_3 r3_4 r3_5 r3_6 r3_0 r3_1 r3_2 r3_3 r3_4 r3_5 r3_6 = some true) (H6 : ∃ k, laws_eqArena.f k r2_0 r2_1 r2_2 r2_3 r2_4 r2_5 r2_6 r2_0 r2_1 r2_2 r2_3 r2_4 r2_5 r2_6 = some true) (H7 : laws_markArena.f r2_0 r2_6 1 = some (r7_0, r7_1, r7_2)) (H8 : laws_markArena.f r3_0 r3_6 1 = some (r8_0, r8_1, r8_2)) (H9 : ∃ k, laws_heldArena.f k r8_1 r3_1 r3_2 r3_3 r3_4 r3_5 r8_2 1 = some r8_0) (N_r1_0 : ¬ r1_0 < 0) (N_r7_0 : ¬ r7_0 < 0) (N_r8_0 : ¬ r8_0 < 0) :
    Calls Try.prog 11 #[.agg #[.slice A0_0 l0_0.length c0_0, .int .i64 a0_1, .int .i64 a0_2, .int .i64 a0_3, .int .i64 a0_4, .int .i64 a0_5, .slice A0_6 l0_6.length c0_6]] w fun e w' => e = .returned (.bool true) ∧ Below w.heap.size w w' := by
  have HR0_0 := Aside0.mk hr0_0; have HC0_0 := Aside0.mk hc0_0; clear hr0_0 hc0_0
  have HR0_6 := Aside0.mk hr0_6; have HC0_6 := Aside0.mk hc0_6; clear hr0_6 hc0_6
  obtain ⟨k, H1_⟩ := H1; have H1 := Aside0.mk H1_; clear H1_
  obtain ⟨k, H2_⟩ := H2; have H2 := Aside0.mk H2_; clear H2_
  obtain ⟨k, H3_⟩ := H3; have H3 := Aside0.mk H3_; clear H3_
  obtain ⟨k, H4_⟩ := H4; have H4 := Aside0.mk H4_; clear H4_
  obtain ⟨k, H5_⟩ := H5; have H5 := Aside0.mk H5_; clear H5_
  obtain ⟨k, H6_⟩ := H6; have H6 := Aside0.mk H6_; clear H6_
  have H7_ := Aside0.mk H7; clear H7; have H7 := H7_; clear H7_
  have H8_ := Aside0.mk H8; clear H8; have H8 := H8_; clear H8_
  obtain ⟨k, H9_⟩ := H9; have H9 := Aside0.mk H9_; clear H9_
  have Nb_r1_0 : decide (r1_0 < 0) = false := decide_eq_false N_r1_0; clear N_r1_0
  have Nb_r7_0 : decide (r7_0 < 0) = false := decide_eq_false N_r7_0; clear N_r7_0
  have Nb_r8_0 : decide (r8_0 < 0) = false := decide_eq_false N_r8_0; clear N_r8_0
  have HS0 : Aside0 (Stk w [] w) := ⟨Stk.nil w⟩
  go_enter Try.func11, Try.ntmps11
  refine reg (aF := ?_) (nw := ?_) [evB 0 1 [] 90 (fun s => #[.slice A0_0 l0_0.length c0_0, .int .i64 a0_1, .int .i64 a0_2, .int .i64 a0_3, .int .i64 a0_4, .int .i64 a0_5, .slice A0_6 l0_6.length c0_6]) 9999 [] (fun s => #[.slice A0_0 l0_0.length c0_0, .int .i64 a0_1, .int .i64 a0_2, .int .i64 a0_3, .int .i64 a0_4, .int .i64 a0_5, .slice A0_6 l0_6.length c0_6]), evP 1 2 [] (fun s => .bool false)] [] [] false 2 rfl rfl (by kernel_rfl) rfl (mf0) ?aF ?nw HS0.out ?hs ?_
  rotate_left 2
  case aF => intro s; simp only [putE, EvT.val, Act.put, setIfInBounds_toArray, set_cons_zero, set_cons_succ]; rfl
  case nw => intro s; simp only [thA, bsA, List.nil_append, List.cons_append, List.append_nil, if_true, if_false, Nat.reduceLT, set_cons_zero, set_cons_succ]; rfl
  case hs => exact ⟨bv rfl (fun s w => by go_simp; try rfl), pu rfl, trivial⟩
  intro s1 w1 h; have HS1 := Aside0.mk h; clear h HS0
  refine tl0 ?_
  refine reg0 (aF := ?_) [] [0] false 1 rfl rfl (by kernel_rfl) rfl (fun _ => rfl) ?aF HS1.out ?hs ?_
  rotate_left 1
  case aF => intro s; simp only [putE, EvT.val, Act.put, setIfInBounds_toArray, set_cons_zero, set_cons_succ]; rfl
  case hs => exact trivial
  intro s2 w2 h; have HS2 := Aside0.mk h; clear h HS1
  refine tlP (v := .int .i64 1048576) 3 rfl ?_
  refine tl0 ?_
  refine reg0 (aF := ?_) [evL 0 14 [] (fun s => .agg #[.slice A0_0 l0_0.length c0_0, .int .i64 a0_1, .int .i64 a0_2, .int .i64 a0_3, .int .i64 a0_4, .int .i64 a0_5, .slice A0_6 l0_6.length c0_6]), evP 1 15 [] (fun s => .int .i64 1048576), evC 2 (some 16) [] (fun s x => .int .i64 r1_0) (fun s x => [])] [3] false 4 rfl rfl (by kernel_rfl) rfl (fun _ => rfl) ?aF HS2.out ?hs ?_
  rotate_left 1
  case aF => intro s; simp only [putE, EvT.val, Act.put, setIfInBounds_toArray, set_cons_zero, set_cons_succ]; rfl
  case hs => exact ⟨ld rfl 0 (fun s => rfl) (fun s w h => by have h0 := h 0 _ rfl; have h1 := h 1 _ rfl; have h2 := h 2 _ rfl; have h3 := h 3 _ rfl; have h4 := h 4 _ rfl; have h5 := h 5 _ rfl; have h6 := h 6 _ rfl; clear h; go_simp; try rfl), pu rfl, cl rfl (fun s => #[.agg #[.slice A0_0 l0_0.length c0_0, .int .i64 a0_1, .int .i64 a0_2, .int .i64 a0_3, .int .i64 a0_4, .int .i64 a0_5, .slice A0_6 l0_6.length c0_6], .int .i64 1048576]) Try.func55 (fun s w1 h => (laws_szArena.calls _ _ _ _ _ _ _ _ _ _ _ _ _ _ _ (Kd.C_below HR0_0.out h.hb) HC0_0.out (Kd.C_below HR0_6.out h.hb) HC0_6.out H1.out).mono (by rintro e w2 ⟨rfl, hb⟩; exact fin0 hb)), trivial⟩
  intro s3 w3 h; have HS3 := Aside0.mk h; clear h HS2
  refine tlP (v := .int .i64 r1_0) 3 rfl ?_
  refine tl0 ?_
  refine wp_seq ?_
  refine reg0 (aF := ?_) [evP 0 17 [] (fun s => .int .i64 r1_0), evP 1 18 [] (fun s => .bool false)] [] false 2 rfl rfl (by kernel_rfl) rfl (fun _ => rfl) ?aF HS3.out ?hs ?_
  rotate_left 1
  case aF => intro s; simp only [putE, EvT.val, Act.put, setIfInBounds_toArray, set_cons_zero, set_cons_succ]; rfl
  case hs => exact ⟨pu rfl, pb (q := .lss) Nb_r1_0 rfl, trivial⟩
  intro s4 w4 h; have HS4 := Aside0.mk h; clear h HS3
  refine tl0 ?_
  refine wp_cond_false rfl ?_
  refine wp_skip ?_
  refine thN ?_
  refine reg (aF := ?_) (nw := ?_) [evL 0 20 [] (fun s => .agg #[.slice A0_0 l0_0.length c0_0, .int .i64 a0_1, .int .i64 a0_2, .int .i64 a0_3, .int .i64 a0_4, .int .i64 a0_5, .slice A0_6 l0_6.length c0_6]), evC 1 (some 21) [] (fun s x => .agg #[.slice x.A r2_0.length x.c, .int .i64 r2_1, .int .i64 r2_2, .int .i64 r2_3, .int .i64 r2_4, .int .i64 r2_5, .slice x.B r2_6.length x.e]) (fun s x => [⟨x.lo, x.hi, fun w_ => Kd.S (Kd.slice 5 (Kd.int .u8)) 119 w_ w.heap.size (fun k_ => x.lo ≤ k_ ∧ k_ < x.hi) (.slice x.A r2_0.length x.c) r2_0 ∧ Kd.R (Kd.int .i64) 3 w_ w.heap.size (fun k_ => x.lo ≤ k_ ∧ k_ < x.hi) (.slice x.B r2_6.length x.e) r2_6⟩]), evC 2 (some 22) [1] (fun s x => .tuple #[.agg #[.slice x.A r3_0.length x.c, .int .i64 r3_1, .int .i64 r3_2, .int .i64 r3_3, .int .i64 r3_4, .int .i64 r3_5, .slice x.B r3_6.length x.e], .bool r3_7]) (fun s x => [⟨x.lo, x.hi, fun w_ => Kd.S (Kd.slice 5 (Kd.int .u8)) 119 w_ w.heap.size (fun k_ => x.lo ≤ k_ ∧ k_ < x.hi) (.slice x.A r3_0.length x.c) r3_0 ∧ Kd.R (Kd.int .i64) 3 w_ w.heap.size (fun k_ => x.lo ≤ k_ ∧ k_ < x.hi) (.slice x.B r3_6.length x.e) r3_6⟩]), evP 3 19 [2] (fun s => .tuple #[.agg #[.slice (s 2).A r3_0.length (s 2).c, .int .i64 r3_1, .int .i64 r3_2, .int .i64 r3_3, .int .i64 r3_4, .int .i64 r3_5, .slice (s 2).B r3_6.length (s 2).e], .bool r3_7]), evP 4 23 [2] (fun s => .agg #[.slice (s 2).A r3_0.length (s 2).c, .int .i64 r3_1, .int .i64 r3_2, .int .i64 r3_3, .int .i64 r3_4, .int .i64 r3_5, .slice (s 2).B r3_6.length (s 2).e]), evP 5 24 [] (fun s => .bool r3_7), evB 6 4 [] 51 (fun s => #[.slice none 0 0, .int .i64 0, .int .i64 0, .int .i64 0, .int .i64 0, .int .i64 0, .slice none 0 0]) 7 [2] (fun s => #[.slice (s 2).A r3_0.length (s 2).c, .int .i64 r3_1, .int .i64 r3_2, .int .i64 r3_3, .int .i64 r3_4, .int .i64 r3_5, .slice (s 2).B r3_6.length (s 2).e]), evS 7] [8] [] false 9 rfl rfl (by kernel_rfl) rfl (mf0) ?aF ?nw HS4.out ?hs ?_
  rotate_left 2
  case aF => intro s; simp only [putE, EvT.val, Act.put, setIfInBounds_toArray, set_cons_zero, set_cons_succ]; rfl
  case nw => intro s; simp only [thA, bsA, List.nil_append, List.cons_append, List.append_nil, if_true, if_false, Nat.reduceLT, set_cons_zero, set_cons_succ]; rfl
  case hs => exact ⟨ld rfl 0 (fun s => rfl) (fun s w h => by have h0 := h 0 _ rfl; have h1 := h 1 _ rfl; have h2 := h 2 _ rfl; have h3 := h 3 _ rfl; have h4 := h 4 _ rfl; have h5 := h 5 _ rfl; have h6 := h 6 _ rfl; clear h; go_simp; try rfl), cl rfl (fun s => #[.agg #[.slice A0_0 l0_0.length c0_0, .int .i64 a0_1, .int .i64 a0_2, .int .i64 a0_3, .int .i64 a0_4, .int .i64 a0_5, .slice A0_6 l0_6.length c0_6]]) Try.func57 (fun s w1 h => (laws_toArena.calls _ _ _ _ _ _ _ _ _ _ _ _ _ _ _ _ _ _ _ _ (Kd.C_below HR0_0.out h.hb) HC0_0.out (Kd.C_below HR0_6.out h.hb) HC0_6.out H2.out).mono (by rintro e w2 ⟨v0_, v6_, rfl, ho0, ho1, hb⟩; obtain ⟨A0, c0, rfl⟩ := Kd.S_slice ho0; obtain ⟨A1, c1, rfl⟩ := Kd.R_slice ho1; obtain ⟨lo, hi, hx⟩ := (Stk.nil w1).push hb (P := fun lo_ hi_ w_ => Kd.S (Kd.slice 5 (Kd.int .u8)) 119 w_ w.heap.size (fun k_ => lo_ ≤ k_ ∧ k_ < hi_) (.slice A0 r2_0.length c0) r2_0 ∧ Kd.R (Kd.int .i64) 3 w_ w.heap.size (fun k_ => lo_ ≤ k_ ∧ k_ < hi_) (.slice A1 r2_6.length c1) r2_6) (fun w_ ha => ⟨S_held ho0 h.hb.size ha, R_held ho1 h.hb.size ha⟩); exact ⟨⟨lo, hi, A0, c0, A1, c1, none, 0⟩, rfl, hx⟩)), cl rfl (fun s => #[.agg #[.slice (s 1).A r2_0.length (s 1).c, .int .i64 r2_1, .int .i64 r2_2, .int .i64 r2_3, .int .i64 r2_4, .int .i64 r2_5, .slice (s 1).B r2_6.length (s 1).e]]) Try.func59 (fun s w1 h => (spec_ResetArena.calls _ _ _ _ _ _ _ _ _ _ _ _ _ _ _ _ _ _ _ _ _ (Kd.S_reads' (h.get 0 rfl).1).2.2 (Kd.S_reads' (h.get 0 rfl).1).2.1 (Kd.R_reads' (h.get 0 rfl).2).2.2 (Kd.R_reads' (h.get 0 rfl).2).2.1 H3.out).mono (by rintro e w2 ⟨v0_, v6_, rfl, ho0, ho1, hb⟩; obtain ⟨A0, c0, rfl⟩ := Kd.S_slice ho0; obtain ⟨A1, c1, rfl⟩ := Kd.R_slice ho1; obtain ⟨lo, hi, hx⟩ := (Stk.nil w1).push hb (P := fun lo_ hi_ w_ => Kd.S (Kd.slice 5 (Kd.int .u8)) 119 w_ w.heap.size (fun k_ => lo_ ≤ k_ ∧ k_ < hi_) (.slice A0 r3_0.length c0) r3_0 ∧ Kd.R (Kd.int .i64) 3 w_ w.heap.size (fun k_ => lo_ ≤ k_ ∧ k_ < hi_) (.slice A1 r3_6.length c1) r3_6) (fun w_ ha => ⟨S_held ho0 h.hb.size ha, R_held ho1 h.hb.size ha⟩); exact ⟨⟨lo, hi, A0, c0, A1, c1, none, 0⟩, rfl, hx⟩)), pu rfl, pu rfl, pu rfl, bv rfl (fun s w => by go_simp; try rfl), st rfl 6 0 (fun s => [.slice (s 2).A r3_0.length (s 2).c, .int .i64 r3_1, .int .i64 r3_2, .int .i64 r3_3, .int .i64 r3_4, .int .i64 r3_5, .slice (s 2).B r3_6.length (s 2).e]) rfl (fun s w h hf => by have h0 := h 0 _ rfl; have f0 := hf 0; have h1 := h 1 _ rfl; have f1 := hf 1; have h2 := h 2 _ rfl; have f2 := hf 2; have h3 := h 3 _ rfl; have f3 := hf 3; have h4 := h 4 _ rfl; have f4 := hf 4; have h5 := h 5 _ rfl; have f5 := hf 5; have h6 := h 6 _ rfl; have f6 := hf 6; clear h hf; go_simp; try rfl), trivial⟩
  intro s5 w5 h; have HS5 := Aside0.mk h; clear h HS4
  refine tlP (v := .bool r3_7) 5 rfl ?_
  refine tl0 ?_
  refine reg (aF := ?_) (nw := ?_) [evL 0 25 [] (fun s => .agg #[.slice A0_0 l0_0.length c0_0, .int .i64 a0_1, .int .i64 a0_2, .int .i64 a0_3, .int .i64 a0_4, .int .i64 a0_5, .slice A0_6 l0_6.length c0_6]), evC 1 (some 26) [] (fun s x => .agg #[.slice x.A r2_0.length x.c, .int .i64 r2_1, .int .i64 r2_2, .int .i64 r2_3, .int .i64 r2_4, .int .i64 r2_5, .slice x.B r2_6.length x.e]) (fun s x => [⟨x.lo, x.hi, fun w_ => Kd.S (Kd.slice 5 (Kd.int .u8)) 119 w_ w.heap.size (fun k_ => x.lo ≤ k_ ∧ k_ < x.hi) (.slice x.A r2_0.length x.c) r2_0 ∧ Kd.R (Kd.int .i64) 3 w_ w.heap.size (fun k_ => x.lo ≤ k_ ∧ k_ < x.hi) (.slice x.B r2_6.length x.e) r2_6⟩]), evB 2 6 [] 51 (fun s => #[.slice none 0 0, .int .i64 0, .int .i64 0, .int .i64 0, .int .i64 0, .int .i64 0, .slice none 0 0]) 3 [1] (fun s => #[.slice (s 1).A r2_0.length (s 1).c, .int .i64 r2_1, .int .i64 r2_2, .int .i64 r2_3, .int .i64 r2_4, .int .i64 r2_5, .slice (s 1).B r2_6.length (s 1).e]), evS 3] [] [] false 4 rfl rfl (by kernel_rfl) rfl (mf0) ?aF ?nw HS5.out ?hs ?_
  rotate_left 2
  case aF => intro s; simp only [putE, EvT.val, Act.put, setIfInBounds_toArray, set_cons_zero, set_cons_succ]; rfl
  case nw => intro s; simp only [thA, bsA, List.nil_append, List.cons_append, List.append_nil, if_true, if_false, Nat.reduceLT, set_cons_zero, set_cons_succ]; rfl
  case hs => exact ⟨ld rfl 3 (fun s => rfl) (fun s w h => by have h0 := h 0 _ rfl; have h1 := h 1 _ rfl; have h2 := h 2 _ rfl; have h3 := h 3 _ rfl; have h4 := h 4 _ rfl; have h5 := h 5 _ rfl; have h6 := h 6 _ rfl; clear h; go_simp; try rfl), cl rfl (fun s => #[.agg #[.slice A0_0 l0_0.length c0_0, .int .i64 a0_1, .int .i64 a0_2, .int .i64 a0_3, .int .i64 a0_4, .int .i64 a0_5, .slice A0_6 l0_6.length c0_6]]) Try.func57 (fun s w1 h => (laws_toArena.calls _ _ _ _ _ _ _ _ _ _ _ _ _ _ _ _ _ _ _ _ (Kd.C_below HR0_0.out h.hb) HC0_0.out (Kd.C_below HR0_6.out h.hb) HC0_6.out H2.out).mono (by rintro e w2 ⟨v0_, v6_, rfl, ho0, ho1, hb⟩; obtain ⟨A0, c0, rfl⟩ := Kd.S_slice ho0; obtain ⟨A1, c1, rfl⟩ := Kd.R_slice ho1; obtain ⟨lo, hi, hx⟩ := (Stk.nil w1).push hb (P := fun lo_ hi_ w_ => Kd.S (Kd.slice 5 (Kd.int .u8)) 119 w_ w.heap.size (fun k_ => lo_ ≤ k_ ∧ k_ < hi_) (.slice A0 r2_0.length c0) r2_0 ∧ Kd.R (Kd.int .i64) 3 w_ w.heap.size (fun k_ => lo_ ≤ k_ ∧ k_ < hi_) (.slice A1 r2_6.length c1) r2_6) (fun w_ ha => ⟨S_held ho0 h.hb.size ha, R_held ho1 h.hb.size ha⟩); exact ⟨⟨lo, hi, A0, c0, A1, c1, none, 0⟩, rfl, hx⟩)), bv rfl (fun s w => by go_simp; try rfl), st rfl 2 0 (fun s => [.slice (s 1).A r2_0.length (s 1).c, .int .i64 r2_1, .int .i64 r2_2, .int .i64 r2_3, .int .i64 r2_4, .int .i64 r2_5, .slice (s 1).B r2_6.length (s 1).e]) rfl (fun s w h hf => by have h0 := h 0 _ rfl; have f0 := hf 0; have h1 := h 1 _ rfl; have f1 := hf 1; have h2 := h 2 _ rfl; have f2 := hf 2; have h3 := h 3 _ rfl; have f3 := hf 3; have h4 := h 4 _ rfl; have f4 := hf 4; have h5 := h 5 _ rfl; have f5 := hf 5; have h6 := h 6 _ rfl; have f6 := hf 6; clear h hf; go_simp; try rfl), trivial⟩
  intro s6 w6 h; have HS6 := Aside0.mk h; clear h HS5
  refine tl0 ?_
  refine reg (aF := ?_) (nw := ?_) [evL 0 28 [] (fun s => .agg #[.slice (s6 1).A r2_0.length (s6 1).c, .int .i64 r2_1, .int .i64 r2_2, .int .i64 r2_3, .int .i64 r2_4, .int .i64 r2_5, .slice (s6 1).B r2_6.length (s6 1).e]), evC 1 (some 29) [] (fun s x => .tuple #[.agg #[.slice x.A r3_0.length x.c, .int .i64 r3_1, .int .i64 r3_2, .int .i64 r3_3, .int .i64 r3_4, .int .i64 r3_5, .slice x.B r3_6.length x.e], .bool r3_7]) (fun s x => [⟨x.lo, x.hi, fun w_ => Kd.S (Kd.slice 5 (Kd.int .u8)) 119 w_ w.heap.size (fun k_ => x.lo ≤ k_ ∧ k_ < x.hi) (.slice x.A r3_0.length x.c) r3_0 ∧ Kd.R (Kd.int .i64) 3 w_ w.heap.size (fun k_ => x.lo ≤ k_ ∧ k_ < x.hi) (.slice x.B r3_6.length x.e) r3_6⟩]), evP 2 27 [1] (fun s => .tuple #[.agg #[.slice (s 1).A r3_0.length (s 1).c, .int .i64 r3_1, .int .i64 r3_2, .int .i64 r3_3, .int .i64 r3_4, .int .i64 r3_5, .slice (s 1).B r3_6.length (s 1).e], .bool r3_7]), evP 3 30 [1] (fun s => .agg #[.slice (s 1).A r3_0.length (s 1).c, .int .i64 r3_1, .int .i64 r3_2, .int .i64 r3_3, .int .i64 r3_4, .int .i64 r3_5, .slice (s 1).B r3_6.length (s 1).e]), evP 4 31 [] (fun s => .bool r3_7), evB 5 7 [] 51 (fun s => #[.slice none 0 0, .int .i64 0, .int .i64 0, .int .i64 0, .int .i64 0, .int .i64 0, .slice none 0 0]) 6 [1] (fun s => #[.slice (s 1).A r3_0.length (s 1).c, .int .i64 r3_1, .int .i64 r3_2, .int .i64 r3_3, .int .i64 r3_4, .int .i64 r3_5, .slice (s 1).B r3_6.length (s 1).e]), evS 6] [7] [] false 8 rfl rfl (by kernel_rfl) rfl (mf0) ?aF ?nw HS6.out ?hs ?_
  rotate_left 2
  case aF => intro s; simp only [putE, EvT.val, Act.put, setIfInBounds_toArray, set_cons_zero, set_cons_succ]; rfl
  case nw => intro s; simp only [thA, bsA, List.nil_append, List.cons_append, List.append_nil, if_true, if_false, Nat.reduceLT, set_cons_zero, set_cons_succ]; rfl
  case hs => exact ⟨ld rfl 1 (fun s => rfl) (fun s w h => by have h0 := h 0 _ rfl; have h1 := h 1 _ rfl; have h2 := h 2 _ rfl; have h3 := h 3 _ rfl; have h4 := h 4 _ rfl; have h5 := h 5 _ rfl; have h6 := h 6 _ rfl; clear h; go_simp; try rfl), cl rfl (fun s => #[.agg #[.slice (s6 1).A r2_0.length (s6 1).c, .int .i64 r2_1, .int .i64 r2_2, .int .i64 r2_3, .int .i64 r2_4, .int .i64 r2_5, .slice (s6 1).B r2_6.length (s6 1).e]]) Try.func60 (fun s w1 h => (impl_ResetArena.calls _ _ _ _ _ _ _ _ _ _ _ _ _ _ _ _ _ _ _ _ _ (Kd.S_reads' (h.get 0 rfl).1).2.2 (Kd.S_reads' (h.get 0 rfl).1).2.1 (Kd.R_reads' (h.get 0 rfl).2).2.2 (Kd.R_reads' (h.get 0 rfl).2).2.1 H4.out).mono (by rintro e w2 ⟨v0_, v6_, rfl, ho0, ho1, hb⟩; obtain ⟨A0, c0, rfl⟩ := Kd.S_slice ho0; obtain ⟨A1, c1, rfl⟩ := Kd.R_slice ho1; obtain ⟨lo, hi, hx⟩ := (Stk.nil w1).push hb (P := fun lo_ hi_ w_ => Kd.S (Kd.slice 5 (Kd.int .u8)) 119 w_ w.heap.size (fun k_ => lo_ ≤ k_ ∧ k_ < hi_) (.slice A0 r3_0.length c0) r3_0 ∧ Kd.R (Kd.int .i64) 3 w_ w.heap.size (fun k_ => lo_ ≤ k_ ∧ k_ < hi_) (.slice A1 r3_6.length c1) r3_6) (fun w_ ha => ⟨S_held ho0 h.hb.size ha, R_held ho1 h.hb.size ha⟩); exact ⟨⟨lo, hi, A0, c0, A1, c1, none, 0⟩, rfl, hx⟩)), pu rfl, pu rfl, pu rfl, bv rfl (fun s w => by go_simp; try rfl), st rfl 5 0 (fun s => [.slice (s 1).A r3_0.length (s 1).c, .int .i64 r3_1, .int .i64 r3_2, .int .i64 r3_3, .int .i64 r3_4, .int .i64 r3_5, .slice (s 1).B r3_6.length (s 1).e]) rfl (fun s w h hf => by have h0 := h 0 _ rfl; have f0 := hf 0; have h1 := h 1 _ rfl; have f1 := hf 1; have h2 := h 2 _ rfl; have f2 := hf 2; have h3 := h 3 _ rfl; have f3 := hf 3; have h4 := h 4 _ rfl; have f4 := hf 4; have h5 := h 5 _ rfl; have f5 := hf 5; have h6 := h 6 _ rfl; have f6 := hf 6; clear h hf; go_simp; try rfl), trivial⟩
  intro s7 w7 h; have HS7 := Aside0.mk h; clear h HS6
  refine tlP (v := .bool r3_7) 8 rfl ?_
  refine tl0 ?_
  refine wp_seq ?_
  refine reg0 (aF := ?_) [evL 0 32 [] (fun s => .agg #[.slice (s7 1).A r3_0.length (s7 1).c, .int .i64 r3_1, .int .i64 r3_2, .int .i64 r3_3, .int .i64 r3_4, .int .i64 r3_5, .slice (s7 1).B r3_6.length (s7 1).e]), evL 1 33 [] (fun s => .agg #[.slice (s5 2).A r3_0.length (s5 2).c, .int .i64 r3_1, .int .i64 r3_2, .int .i64 r3_3, .int .i64 r3_4, .int .i64 r3_5, .slice (s5 2).B r3_6.length (s5 2).e]), evC 2 (some 34) [] (fun s x => .bool true) (fun s x => []), evP 3 35 [] (fun s => .bool false), evP 4 36 [] (fun s => .bool false), evP 5 37 [] (fun s => .bool r3_7), evP 6 38 [] (fun s => .bool r3_7), evP 7 39 [] (fun s => .bool false), evP 8 40 [] (fun s => .bool false)] [] false 9 rfl rfl (by kernel_rfl) rfl (fun _ => rfl) ?aF HS7.out ?hs ?_
  rotate_left 1
  case aF => intro s; simp only [putE, EvT.val, Act.put, setIfInBounds_toArray, set_cons_zero, set_cons_succ]; rfl
  case hs => exact ⟨ld rfl 1 (fun s => rfl) (fun s w h => by have h0 := h 0 _ rfl; have h1 := h 1 _ rfl; have h2 := h 2 _ rfl; have h3 := h 3 _ rfl; have h4 := h 4 _ rfl; have h5 := h 5 _ rfl; have h6 := h 6 _ rfl; clear h; go_simp; try rfl), ld rfl 6 (fun s => rfl) (fun s w h => by have h0 := h 0 _ rfl; have h1 := h 1 _ rfl; have h2 := h 2 _ rfl; have h3 := h 3 _ rfl; have h4 := h 4 _ rfl; have h5 := h 5 _ rfl; have h6 := h 6 _ rfl; clear h; go_simp; try rfl), cl rfl (fun s => #[.agg #[.slice (s7 1).A r3_0.length (s7 1).c, .int .i64 r3_1, .int .i64 r3_2, .int .i64 r3_3, .int .i64 r3_4, .int .i64 r3_5, .slice (s7 1).B r3_6.length (s7 1).e], .agg #[.slice (s5 2).A r3_0.length (s5 2).c, .int .i64 r3_1, .int .i64 r3_2, .int .i64 r3_3, .int .i64 r3_4, .int .i64 r3_5, .slice (s5 2).B r3_6.length (s5 2).e]]) Try.func30 (fun s w1 h => (laws_eqArena.calls _ _ _ _ _ _ _ _ _ _ _ _ _ _ _ _ _ _ _ _ _ _ _ _ _ (Kd.S_reads' (h.get 0 rfl).1).2.2 (Kd.S_reads' (h.get 0 rfl).1).2.1 (Kd.R_reads' (h.get 0 rfl).2).2.2 (Kd.R_reads' (h.get 0 rfl).2).2.1 (Kd.S_reads' (h.get 5 rfl).1).2.2 (Kd.S_reads' (h.get 5 rfl).1).2.1 (Kd.R_reads' (h.get 5 rfl).2).2.2 (Kd.R_reads' (h.get 5 rfl).2).2.1 H5.out).mono (by rintro e w2 ⟨rfl, hb⟩; exact fin0 hb)), pu rfl, pu rfl, pu rfl, pu rfl, pn Try.underlying4 rfl, pu rfl, trivial⟩
  intro s8 w8 h; have HS8 := Aside0.mk h; clear h HS7
  refine tl0 ?_
  refine wp_cond_false rfl ?_
  refine wp_skip ?_
  refine thN ?_
  refine wp_seq ?_
  refine reg (aF := ?_) (nw := ?_) [evR 0 41 3 (fun s => .agg #[.slice (s6 1).A r2_0.length (s6 1).c, .int .i64 r2_1, .int .i64 r2_2, .int .i64 r2_3, .int .i64 r2_4, .int .i64 r2_5, .slice (s6 1).B r2_6.length (s6 1).e]), evL 1 42 [] (fun s => .agg #[.slice A0_0 l0_0.length c0_0, .int .i64 a0_1, .int .i64 a0_2, .int .i64 a0_3, .int .i64 a0_4, .int .i64 a0_5, .slice A0_6 l0_6.length c0_6]), evC 2 (some 43) [] (fun s x => .agg #[.slice x.A r2_0.length x.c, .int .i64 r2_1, .int .i64 r2_2, .int .i64 r2_3, .int .i64 r2_4, .int .i64 r2_5, .slice x.B r2_6.length x.e]) (fun s x => [⟨x.lo, x.hi, fun w_ => Kd.S (Kd.slice 5 (Kd.int .u8)) 119 w_ w.heap.size (fun k_ => x.lo ≤ k_ ∧ k_ < x.hi) (.slice x.A r2_0.length x.c) r2_0 ∧ Kd.R (Kd.int .i64) 3 w_ w.heap.size (fun k_ => x.lo ≤ k_ ∧ k_ < x.hi) (.slice x.B r2_6.length x.e) r2_6⟩]), evC 3 (some 44) [2] (fun s x => .bool true) (fun s x => []), evP 4 45 [] (fun s => .bool false)] [] [] true 5 rfl rfl (by kernel_rfl) rfl (mf0) ?aF ?nw HS8.out ?hs ?_
  rotate_left 2
  case aF => intro s; simp only [putE, EvT.val, Act.put, setIfInBounds_toArray, set_cons_zero, set_cons_succ]; rfl
  case nw => intro s; simp only [thA, bsA, List.nil_append, List.cons_append, List.append_nil, if_true, if_false, Nat.reduceLT, set_cons_zero, set_cons_succ]; rfl
  case hs => exact ⟨lr rfl 3 rfl (fun s w h => by have h0 := h 0 _ rfl; have h1 := h 1 _ rfl; have h2 := h 2 _ rfl; have h3 := h 3 _ rfl; have h4 := h 4 _ rfl; have h5 := h 5 _ rfl; have h6 := h 6 _ rfl; clear h; go_simp; try rfl), ld rfl 7 (fun s => rfl) (fun s w h => by have h0 := h 0 _ rfl; have h1 := h 1 _ rfl; have h2 := h 2 _ rfl; have h3 := h 3 _ rfl; have h4 := h 4 _ rfl; have h5 := h 5 _ rfl; have h6 := h 6 _ rfl; clear h; go_simp; try rfl), cl rfl (fun s => #[.agg #[.slice A0_0 l0_0.length c0_0, .int .i64 a0_1, .int .i64 a0_2, .int .i64 a0_3, .int .i64 a0_4, .int .i64 a0_5, .slice A0_6 l0_6.length c0_6]]) Try.func57 (fun s w1 h => (laws_toArena.calls _ _ _ _ _ _ _ _ _ _ _ _ _ _ _ _ _ _ _ _ (Kd.C_below HR0_0.out h.hb) HC0_0.out (Kd.C_below HR0_6.out h.hb) HC0_6.out H2.out).mono (by rintro e w2 ⟨v0_, v6_, rfl, ho0, ho1, hb⟩; obtain ⟨A0, c0, rfl⟩ := Kd.S_slice ho0; obtain ⟨A1, c1, rfl⟩ := Kd.R_slice ho1; obtain ⟨lo, hi, hx⟩ := (Stk.nil w1).push hb (P := fun lo_ hi_ w_ => Kd.S (Kd.slice 5 (Kd.int .u8)) 119 w_ w.heap.size (fun k_ => lo_ ≤ k_ ∧ k_ < hi_) (.slice A0 r2_0.length c0) r2_0 ∧ Kd.R (Kd.int .i64) 3 w_ w.heap.size (fun k_ => lo_ ≤ k_ ∧ k_ < hi_) (.slice A1 r2_6.length c1) r2_6) (fun w_ ha => ⟨S_held ho0 h.hb.size ha, R_held ho1 h.hb.size ha⟩); exact ⟨⟨lo, hi, A0, c0, A1, c1, none, 0⟩, rfl, hx⟩)), cl rfl (fun s => #[.agg #[.slice (s6 1).A r2_0.length (s6 1).c, .int .i64 r2_1, .int .i64 r2_2, .int .i64 r2_3, .int .i64 r2_4, .int .i64 r2_5, .slice (s6 1).B r2_6.length (s6 1).e], .agg #[.slice (s 2).A r2_0.length (s 2).c, .int .i64 r2_1, .int .i64 r2_2, .int .i64 r2_3, .int .i64 r2_4, .int .i64 r2_5, .slice (s 2).B r2_6.length (s 2).e]]) Try.func30 (fun s w1 h => (laws_eqArena.calls _ _ _ _ _ _ _ _ _ _ _ _ _ _ _ _ _ _ _ _ _ _ _ _ _ (Kd.S_reads' (h.get 3 rfl).1).2.2 (Kd.S_reads' (h.get 3 rfl).1).2.1 (Kd.R_reads' (h.get 3 rfl).2).2.2 (Kd.R_reads' (h.get 3 rfl).2).2.1 (Kd.S_reads' (h.get 0 rfl).1).2.2 (Kd.S_reads' (h.get 0 rfl).1).2.1 (Kd.R_reads' (h.get 0 rfl).2).2.2 (Kd.R_reads' (h.get 0 rfl).2).2.1 H6.out).mono (by rintro e w2 ⟨rfl, hb⟩; exact fin0 hb)), pu rfl, trivial⟩
  intro s9 w9 h; have HS9 := Aside0.mk h; clear h HS8
  refine tl0 ?_
  refine wp_cond_false rfl ?_
  refine wp_skip ?_
  refine thN ?_
  refine reg0 (aF := ?_) [] [0] false 1 rfl rfl (by kernel_rfl) rfl (fun _ => rfl) ?aF HS9.out ?hs ?_
  rotate_left 1
  case aF => intro s; simp only [putE, EvT.val, Act.put, setIfInBounds_toArray, set_cons_zero, set_cons_succ]; rfl
  case hs => exact trivial
  intro s10 w10 h; have HS10 := Aside0.mk h; clear h HS9
  refine tlP (v := .int .i64 1) 9 rfl ?_
  refine tl0 ?_
  refine reg (aF := ?_) (nw := ?_) [evL 0 46 [] (fun s => .agg #[.slice (s6 1).A r2_0.length (s6 1).c, .int .i64 r2_1, .int .i64 r2_2, .int .i64 r2_3, .int .i64 r2_4, .int .i64 r2_5, .slice (s6 1).B r2_6.length (s6 1).e]), evP 1 47 [] (fun s => .int .i64 1), evW 2 (some 48) [] (fun s => .int .i64 r7_0)] [3] [⟨3, 2, [], fun s => ⟨(s6 1).lo, (s6 1).hi, fun w_ => Kd.S (Kd.slice 5 (Kd.int .u8)) 119 w_ w.heap.size (fun k_ => (s6 1).lo ≤ k_ ∧ k_ < (s6 1).hi) (.slice (s6 1).A r2_0.length (s6 1).c) r7_1 ∧ Kd.R (Kd.int .i64) 3 w_ w.heap.size (fun k_ => (s6 1).lo ≤ k_ ∧ k_ < (s6 1).hi) (.slice (s6 1).B r2_6.length (s6 1).e) r7_2⟩⟩] false 4 rfl rfl (by kernel_rfl) rfl ((mf1 mf0)) ?aF ?nw HS10.out ?hs ?_
  rotate_left 2
  case aF => intro s; simp only [putE, EvT.val, Act.put, setIfInBounds_toArray, set_cons_zero, set_cons_succ]; rfl
  case nw => intro s; simp only [thA, bsA, List.nil_append, List.cons_append, List.append_nil, if_true, if_false, Nat.reduceLT, set_cons_zero, set_cons_succ]; rfl
  case hs => exact ⟨ld rfl 4 (fun s => rfl) (fun s w h => by have h0 := h 0 _ rfl; have h1 := h 1 _ rfl; have h2 := h 2 _ rfl; have h3 := h 3 _ rfl; have h4 := h 4 _ rfl; have h5 := h 5 _ rfl; have h6 := h 6 _ rfl; clear h; go_simp; try rfl), pu rfl, cw rfl 0 3 rfl rfl (fun s => #[.agg #[.slice (s6 1).A r2_0.length (s6 1).c, .int .i64 r2_1, .int .i64 r2_2, .int .i64 r2_3, .int .i64 r2_4, .int .i64 r2_5, .slice (s6 1).B r2_6.length (s6 1).e], .int .i64 1]) Try.func31 (fun s w1 h => (laws_markArena.calls (fun k_ => (s6 1).lo ≤ k_ ∧ k_ < (s6 1).hi) _ _ _ _ _ _ _ _ _ _ _ _ _ w _ h.hb (h.get 0 rfl).1 (h.get 0 rfl).2 H7.out).mono (by rintro e w2 ⟨rfl, ho0, ho1, hb, hk⟩; exact ⟨rfl, Wrote.of 0 h rfl hb hk (fun w_ ha => ⟨S_again ho0 ha, R_again ho1 ha⟩)⟩)), trivial⟩
  intro s11 w11 h; have HS11 := Aside0.mk h; clear h HS10
  refine tlP (v := .int .i64 r7_0) 9 rfl ?_
  refine tl0 ?_
  refine wp_seq ?_
  refine reg0 (aF := ?_) [evP 0 49 [] (fun s => .int .i64 r7_0), evP 1 50 [] (fun s => .bool false), evP 2 51 [] (fun s => .bool false), evL 3 52 [] (fun s => .agg #[.slice (s7 1).A r3_0.length (s7 1).c, .int .i64 r3_1, .int .i64 r3_2, .int .i64 r3_3, .int .i64 r3_4, .int .i64 r3_5, .slice (s7 1).B r3_6.length (s7 1).e]), evL 4 53 [] (fun s => .agg #[.slice (s5 2).A r3_0.length (s5 2).c, .int .i64 r3_1, .int .i64 r3_2, .int .i64 r3_3, .int .i64 r3_4, .int .i64 r3_5, .slice (s5 2).B r3_6.length (s5 2).e]), evC 5 (some 54) [] (fun s x => .bool true) (fun s x => []), evP 6 55 [] (fun s => .bool false), evP 7 56 [] (fun s => .bool false), evP 8 57 [] (fun s => .bool false), evP 9 58 [] (fun s => .bool r3_7), evP 10 59 [] (fun s => .bool r3_7), evP 11 60 [] (fun s => .bool false), evP 12 61 [] (fun s => .bool false)] [] false 13 rfl rfl (by kernel_rfl) rfl (fun _ => rfl) ?aF HS11.out ?hs ?_
  rotate_left 1
  case aF => intro s; simp only [putE, EvT.val, Act.put, setIfInBounds_toArray, set_cons_zero, set_cons_succ]; rfl
  case hs => exact ⟨pu rfl, pb (q := .lss) Nb_r7_0 rfl, pu rfl, ld rfl 2 (fun s => rfl) (fun s w h => by have h0 := h 0 _ rfl; have h1 := h 1 _ rfl; have h2 := h 2 _ rfl; have h3 := h 3 _ rfl; have h4 := h 4 _ rfl; have h5 := h 5 _ rfl; have h6 := h 6 _ rfl; clear h; go_simp; try rfl), ld rfl 7 (fun s => rfl) (fun s w h => by have h0 := h 0 _ rfl; have h1 := h 1 _ rfl; have h2 := h 2 _ rfl; have h3 := h 3 _ rfl; have h4 := h 4 _ rfl; have h5 := h 5 _ rfl; have h6 := h 6 _ rfl; clear h; go_simp; try rfl), cl rfl (fun s => #[.agg #[.slice (s7 1).A r3_0.length (s7 1).c, .int .i64 r3_1, .int .i64 r3_2, .int .i64 r3_3, .int .i64 r3_4, .int .i64 r3_5, .slice (s7 1).B r3_6.length (s7 1).e], .agg #[.slice (s5 2).A r3_0.length (s5 2).c, .int .i64 r3_1, .int .i64 r3_2, .int .i64 r3_3, .int .i64 r3_4, .int .i64 r3_5, .slice (s5 2).B r3_6.length (s5 2).e]]) Try.func30 (fun s w1 h => (laws_eqArena.calls _ _ _ _ _ _ _ _ _ _ _ _ _ _ _ _ _ _ _ _ _ _ _ _ _ (Kd.S_reads' (h.get 1 rfl).1).2.2 (Kd.S_reads' (h.get 1 rfl).1).2.1 (Kd.R_reads' (h.get 1 rfl).2).2.2 (Kd.R_reads' (h.get 1 rfl).2).2.1 (Kd.S_reads' (h.get 6 rfl).1).2.2 (Kd.S_reads' (h.get 6 rfl).1).2.1 (Kd.R_reads' (h.get 6 rfl).2).2.2 (Kd.R_reads' (h.get 6 rfl).2).2.1 H5.out).mono (by rintro e w2 ⟨rfl, hb⟩; exact fin0 hb)), pu rfl, pu rfl, pu rfl, pu rfl, pu rfl, pn Try.underlying4 rfl, pu rfl, trivial⟩
  intro s12 w12 h; have HS12 := Aside0.mk h; clear h HS11
  refine tl0 ?_
  refine wp_cond_false rfl ?_
  refine wp_skip ?_
  refine thN ?_
  refine reg0 (aF := ?_) [] [0] false 1 rfl rfl (by kernel_rfl) rfl (fun _ => rfl) ?aF HS12.out ?hs ?_
  rotate_left 1
  case aF => intro s; simp only [putE, EvT.val, Act.put, setIfInBounds_toArray, set_cons_zero, set_cons_succ]; rfl
  case hs => exact trivial
  intro s13 w13 h; have HS13 := Aside0.mk h; clear h HS12
  refine tlP (v := .int .i64 1) 10 rfl ?_
  refine tl0 ?_
  refine reg (aF := ?_) (nw := ?_) [evL 0 62 [] (fun s => .agg #[.slice (s7 1).A r3_0.length (s7 1).c, .int .i64 r3_1, .int .i64 r3_2, .int .i64 r3_3, .int .i64 r3_4, .int .i64 r3_5, .slice (s7 1).B r3_6.length (s7 1).e]), evP 1 63 [] (fun s => .int .i64 1), evW 2 (some 64) [] (fun s => .int .i64 r8_0)] [3] [⟨1, 2, [], fun s => ⟨(s7 1).lo, (s7 1).hi, fun w_ => Kd.S (Kd.slice 5 (Kd.int .u8)) 119 w_ w.heap.size (fun k_ => (s7 1).lo ≤ k_ ∧ k_ < (s7 1).hi) (.slice (s7 1).A r3_0.length (s7 1).c) r8_1 ∧ Kd.R (Kd.int .i64) 3 w_ w.heap.size (fun k_ => (s7 1).lo ≤ k_ ∧ k_ < (s7 1).hi) (.slice (s7 1).B r3_6.length (s7 1).e) r8_2⟩⟩] false 4 rfl rfl (by kernel_rfl) rfl ((mf1 mf0)) ?aF ?nw HS13.out ?hs ?_
  rotate_left 2
  case aF => intro s; simp only [putE, EvT.val, Act.put, setIfInBounds_toArray, set_cons_zero, set_cons_succ]; rfl
  case nw => intro s; simp only [thA, bsA, List.nil_append, List.cons_append, List.append_nil, if_true, if_false, Nat.reduceLT, set_cons_zero, set_cons_succ]; rfl
  case hs => exact ⟨ld rfl 2 (fun s => rfl) (fun s w h => by have h0 := h 0 _ rfl; have h1 := h 1 _ rfl; have h2 := h 2 _ rfl; have h3 := h 3 _ rfl; have h4 := h 4 _ rfl; have h5 := h 5 _ rfl; have h6 := h 6 _ rfl; clear h; go_simp; try rfl), pu rfl, cw rfl 0 1 rfl rfl (fun s => #[.agg #[.slice (s7 1).A r3_0.length (s7 1).c, .int .i64 r3_1, .int .i64 r3_2, .int .i64 r3_3, .int .i64 r3_4, .int .i64 r3_5, .slice (s7 1).B r3_6.length (s7 1).e], .int .i64 1]) Try.func31 (fun s w1 h => (laws_markArena.calls (fun k_ => (s7 1).lo ≤ k_ ∧ k_ < (s7 1).hi) _ _ _ _ _ _ _ _ _ _ _ _ _ w _ h.hb (h.get 0 rfl).1 (h.get 0 rfl).2 H8.out).mono (by rintro e w2 ⟨rfl, ho0, ho1, hb, hk⟩; exact ⟨rfl, Wrote.of 0 h rfl hb hk (fun w_ ha => ⟨S_again ho0 ha, R_again ho1 ha⟩)⟩)), trivial⟩
  intro s14 w14 h; have HS14 := Aside0.mk h; clear h HS13
  refine tlP (v := .int .i64 r8_0) 10 rfl ?_
  refine tl0 ?_
  refine reg0 (aF := ?_) [] [0] false 1 rfl rfl (by kernel_rfl) rfl (fun _ => rfl) ?aF HS14.out ?hs ?_
  rotate_left 1
  case aF => intro s; simp only [putE, EvT.val, Act.put, setIfInBounds_toArray, set_cons_zero, set_cons_succ]; rfl
  case hs => exact trivial
  intro s15 w15 h; have HS15 := Aside0.mk h; clear h HS14
  refine tlP (v := .int .i64 1) 11 rfl ?_
  refine tl0 ?_
  refine reg0 (aF := ?_) [evL 0 65 [] (fun s => .agg #[.slice (s7 1).A r3_0.length (s7 1).c, .int .i64 r3_1, .int .i64 r3_2, .int .i64 r3_3, .int .i64 r3_4, .int .i64 r3_5, .slice (s7 1).B r3_6.length (s7 1).e]), evP 1 66 [] (fun s => .int .i64 1), evC 2 (some 67) [] (fun s x => .int .i64 r8_0) (fun s x => [])] [3] false 4 rfl rfl (by kernel_rfl) rfl (fun _ => rfl) ?aF HS15.out ?hs ?_
  rotate_left 1
  case aF => intro s; simp only [putE, EvT.val, Act.put, setIfInBounds_toArray, set_cons_zero, set_cons_succ]; rfl
  case hs => exact ⟨ld rfl 2 (fun s => rfl) (fun s w h => by have h0 := h 0 _ rfl; have h1 := h 1 _ rfl; have h2 := h 2 _ rfl; have h3 := h 3 _ rfl; have h4 := h 4 _ rfl; have h5 := h 5 _ rfl; have h6 := h 6 _ rfl; clear h; go_simp; try rfl), pu rfl, cl rfl (fun s => #[.agg #[.slice (s7 1).A r3_0.length (s7 1).c, .int .i64 r3_1, .int .i64 r3_2, .int .i64 r3_3, .int .i64 r3_4, .int .i64 r3_5, .slice (s7 1).B r3_6.length (s7 1).e], .int .i64 1]) Try.func32 (fun s w1 h => by rw [show r3_0.length = r8_1.length from (Kd.S_reads' (h.get 1 rfl).1).1, show r3_6.length = r8_2.length from (Kd.R_reads' (h.get 1 rfl).2).1]; exact (laws_heldArena.calls _ _ _ _ _ _ _ _ _ _ _ _ _ _ _ ((Kd.S_reads' (h.get 1 rfl).1).1 ▸ (Kd.S_reads' (h.get 1 rfl).1).2.2) ((Kd.S_reads' (h.get 1 rfl).1).1 ▸ (Kd.S_reads' (h.get 1 rfl).1).2.1) ((Kd.R_reads' (h.get 1 rfl).2).1 ▸ (Kd.R_reads' (h.get 1 rfl).2).2.2) ((Kd.R_reads' (h.get 1 rfl).2).1 ▸ (Kd.R_reads' (h.get 1 rfl).2).2.1) H9.out).mono (by rintro e w2 ⟨rfl, hb⟩; exact fin0 hb)), trivial⟩
  intro s16 w16 h; have HS16 := Aside0.mk h; clear h HS15
  refine tlP (v := .int .i64 r8_0) 11 rfl ?_
  refine tl0 ?_
  refine wp_seq ?_
  refine reg0 (aF := ?_) [evP 0 68 [] (fun s => .int .i64 r8_0), evP 1 69 [] (fun s => .bool false)] [] false 2 rfl rfl (by kernel_rfl) rfl (fun _ => rfl) ?aF HS16.out ?hs ?_
  rotate_left 1
  case aF => intro s; simp only [putE, EvT.val, Act.put, setIfInBounds_toArray, set_cons_zero, set_cons_succ]; rfl
  case hs => exact ⟨pu rfl, pb (q := .lss) Nb_r8_0 rfl, trivial⟩
  intro s17 w17 h; have HS17 := Aside0.mk h; clear h HS16
  refine tl0 ?_
  refine wp_cond_false rfl ?_
  refine wp_skip ?_
  refine thN ?_
  refine wp_seq ?_
  refine reg0 (aF := ?_) [evP 0 70 [] (fun s => .int .i64 r8_0), evP 1 71 [] (fun s => .int .i64 r8_0), evP 2 72 [] (fun s => .bool false)] [] false 3 rfl rfl (by kernel_rfl) rfl (fun _ => rfl) ?aF HS17.out ?hs ?_
  rotate_left 1
  case aF => intro s; simp only [putE, EvT.val, Act.put, setIfInBounds_toArray, set_cons_zero, set_cons_succ]; rfl
  case hs => exact ⟨pu rfl, pu rfl, pb (q := .neq) (bne_self_eq_false _) rfl, trivial⟩
  intro s18 w18 h; have HS18 := Aside0.mk h; clear h HS17
  refine tl0 ?_
  refine wp_cond_false rfl ?_
  refine wp_skip ?_
  refine thN ?_
  refine reg (aF := ?_) (nw := ?_) [evL 0 74 [] (fun s => .agg #[.slice A0_0 l0_0.length c0_0, .int .i64 a0_1, .int .i64 a0_2, .int .i64 a0_3, .int .i64 a0_4, .int .i64 a0_5, .slice A0_6 l0_6.length c0_6]), evC 1 (some 75) [] (fun s x => .agg #[.slice x.A r2_0.length x.c, .int .i64 r2_1, .int .i64 r2_2, .int .i64 r2_3, .int .i64 r2_4, .int .i64 r2_5, .slice x.B r2_6.length x.e]) (fun s x => [⟨x.lo, x.hi, fun w_ => Kd.S (Kd.slice 5 (Kd.int .u8)) 119 w_ w.heap.size (fun k_ => x.lo ≤ k_ ∧ k_ < x.hi) (.slice x.A r2_0.length x.c) r2_0 ∧ Kd.R (Kd.int .i64) 3 w_ w.heap.size (fun k_ => x.lo ≤ k_ ∧ k_ < x.hi) (.slice x.B r2_6.length x.e) r2_6⟩]), evC 2 (some 76) [1] (fun s x => .tuple #[.agg #[.slice x.A r3_0.length x.c, .int .i64 r3_1, .int .i64 r3_2, .int .i64 r3_3, .int .i64 r3_4, .int .i64 r3_5, .slice x.B r3_6.length x.e], .bool r3_7]) (fun s x => [⟨x.lo, x.hi, fun w_ => Kd.S (Kd.slice 5 (Kd.int .u8)) 119 w_ w.heap.size (fun k_ => x.lo ≤ k_ ∧ k_ < x.hi) (.slice x.A r3_0.length x.c) r3_0 ∧ Kd.R (Kd.int .i64) 3 w_ w.heap.size (fun k_ => x.lo ≤ k_ ∧ k_ < x.hi) (.slice x.B r3_6.length x.e) r3_6⟩]), evP 3 73 [2] (fun s => .tuple #[.agg #[.slice (s 2).A r3_0.length (s 2).c, .int .i64 r3_1, .int .i64 r3_2, .int .i64 r3_3, .int .i64 r3_4, .int .i64 r3_5, .slice (s 2).B r3_6.length (s 2).e], .bool r3_7]), evP 4 77 [2] (fun s => .agg #[.slice (s 2).A r3_0.length (s 2).c, .int .i64 r3_1, .int .i64 r3_2, .int .i64 r3_3, .int .i64 r3_4, .int .i64 r3_5, .slice (s 2).B r3_6.length (s 2).e]), evP 5 78 [] (fun s => .bool r3_7), evB 6 12 [] 51 (fun s => #[.slice none 0 0, .int .i64 0, .int .i64 0, .int .i64 0, .int .i64 0, .int .i64 0, .slice none 0 0]) 7 [2] (fun s => #[.slice (s 2).A r3_0.length (s 2).c, .int .i64 r3_1, .int .i64 r3_2, .int .i64 r3_3, .int .i64 r3_4, .int .i64 r3_5, .slice (s 2).B r3_6.length (s 2).e]), evS 7] [8] [] false 9 rfl rfl (by kernel_rfl) rfl (mf0) ?aF ?nw HS18.out ?hs ?_
  rotate_left 2
  case aF => intro s; simp only [putE, EvT.val, Act.put, setIfInBounds_toArray, set_cons_zero, set_cons_succ]; rfl
  case nw => intro s; simp only [thA, bsA, List.nil_append, List.cons_append, List.append_nil, if_true, if_false, Nat.reduceLT, set_cons_zero, set_cons_succ]; rfl
  case hs => exact ⟨ld rfl 8 (fun s => rfl) (fun s w h => by have h0 := h 0 _ rfl; have h1 := h 1 _ rfl; have h2 := h 2 _ rfl; have h3 := h 3 _ rfl; have h4 := h 4 _ rfl; have h5 := h 5 _ rfl; have h6 := h 6 _ rfl; clear h; go_simp; try rfl), cl rfl (fun s => #[.agg #[.slice A0_0 l0_0.length c0_0, .int .i64 a0_1, .int .i64 a0_2, .int .i64 a0_3, .int .i64 a0_4, .int .i64 a0_5, .slice A0_6 l0_6.length c0_6]]) Try.func57 (fun s w1 h => (laws_toArena.calls _ _ _ _ _ _ _ _ _ _ _ _ _ _ _ _ _ _ _ _ (Kd.C_below HR0_0.out h.hb) HC0_0.out (Kd.C_below HR0_6.out h.hb) HC0_6.out H2.out).mono (by rintro e w2 ⟨v0_, v6_, rfl, ho0, ho1, hb⟩; obtain ⟨A0, c0, rfl⟩ := Kd.S_slice ho0; obtain ⟨A1, c1, rfl⟩ := Kd.R_slice ho1; obtain ⟨lo, hi, hx⟩ := (Stk.nil w1).push hb (P := fun lo_ hi_ w_ => Kd.S (Kd.slice 5 (Kd.int .u8)) 119 w_ w.heap.size (fun k_ => lo_ ≤ k_ ∧ k_ < hi_) (.slice A0 r2_0.length c0) r2_0 ∧ Kd.R (Kd.int .i64) 3 w_ w.heap.size (fun k_ => lo_ ≤ k_ ∧ k_ < hi_) (.slice A1 r2_6.length c1) r2_6) (fun w_ ha => ⟨S_held ho0 h.hb.size ha, R_held ho1 h.hb.size ha⟩); exact ⟨⟨lo, hi, A0, c0, A1, c1, none, 0⟩, rfl, hx⟩)), cl rfl (fun s => #[.agg #[.slice (s 1).A r2_0.length (s 1).c, .int .i64 r2_1, .int .i64 r2_2, .int .i64 r2_3, .int .i64 r2_4, .int .i64 r2_5, .slice (s 1).B r2_6.length (s 1).e]]) Try.func60 (fun s w1 h => (impl_ResetArena.calls _ _ _ _ _ _ _ _ _ _ _ _ _ _ _ _ _ _ _ _ _ (Kd.S_reads' (h.get 0 rfl).1).2.2 (Kd.S_reads' (h.get 0 rfl).1).2.1 (Kd.R_reads' (h.get 0 rfl).2).2.2 (Kd.R_reads' (h.get 0 rfl).2).2.1 H4.out).mono (by rintro e w2 ⟨v0_, v6_, rfl, ho0, ho1, hb⟩; obtain ⟨A0, c0, rfl⟩ := Kd.S_slice ho0; obtain ⟨A1, c1, rfl⟩ := Kd.R_slice ho1; obtain ⟨lo, hi, hx⟩ := (Stk.nil w1).push hb (P := fun lo_ hi_ w_ => Kd.S (Kd.slice 5 (Kd.int .u8)) 119 w_ w.heap.size (fun k_ => lo_ ≤ k_ ∧ k_ < hi_) (.slice A0 r3_0.length c0) r3_0 ∧ Kd.R (Kd.int .i64) 3 w_ w.heap.size (fun k_ => lo_ ≤ k_ ∧ k_ < hi_) (.slice A1 r3_6.length c1) r3_6) (fun w_ ha => ⟨S_held ho0 h.hb.size ha, R_held ho1 h.hb.size ha⟩); exact ⟨⟨lo, hi, A0, c0, A1, c1, none, 0⟩, rfl, hx⟩)), pu rfl, pu rfl, pu rfl, bv rfl (fun s w => by go_simp; try rfl), st rfl 6 0 (fun s => [.slice (s 2).A r3_0.length (s 2).c, .int .i64 r3_1, .int .i64 r3_2, .int .i64 r3_3, .int .i64 r3_4, .int .i64 r3_5, .slice (s 2).B r3_6.length (s 2).e]) rfl (fun s w h hf => by have h0 := h 0 _ rfl; have f0 := hf 0; have h1 := h 1 _ rfl; have f1 := hf 1; have h2 := h 2 _ rfl; have f2 := hf 2; have h3 := h 3 _ rfl; have f3 := hf 3; have h4 := h 4 _ rfl; have f4 := hf 4; have h5 := h 5 _ rfl; have f5 := hf 5; have h6 := h 6 _ rfl; have f6 := hf 6; clear h hf; go_simp; try rfl), trivial⟩
  intro s19 w19 h; have HS19 := Aside0.mk h; clear h HS18
  refine tlP (v := .bool r3_7) 13 rfl ?_
  refine tl0 ?_
  refine wp_seq ?_
  refine reg0 (aF := ?_) [evL 0 79 [] (fun s => .agg #[.slice (s19 2).A r3_0.length (s19 2).c, .int .i64 r3_1, .int .i64 r3_2, .int .i64 r3_3, .int .i64 r3_4, .int .i64 r3_5, .slice (s19 2).B r3_6.length (s19 2).e]), evL 1 80 [] (fun s => .agg #[.slice (s5 2).A r3_0.length (s5 2).c, .int .i64 r3_1, .int .i64 r3_2, .int .i64 r3_3, .int .i64 r3_4, .int .i64 r3_5, .slice (s5 2).B r3_6.length (s5 2).e]), evC 2 (some 81) [] (fun s x => .bool true) (fun s x => []), evP 3 82 [] (fun s => .bool false), evP 4 83 [] (fun s => .bool false), evP 5 84 [] (fun s => .bool r3_7), evP 6 85 [] (fun s => .bool r3_7), evP 7 86 [] (fun s => .bool false), evP 8 87 [] (fun s => .bool false)] [] false 9 rfl rfl (by kernel_rfl) rfl (fun _ => rfl) ?aF HS19.out ?hs ?_
  rotate_left 1
  case aF => intro s; simp only [putE, EvT.val, Act.put, setIfInBounds_toArray, set_cons_zero, set_cons_succ]; rfl
  case hs => exact ⟨ld rfl 2 (fun s => rfl) (fun s w h => by have h0 := h 0 _ rfl; have h1 := h 1 _ rfl; have h2 := h 2 _ rfl; have h3 := h 3 _ rfl; have h4 := h 4 _ rfl; have h5 := h 5 _ rfl; have h6 := h 6 _ rfl; clear h; go_simp; try rfl), ld rfl 10 (fun s => rfl) (fun s w h => by have h0 := h 0 _ rfl; have h1 := h 1 _ rfl; have h2 := h 2 _ rfl; have h3 := h 3 _ rfl; have h4 := h 4 _ rfl; have h5 := h 5 _ rfl; have h6 := h 6 _ rfl; clear h; go_simp; try rfl), cl rfl (fun s => #[.agg #[.slice (s19 2).A r3_0.length (s19 2).c, .int .i64 r3_1, .int .i64 r3_2, .int .i64 r3_3, .int .i64 r3_4, .int .i64 r3_5, .slice (s19 2).B r3_6.length (s19 2).e], .agg #[.slice (s5 2).A r3_0.length (s5 2).c, .int .i64 r3_1, .int .i64 r3_2, .int .i64 r3_3, .int .i64 r3_4, .int .i64 r3_5, .slice (s5 2).B r3_6.length (s5 2).e]]) Try.func30 (fun s w1 h => (laws_eqArena.calls _ _ _ _ _ _ _ _ _ _ _ _ _ _ _ _ _ _ _ _ _ _ _ _ _ (Kd.S_reads' (h.get 1 rfl).1).2.2 (Kd.S_reads' (h.get 1 rfl).1).2.1 (Kd.R_reads' (h.get 1 rfl).2).2.2 (Kd.R_reads' (h.get 1 rfl).2).2.1 (Kd.S_reads' (h.get 9 rfl).1).2.2 (Kd.S_reads' (h.get 9 rfl).1).2.1 (Kd.R_reads' (h.get 9 rfl).2).2.2 (Kd.R_reads' (h.get 9 rfl).2).2.1 H5.out).mono (by rintro e w2 ⟨rfl, hb⟩; exact fin0 hb)), pu rfl, pu rfl, pu rfl, pu rfl, pn Try.underlying4 rfl, pu rfl, trivial⟩
  intro s20 w20 h; have HS20 := Aside0.mk h; clear h HS19
  refine tl0 ?_
  refine wp_cond_false rfl ?_
  refine wp_skip ?_
  refine thN ?_
  refine reg0 (aF := ?_) [] [0] false 1 rfl rfl (by kernel_rfl) rfl (fun _ => rfl) ?aF HS20.out ?hs ?_
  rotate_left 1
  case aF => intro s; simp only [putE, EvT.val, Act.put, setIfInBounds_toArray, set_cons_zero, set_cons_succ]; rfl
  case hs => exact trivial
  intro s21 w21 h; have HS21 := Aside0.mk h; clear h HS20
  refine tlP (v := .int .i64 1) 11 rfl ?_
  refine tl0 ?_
  refine reg0 (aF := ?_) [evL 0 88 [] (fun s => .agg #[.slice (s7 1).A r3_0.length (s7 1).c, .int .i64 r3_1, .int .i64 r3_2, .int .i64 r3_3, .int .i64 r3_4, .int .i64 r3_5, .slice (s7 1).B r3_6.length (s7 1).e]), evP 1 89 [] (fun s => .int .i64 1), evC 2 (some 90) [] (fun s x => .int .i64 r8_0) (fun s x => [])] [3] false 4 rfl rfl (by kernel_rfl) rfl (fun _ => rfl) ?aF HS21.out ?hs ?_
  rotate_left 1
  case aF => intro s; simp only [putE, EvT.val, Act.put, setIfInBounds_toArray, set_cons_zero, set_cons_succ]; rfl
  case hs => exact ⟨ld rfl 5 (fun s => rfl) (fun s w h => by have h0 := h 0 _ rfl; have h1 := h 1 _ rfl; have h2 := h 2 _ rfl; have h3 := h 3 _ rfl; have h4 := h 4 _ rfl; have h5 := h 5 _ rfl; have h6 := h 6 _ rfl; clear h; go_simp; try rfl), pu rfl, cl rfl (fun s => #[.agg #[.slice (s7 1).A r3_0.length (s7 1).c, .int .i64 r3_1, .int .i64 r3_2, .int .i64 r3_3, .int .i64 r3_4, .int .i64 r3_5, .slice (s7 1).B r3_6.length (s7 1).e], .int .i64 1]) Try.func32 (fun s w1 h => by rw [show r3_0.length = r8_1.length from (Kd.S_reads' (h.get 4 rfl).1).1, show r3_6.length = r8_2.length from (Kd.R_reads' (h.get 4 rfl).2).1]; exact (laws_heldArena.calls _ _ _ _ _ _ _ _ _ _ _ _ _ _ _ ((Kd.S_reads' (h.get 4 rfl).1).1 ▸ (Kd.S_reads' (h.get 4 rfl).1).2.2) ((Kd.S_reads' (h.get 4 rfl).1).1 ▸ (Kd.S_reads' (h.get 4 rfl).1).2.1) ((Kd.R_reads' (h.get 4 rfl).2).1 ▸ (Kd.R_reads' (h.get 4 rfl).2).2.2) ((Kd.R_reads' (h.get 4 rfl).2).1 ▸ (Kd.R_reads' (h.get 4 rfl).2).2.1) H9.out).mono (by rintro e w2 ⟨rfl, hb⟩; exact fin0 hb)), trivial⟩
  intro s22 w22 h; have HS22 := Aside0.mk h; clear h HS21
  refine tlP (v := .int .i64 r8_0) 11 rfl ?_
  refine tl0 ?_
  refine wp_seq ?_
  refine reg0 (aF := ?_) [evP 0 91 [] (fun s => .int .i64 r8_0), evP 1 92 [] (fun s => .bool false)] [] false 2 rfl rfl (by kernel_rfl) rfl (fun _ => rfl) ?aF HS22.out ?hs ?_
  rotate_left 1
  case aF => intro s; simp only [putE, EvT.val, Act.put, setIfInBounds_toArray, set_cons_zero, set_cons_succ]; rfl
  case hs => exact ⟨pu rfl, pb (q := .lss) Nb_r8_0 rfl, trivial⟩
  intro s23 w23 h; have HS23 := Aside0.mk h; clear h HS22
  refine tl0 ?_
  refine wp_cond_false rfl ?_
  refine wp_skip ?_
  refine thN ?_
  refine wp_seq ?_
  refine reg0 (aF := ?_) [evP 0 93 [] (fun s => .int .i64 r8_0), evP 1 94 [] (fun s => .int .i64 r8_0), evP 2 95 [] (fun s => .bool false)] [] false 3 rfl rfl (by kernel_rfl) rfl (fun _ => rfl) ?aF HS23.out ?hs ?_
  rotate_left 1
  case aF => intro s; simp only [putE, EvT.val, Act.put, setIfInBounds_toArray, set_cons_zero, set_cons_succ]; rfl
  case hs => exact ⟨pu rfl, pu rfl, pb (q := .neq) (bne_self_eq_false _) rfl, trivial⟩
  intro s24 w24 h; have HS24 := Aside0.mk h; clear h HS23
  refine tl0 ?_
  refine wp_cond_false rfl ?_
  refine wp_skip ?_
  refine thN ?_
  refine reg0 (aF := ?_) [] [0] false 1 rfl rfl (by kernel_rfl) rfl (fun _ => rfl) ?aF HS24.out ?hs ?_
  rotate_left 1
  case aF => intro s; simp only [putE, EvT.val, Act.put, setIfInBounds_toArray, set_cons_zero, set_cons_succ]; rfl
  case hs => exact trivial
  intro s25 w25 h; have HS25 := Aside0.mk h; clear h HS24
  refine tlP (v := .bool true) 2 rfl ?_
  refine tl0 ?_
  refine wp_ret ?_
  go_ret
  exact ⟨by first | rfl | simp, HS25.out.hb⟩
end Go.Proofs.Ytoomjghabiojkaa.P


/- The law FnExactResetArena. -/
namespace Go.Proofs.Ytoomjghabiojkaa.P
open Go.RowKit Go.Proofs.YtoomjghabiojkaaW.PrintWords Go.Proofs.YtoomjghabiojkaaW.Mine
set_option linter.unusedVariables false
theorem FnExactResetArena_walk (w : World) (cs0 : Array Value) (a0 : ((List (List Int)) × ((Int × (Int × (Int × Int))) × (Int × (List Int))))) (hK0 : (Kd.pair (Kd.slice 119 (Kd.slice 5 (Kd.int .u8))) (Kd.pair (Kd.pair (Kd.int .i64) (Kd.pair (Kd.int .i64) (Kd.pair (Kd.int .i64) (Kd.int .i64)))) (Kd.pair (Kd.int .i64) (Kd.slice 3 (Kd.int .i64))))).K w a0 cs0.toList) (ok0 : ((∀ y1 ∈ a0.1, (∀ y2 ∈ y1, (Lit.int .u8 y2).wf = true)) ∧ (((Lit.int .i64 a0.2.1.1).wf = true ∧ ((Lit.int .i64 a0.2.1.2.1).wf = true ∧ ((Lit.int .i64 a0.2.1.2.2.1).wf = true ∧ (Lit.int .i64 a0.2.1.2.2.2).wf = true))) ∧ ((Lit.int .i64 a0.2.2.1).wf = true ∧ (∀ y1 ∈ a0.2.2.2, (Lit.int .i64 y1).wf = true))))) :
    Calls Try.prog 11 #[.agg cs0] w fun e w' => e = .returned (.bool true) ∧ Below w.heap.size w w' := by
  obtain ⟨m0, ⟨x00, x01, x02, x03⟩, x04, l0⟩ := a0
  obtain ⟨_, _, hcs0, ⟨A0, c0, rfl, hc0, hr0⟩, ⟨_, _, rfl, ⟨_, _, rfl, rfl, ⟨_, _, rfl, rfl, ⟨_, _, rfl, rfl, rfl⟩⟩⟩, ⟨_, _, rfl, rfl, ⟨B0, d0, rfl, hd0, hq0⟩⟩⟩⟩ := hK0
  obtain rfl := agg_of hcs0
  obtain ⟨r, hz, hh⟩ := szArena_f m0 x00 x01 x02 x03 x04 l0 1048576 (by omega) (by omega) hr0.2.1 (C_inner_len hr0) hq0.2.1
  rcases hh with ⟨hm, h5⟩ | rfl
  · obtain ⟨hm, hl0⟩ := hm
    have hs : -9223372036854775808 ≤ x01 ∧ x01 ≤ 9223372036854775807 := wf_i64 ok0.2.1.2.1
    have h6 := arReset_ok m0 x00 x01 x02 x03 x04 l0 hm hl0
    exact FnExactResetArena_run A0 c0 m0 x00 x01 x02 x03 x04 B0 d0 l0 _ _ _ _ _ _ _ _ _ _ _ _ _ _ _ _ _ _ _ _ _ _ w hr0 hc0 hq0 hd0 hz.rounds (toArena_f m0 x00 x01 x02 x03 x04 l0 hm hl0).rounds (specResetArena_f m0 x00 x01 x02 x03 x04 l0 hm hs hl0).rounds (implResetArena_f m0 x00 x01 x02 x03 x04 l0 hm hl0).rounds (eqArena_f _ _ _ _ _ _ (arReset m0 x00 x01 x02 x03 x04 l0).2.2.2.2.2.2.1 h6.1 h6.2).rounds (eqArena_f _ _ _ _ _ _ _ hm hl0).rounds (markA _ _ hm hl0) (markA _ (arReset m0 x00 x01 x02 x03 x04 l0).2.2.2.2.2.2.1 h6.1 h6.2) (heldArena_f _ _ _ _ _ _ _ h6.1 h6.2).rounds (by omega) (by omega) (by omega)
  · exact FnExactResetArena_run0 A0 c0 m0 x00 x01 x02 x03 x04 B0 d0 l0 _ w hr0 hc0 hq0 hd0 hz.rounds (by omega)
end Go.Proofs.Ytoomjghabiojkaa.P


namespace Go.Proofs.Ytoomjghabiojkaa.fnExactResetArena
open Go.ChangeShapes Go.WideShapes Go.ChangeAt Go.RowKit Go.Proofs.YtoomjghabiojkaaW.PrintWords Go.Proofs.YtoomjghabiojkaaW.Mine Go.Proofs.Ytoomjghabiojkaa.P
open Go.ChangeMaps (open_string shut_string)
set_option linter.unusedVariables false
theorem own : ownKnob Try.prog.godebug = none := by kernel_rfl
theorem laidOut : laidOutB Try.prog = true := by kernel_rfl
set_option maxRecDepth 100000 in
theorem lifted (os : Os) (started : os.Started) (H : Type) (enc : TypeId × Value → H) :
    ReturnsInHanded {} Try.checked os 11 .any (Rows.fnExactResetArenaSpec.pre6 enc Try.prog Try.f11 Rows.fnExactResetArenaRow.domain false) (Rows.fnExactResetArenaSpec.post enc Try.prog Try.f11 false true false false) := by
  refine returnsInHanded_of_change_sized (C := Try.checked) own started (by kernel_rfl) Try.func11
    (ChangeSpec.witness6 (enc := enc) (C := Try.checked) false ⟨#[], #[.agg #[.slice none 0 0, .int .i64 0, .int .i64 0, .int .i64 0, .int .i64 0, .int .i64 0, .slice none 0 0]], []⟩ 8 (by kernel_rfl) (by kernel_rfl) (by kernel_rfl) (by kernel_rfl)) ?_
  intro W base args ds gs before hval0 hW hcnd hsz0 _
  have hval : ∀ (j : Nat) t v, Try.f11.params[j]? = some t → args[j]? = some v → Value.okWide Try.prog W .any base t v := hval0
  have hW' := hW
  obtain ⟨p, q, hA0, hV, rfl, hfz, hnd⟩ := hW
  have hA : DataW.TrodAll enc Try.prog W 0 (fun _ => true) true Try.f11.params.toList args.toList ds p := hA0
  rw [Try.params11] at hA hval
  obtain ⟨v0, vs0, d0, ds0, p0, q0, hargs, rfl, rfl, h0, r0⟩ := trodAll_cons hA
  obtain ⟨rfl, rfl, rfl⟩ := trodAll_nil r0
  obtain rfl : args = #[v0] := by cases args; simp_all
  obtain ⟨rfl, rfl⟩ := trodVars_none hV
  have k0 := h0
  have lt0 : ∀ x ∈ p0, x.block < W.heap.size := by obtain ⟨m, hm⟩ := k0; exact DataW.trod_lt m _ _ _ hm
  obtain ⟨cs0, rfl, _⟩ := okWide_struct Try.underlying90 (hval 0 90 v0 rfl rfl)
  obtain ⟨a0, hK0, ok0⟩ : ∃ a : ((List (List Int)) × ((Int × (Int × (Int × Int))) × (Int × (List Int)))), (Kd.pair (Kd.slice 119 (Kd.slice 5 (Kd.int .u8))) (Kd.pair (Kd.pair (Kd.int .i64) (Kd.pair (Kd.int .i64) (Kd.pair (Kd.int .i64) (Kd.int .i64)))) (Kd.pair (Kd.int .i64) (Kd.slice 3 (Kd.int .i64))))).K W a cs0.toList ∧ ((∀ y1 ∈ a.1, (∀ y2 ∈ y1, (Lit.int .u8 y2).wf = true)) ∧ (((Lit.int .i64 a.2.1.1).wf = true ∧ ((Lit.int .i64 a.2.1.2.1).wf = true ∧ ((Lit.int .i64 a.2.1.2.2.1).wf = true ∧ (Lit.int .i64 a.2.1.2.2.2).wf = true))) ∧ ((Lit.int .i64 a.2.2.1).wf = true ∧ (∀ y1 ∈ a.2.2.2, (Lit.int .i64 y1).wf = true)))) := by obtain ⟨fuel, hf⟩ := h0; exact (ReadsK.struct Try.underlying90 (by kernel_rfl) (ReadsF.cons rfl (ReadsK.struct Try.underlying24 (by kernel_rfl) (ReadsF.last rfl (ReadsK.slice Try.underlying22 (by kernel_rfl) (ReadsK.slice Try.underlying119 (by kernel_rfl) (ReadsK.int Try.underlying5))) (by kernel_rfl))) (by kernel_rfl) (ReadsF.cons rfl (ReadsK.struct Try.underlying47 (by kernel_rfl) (ReadsF.cons rfl (ReadsK.int Try.underlying3) (by kernel_rfl) (ReadsF.cons rfl (ReadsK.int Try.underlying3) (by kernel_rfl) (ReadsF.cons rfl (ReadsK.int Try.underlying3) (by kernel_rfl) (ReadsF.last rfl (ReadsK.int Try.underlying3) (by kernel_rfl)))))) (by kernel_rfl) (ReadsF.cons rfl (ReadsK.int Try.underlying3) (by kernel_rfl) (ReadsF.last rfl (ReadsK.slice Try.underlying49 (by kernel_rfl) (ReadsK.int Try.underlying3)) (by kernel_rfl)))))) hf
  clear hA0 hval0 hsz0
  refine (FnExactResetArena_walk W cs0 a0 hK0 ok0).mono fun e W' ⟨he, bel⟩ => ?_
  subst he
  exact ⟨_, rfl, _, _, _, [], _, [], hW', trodAll_mk1 (shut_bool Try.underlying4 _), (trodAll_cons_mk (Below.trod laidOut (by kernel_rfl) (of_decide_eq_true (by kernel_rfl)) k0 bel lt0) trodAll_mk0), rfl, bel.frame _, fun h => by cases h⟩
theorem over : Rows.fnExactResetArenaRow.holds Try.pinned (OpenSpec.ofChange Rows.fnExactResetArenaSpec) :=
  OpenClaim.holds_of_wide 11 Try.f11 rfl rfl rfl rfl rfl rfl rfl ⟨rfl, rfl, rfl, rfl, rfl⟩ rfl rfl rfl rfl rfl (by kernel_rfl) Try.func11 (by kernel_rfl)
    (of_decide_eq_true (by kernel_rfl)) (by unfold Func.isWrapper; first | (rw [if_pos (by decide +kernel)]; kernel_rfl) | (rw [if_neg (by decide +kernel)]; exact ⟨rfl, rfl⟩))
    (fun os started H enc _ => lifted os started H enc)
theorem proved : Rows.FnExactResetArenaSaid := over
end Go.Proofs.Ytoomjghabiojkaa.fnExactResetArena
namespace Go.Proofs.Ytoomjghabiojkaa
theorem fnExactResetArena_holds : Rows.FnExactResetArenaSaid := fnExactResetArena.proved
#print axioms fnExactResetArena_holds
end Go.Proofs.Ytoomjghabiojkaa


