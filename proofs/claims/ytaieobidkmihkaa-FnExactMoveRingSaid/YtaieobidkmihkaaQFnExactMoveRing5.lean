/- For all arguments, impl.MoveRing answers what spec.MoveRing answers, leaves its arguments alone, and shares nothing of what it returns.
   The row of the law FnExactMoveRing, out of its walk. Conditions: none. -/
import Derived.Test.YtaieobidkmihkaaQFnExactMoveRing4
import Derived.Test.YtaieobidkmihkaaRows
import Derived.WalkKit
import Derived.ProofKit
import Derived.OpenShut
import Derived.ShutString
import Derived.ChangeOld
import Derived.Below
import Derived.SizedLaws
namespace Go.Proofs.Ytaieobidkmihkaa.P
open Go.RowKit Go.Proofs.YtaieobidkmihkaaW.PrintWords Go.Proofs.YtaieobidkmihkaaW.PrintLast Go.Proofs.YtaieobidkmihkaaW.PrintMore
attribute [local go_sem] max2_int min2_int max_two min_two max_three min_three max_four min_four   -- for this text's walks alone
set_option linter.unusedVariables false
set_option linter.unusedSimpArgs false

/-! ### impl_Memory_elements: function 87 -/
def impl_Memory_elements.l0 : Nat → List Int → List Int → Int → Int → Int → Int → Int → Int → Int → Int → Option (List Int)
  | 0, _, _, _, _, _, _, _, _, _, _ => none
  | k + 1, x5, x6, x14, x15, x713000, x713001, x713002, x713003, x713004, x713005 => if x15 < x14 then ((impl_Ring_slot.f x713000 x713001 x713002 x713003 x713004 x713005 x15).bind fun t719 => (if 0 ≤ t719 then (if t719 < (x6.length : Int) then (if x5.length < 140737488355328 then (impl_Memory_elements.l0 k (x5 ++ [rd x6 t719]) x6 x14 (wrap64 (x15 + 1)) x713000 x713001 x713002 x713003 x713004 x713005) else (none)) else (none)) else (none))) else (some x5)
def impl_Memory_elements.f (k : Nat) (l0_0 : List (List Int)) (a1_0 : Int) (a1_1 : Int) (a1_2 : Int) (a1_3 : Int) (a1_4 : Int) (a1_5 : Int) : Option (List Int) := (impl_Memory_seen.f l0_0 a1_0 a1_1 a1_2 a1_3).bind fun t716 => (impl_Memory_elements.l0 k (([] : List Int)) t716 a1_5 0 a1_0 a1_1 a1_2 a1_3 a1_4 a1_5)
set_option maxHeartbeats 8000000 in
set_option maxRecDepth 100000 in
theorem impl_Memory_elements.calls (k : Nat) (A0_0 : Option Addr) (c0_0 : Nat) (l0_0 : List (List Int)) (a1_0 : Int) (a1_1 : Int) (a1_2 : Int) (a1_3 : Int) (a1_4 : Int) (a1_5 : Int) (r : List Int) (w : World) (hr0_0 : Kd.C (Kd.slice 5 (Kd.int .u8)) w A0_0 l0_0.length l0_0) (hc0_0 : l0_0.length ≤ c0_0) (h : impl_Memory_elements.f k l0_0 a1_0 a1_1 a1_2 a1_3 a1_4 a1_5 = some r) :
    Calls Try.prog 87 #[.agg #[.slice A0_0 l0_0.length c0_0], .agg #[.int .i64 a1_0, .int .i64 a1_1, .int .i64 a1_2, .int .i64 a1_3, .int .i64 a1_4, .int .i64 a1_5]] w fun e w' => ∃ v0_ : Value, e = .returned (v0_) ∧ Kd.R (Kd.int .u8) 5 w' w.heap.size (fun _ => True) v0_ r ∧ Below w.heap.size w w' := by
  have hu31 := Try.underlying31
  have hu34 := Try.underlying34
  have hu32 := Try.underlying32
  have HR0_0 := Aside0.mk hr0_0
  have HC0_0 := Aside0.mk hc0_0
  clear hr0_0 hc0_0
  have HB := Aside0.mk (Below.refl w.heap.size w)
  have H : ((impl_Memory_seen.f l0_0 a1_0 a1_1 a1_2 a1_3).bind fun t716 => (impl_Memory_elements.l0 k (([] : List Int)) t716 a1_5 0 a1_0 a1_1 a1_2 a1_3 a1_4 a1_5)) = some r := h
  clear h
  obtain ⟨y713, hy713⟩ : ∃ y_ : List Int, y_ = (([] : List Int)) := ⟨_, rfl⟩
  replace H : ((impl_Memory_seen.f l0_0 a1_0 a1_1 a1_2 a1_3).bind fun t716 => (impl_Memory_elements.l0 k y713 t716 a1_5 0 a1_0 a1_1 a1_2 a1_3 a1_4 a1_5)) = some r := by first | (rw [hy713]; with_reducible exact H) | (have H2_ := (Option.bind_some _ _).symm.trans H; rw [hy713]; with_reducible exact H2_) | (have H2_ := (Option.bind_some _ _).symm.trans H; with_reducible exact H2_) | with_reducible exact H | (rw [hy713]; exact H) | exact H
  have Ny713 := Aside0.mk hy713
  clear hy713
  replace H := Option.bind_eq_some_iff.mp H
  obtain ⟨t716, A30, H⟩ := H
  replace H : (impl_Memory_elements.l0 k y713 t716 a1_5 0 a1_0 a1_1 a1_2 a1_3 a1_4 a1_5) = some r := H
  have A3 := Aside0.mk A30
  clear A30
  have H' := Aside0.mk H
  clear H
  go_enter Try.func87, Try.ntmps87
  go_wp2_with (first | ((with_reducible refine gate_dst (N := 2) rfl ?_); refine box_event ?hg (N := 2) ?hd (cs := #[.slice A0_0 l0_0.length c0_0]) (t := 31) ?hr ?_; (case hd => rfl); (case hg => rfl); (case hr => first | (go_simp; done) | (go_simp; rfl)); intro gb711 hg w4 hbox hb; have n0_ := Aside0.mk (below_step (by repeat (first | (with_reducible first | exact HB.out | apply below_alloc | apply pw_below_drewN | apply below_drew1) | exact HB.out)) hb); have n1_ := Aside0.mk (hbox); have n2_ := Aside0.mk ((by rw [hg]; exact (below_size (by repeat (first | (with_reducible first | exact HB.out | apply below_alloc | apply pw_below_drewN | apply below_drew1) | exact HB.out))) : w.heap.size ≤ gb711)); have n3_ := Aside0.mk ((by rw [hg]; exact (below_size (by repeat (first | (with_reducible first | exact HB.out | apply below_alloc | apply pw_below_drewN | apply below_drew1) | exact HB.out))) : w.heap.size ≤ gb711)); clear HB; have HB := n0_; have BK711 := n1_; have GW711 := n2_; have GE711 := n3_; clear n0_ n1_ n2_ n3_; clear hb hbox hg) | ((with_reducible refine gate_dst (N := 3) rfl ?_); refine box_event ?hg (N := 3) ?hd (cs := #[.int .i64 a1_0, .int .i64 a1_1, .int .i64 a1_2, .int .i64 a1_3, .int .i64 a1_4, .int .i64 a1_5]) (t := 34) ?hr ?_; (case hd => rfl); (case hg => rfl); (case hr => first | (go_simp; done) | (go_simp; rfl)); intro gb712 hg w5 hbox hb; have n0_ := Aside0.mk (blk_below (g := gb711) (o := .cells #[.slice A0_0 l0_0.length c0_0] 31 (0, 0)) (by (with_reducible repeat (first | refine blk_drewN ?_ _ | refine blk_drew ?_ | refine blk_alloc ?_ _)); exact BK711.out) hb); have n1_ := Aside0.mk (below_step (by repeat (first | (with_reducible first | exact HB.out | apply below_alloc | apply pw_below_drewN | apply below_drew1 | refine below_set ?_ GE711.out) | exact HB.out)) hb); have n2_ := Aside0.mk (hbox); have n3_ := Aside0.mk ((by rw [hg]; exact (below_size (by repeat (first | (with_reducible first | exact HB.out | apply below_alloc | apply pw_below_drewN | apply below_drew1 | refine below_set ?_ GE711.out) | exact HB.out))) : w.heap.size ≤ gb712)); have n4_ := Aside0.mk ((by rw [hg]; exact (below_size (by repeat (first | (with_reducible first | exact HB.out | apply below_alloc | apply pw_below_drewN | apply below_drew1 | refine below_set ?_ GE711.out) | exact HB.out))) : w.heap.size ≤ gb712)); have n5_ := Aside0.mk ((by rw [hg]; exact Nat.ne_of_lt (blk_lt (g := gb711) (o := .cells #[.slice A0_0 l0_0.length c0_0] 31 (0, 0)) (by (with_reducible repeat (first | refine blk_drewN ?_ _ | refine blk_drew ?_ | refine blk_alloc ?_ _)); exact BK711.out)) : gb711 ≠ gb712)); have n6_ := Aside0.mk ((by rw [hg]; exact Nat.ne_of_gt (blk_lt (g := gb711) (o := .cells #[.slice A0_0 l0_0.length c0_0] 31 (0, 0)) (by (with_reducible repeat (first | refine blk_drewN ?_ _ | refine blk_drew ?_ | refine blk_alloc ?_ _)); exact BK711.out)) : gb712 ≠ gb711)); clear BK711; clear HB; have BK711 := n0_; have HB := n1_; have BK712 := n2_; have GW712 := n3_; have GE712 := n4_; have NB711_712 := n5_; have NB712_711 := n6_; clear n0_ n1_ n2_ n3_ n4_ n5_ n6_; clear hb hbox hg) | ((with_reducible refine gate_dst (N := 8) rfl ?_); refine Kd.R_lit (Kd.int .u8) _ 5 ?hg (N := 8) ?hd (xs := ([] : List Int)) (inner := []) (ok := fun _ => True) (okp := fun _ => True) ?hr ?hp (fun _ hk => hk) trivial (Below.refl _ _) (Nat.le_refl _) (by simp) ?_; (case hd => rfl); (case hg => rfl); (case hr => first | (go_simp; done) | (go_simp; rfl)); (case hp => exact (Reps.none _ _)); intro v714 w6 ho7 hb hg_ hnew_; clear hg_ hnew_; (first | rw [← Ny713.out] at ho7 | (simp only [Int.reduceToNat] at ho7; rw [← Ny713.out] at ho7)); have n0_ := Aside0.mk (Kd.R_lower ho7 (below_size (by repeat (first | (with_reducible first | exact HB.out | apply below_alloc | apply pw_below_drewN | apply below_drew1 | refine below_set ?_ GE711.out | refine below_set ?_ GE712.out) | exact HB.out)))); have n1_ := Aside0.mk (blk_below (g := gb711) (o := .cells #[.slice A0_0 l0_0.length c0_0] 31 (0, 0)) (by (with_reducible repeat (first | refine blk_drewN ?_ _ | refine blk_drew ?_ | refine blk_alloc ?_ _)); exact BK711.out) hb); have n2_ := Aside0.mk (blk_below (g := gb712) (o := .cells #[.int .i64 a1_0, .int .i64 a1_1, .int .i64 a1_2, .int .i64 a1_3, .int .i64 a1_4, .int .i64 a1_5] 34 (0, 0)) (by (with_reducible repeat (first | refine blk_drewN ?_ _ | refine blk_drew ?_ | refine blk_alloc ?_ _)); exact BK712.out) hb); have n3_ := Aside0.mk (below_step (by repeat (first | (with_reducible first | exact HB.out | apply below_alloc | apply pw_below_drewN | apply below_drew1 | refine below_set ?_ GE711.out | refine below_set ?_ GE712.out) | exact HB.out)) hb); clear BK711; clear BK712; clear HB; have HO715 := n0_; have BK711 := n1_; have BK712 := n2_; have HB := n3_; clear n0_ n1_ n2_ n3_; clear hb ho7; have hnb8 := NB711_712.out; have hnc8 := NB712_711.out; have hcz9_0 : w6.cell? ⟨gb711, 0, none⟩ = some (.slice A0_0 l0_0.length c0_0) := (blk_cell BK711.out 0).trans rfl; have hfz9_0 := blk_frozen BK711.out 0; have hcz10_0 : w6.cell? ⟨gb712, 0, none⟩ = some (.int .i64 a1_0) := (blk_cell BK712.out 0).trans rfl; have hcz10_1 : w6.cell? ⟨gb712, 1, none⟩ = some (.int .i64 a1_1) := (blk_cell BK712.out 1).trans rfl; have hcz10_2 : w6.cell? ⟨gb712, 2, none⟩ = some (.int .i64 a1_2) := (blk_cell BK712.out 2).trans rfl; have hcz10_3 : w6.cell? ⟨gb712, 3, none⟩ = some (.int .i64 a1_3) := (blk_cell BK712.out 3).trans rfl; have hcz10_4 : w6.cell? ⟨gb712, 4, none⟩ = some (.int .i64 a1_4) := (blk_cell BK712.out 4).trans rfl; have hcz10_5 : w6.cell? ⟨gb712, 5, none⟩ = some (.int .i64 a1_5) := (blk_cell BK712.out 5).trans rfl; have hfz10_0 := blk_frozen BK712.out 0; have hfz10_1 := blk_frozen BK712.out 1; have hfz10_2 := blk_frozen BK712.out 2; have hfz10_3 := blk_frozen BK712.out 3; have hfz10_4 := blk_frozen BK712.out 4; have hfz10_5 := blk_frozen BK712.out 5) | ((with_reducible refine gate_callee (f := 72) rfl ?_); refine goesL_ (some 12) rfl rfl Try.func72 (by kernel_rfl) rfl #[.agg #[.slice A0_0 l0_0.length c0_0], .agg #[.int .i64 a1_0, .int .i64 a1_1, .int .i64 a1_2, .int .i64 a1_3]] rfl (by (try simp only [List.map_toArray, List.map_cons, List.map_nil]); first | done | rfl | (simp only [List.length_drop, List.length_take]; rfl)) ?_; (with_reducible refine (impl_Memory_seen.calls (fun k_ => k_ < w.heap.size) _ _ l0_0 a1_0 a1_1 a1_2 a1_3 t716 _ ?side1 A3.out).mono ?_); (case side1 => exact Kd.V_mk HC0_0.out (Kd.F_below (Kd.C_F (Kd.heap_slice 5 (Kd.heap_int .u8)) HR0_0.out) (by repeat (first | (with_reducible first | exact HB.out | apply below_alloc | apply pw_below_drewN | apply below_drew1 | refine below_set ?_ GE711.out | refine below_set ?_ GE712.out) | exact HB.out)))); rintro e w11 ⟨v717, rfl, ho0, hb⟩; refine ⟨_, rfl, ?_⟩; have n0_ := Aside0.mk (Kd.R_below (by (with_reducible repeat (first | apply Kd.R_alloc | apply Kd.R_drewN | apply Kd.R_drew)); exact HO715.out) hb); have n1_ := Aside0.mk (Kd.V_lower (Kd.V_mono (ok' := fun k_ => some k_ ≠ (v714 : Value).ownBlock ∧ k_ ≠ gb711 ∧ k_ ≠ gb712) ho0 (fun k_ hk_ => ⟨Or.elim hk_ (fun hs_ => fun e_ => Nat.not_le.2 hs_ (Kd.R_base HO715.out k_ e_.symm)) (fun hn_ => (Kd.fresh' (Kd.R_lt (by (with_reducible repeat (first | apply Kd.R_alloc | apply Kd.R_drewN | apply Kd.R_drew)); exact HO715.out)) k_ hn_)), Or.elim hk_ (fun hs_ => fun e_ => Nat.not_le.2 hs_ (by rw [e_]; exact GW711.out)) (fun hn_ => (Kd.freshB (g := gb711) (o := .cells #[.slice A0_0 l0_0.length c0_0] 31 (0, 0)) (by (with_reducible repeat (first | refine blk_drewN ?_ _ | refine blk_drew ?_ | refine blk_alloc ?_ _)); exact BK711.out) k_ hn_)), Or.elim hk_ (fun hs_ => fun e_ => Nat.not_le.2 hs_ (by rw [e_]; exact GW712.out)) (fun hn_ => (Kd.freshB (g := gb712) (o := .cells #[.int .i64 a1_0, .int .i64 a1_1, .int .i64 a1_2, .int .i64 a1_3, .int .i64 a1_4, .int .i64 a1_5] 34 (0, 0)) (by (with_reducible repeat (first | refine blk_drewN ?_ _ | refine blk_drew ?_ | refine blk_alloc ?_ _)); exact BK712.out) k_ hn_))⟩)) (below_size (by repeat (first | (with_reducible first | exact HB.out | apply below_alloc | apply pw_below_drewN | apply below_drew1 | refine below_set ?_ GE711.out | refine below_set ?_ GE712.out) | exact HB.out)))); have n2_ := Aside0.mk (blk_below (g := gb711) (o := .cells #[.slice A0_0 l0_0.length c0_0] 31 (0, 0)) (by (with_reducible repeat (first | refine blk_drewN ?_ _ | refine blk_drew ?_ | refine blk_alloc ?_ _)); exact BK711.out) hb); have n3_ := Aside0.mk (blk_below (g := gb712) (o := .cells #[.int .i64 a1_0, .int .i64 a1_1, .int .i64 a1_2, .int .i64 a1_3, .int .i64 a1_4, .int .i64 a1_5] 34 (0, 0)) (by (with_reducible repeat (first | refine blk_drewN ?_ _ | refine blk_drew ?_ | refine blk_alloc ?_ _)); exact BK712.out) hb); have n4_ := Aside0.mk (below_step (by repeat (first | (with_reducible first | exact HB.out | apply below_alloc | apply pw_below_drewN | apply below_drew1 | refine below_set ?_ GE711.out | refine below_set ?_ GE712.out) | exact HB.out)) hb); clear HO715; clear BK711; clear BK712; clear HB; have HO715 := n0_; have HO718 := n1_; have BK711 := n2_; have BK712 := n3_; have HB := n4_; clear n0_ n1_ n2_ n3_ n4_; (try clear hb); (try clear hb2); (try clear hk); (try clear hi); (try clear ho0); have hcz12_0 : w11.cell? ⟨gb712, 0, none⟩ = some (.int .i64 a1_0) := (blk_cell BK712.out 0).trans rfl; have hcz12_1 : w11.cell? ⟨gb712, 1, none⟩ = some (.int .i64 a1_1) := (blk_cell BK712.out 1).trans rfl; have hcz12_2 : w11.cell? ⟨gb712, 2, none⟩ = some (.int .i64 a1_2) := (blk_cell BK712.out 2).trans rfl; have hcz12_3 : w11.cell? ⟨gb712, 3, none⟩ = some (.int .i64 a1_3) := (blk_cell BK712.out 3).trans rfl; have hcz12_4 : w11.cell? ⟨gb712, 4, none⟩ = some (.int .i64 a1_4) := (blk_cell BK712.out 4).trans rfl; have hcz12_5 : w11.cell? ⟨gb712, 5, none⟩ = some (.int .i64 a1_5) := (blk_cell BK712.out 5).trans rfl; have hfz12_0 := blk_frozen BK712.out 0; have hfz12_1 := blk_frozen BK712.out 1; have hfz12_2 := blk_frozen BK712.out 2; have hfz12_3 := blk_frozen BK712.out 3; have hfz12_4 := blk_frozen BK712.out 4; have hfz12_5 := blk_frozen BK712.out 5))
  go_loopg [5, 15] k (fun kq v5 v15 w' => ∃ (x5_1 : List Int) (x15_1 : Int), v15 = .int .i64 x15_1 ∧ Aside0 (impl_Memory_elements.l0 kq x5_1 t716 a1_5 x15_1 a1_0 a1_1 a1_2 a1_3 a1_4 a1_5 = some r) ∧ Aside0 (kq ≤ k) ∧ Aside0 (Kd.R (Kd.int .u8) 5 w' w.heap.size (fun _ => True) v5 x5_1) ∧ Aside0 (Kd.V (Kd.int .u8) 5 w' w.heap.size (fun k_ => some k_ ≠ (v5 : Value).ownBlock ∧ k_ ≠ gb711 ∧ k_ ≠ gb712) v717 t716) ∧ Aside0 (w'.heap[gb711]? = some (.cells #[(.slice A0_0 l0_0.length c0_0)] 31 (0, 0))) ∧ Aside0 (w'.heap[gb712]? = some (.cells #[.int .i64 a1_0, .int .i64 a1_1, .int .i64 a1_2, .int .i64 a1_3, .int .i64 a1_4, .int .i64 a1_5] 34 (0, 0))) ∧ Aside0 (Below w.heap.size w w'))
  case atStart => exact ⟨(y713), (0), (by first | rfl | (simp; done) | (simp [*]; done)), H', ⟨Nat.le_refl _⟩, ⟨by (with_reducible repeat (first | apply Kd.R_alloc | apply Kd.R_drewN | apply Kd.R_drew)); exact HO715.out⟩, ⟨by (with_reducible repeat (first | apply Kd.V_alloc | apply Kd.V_drewN | apply Kd.V_drew)); exact HO718.out⟩, ⟨by (with_reducible repeat (first | refine blk_drewN ?_ _ | refine blk_drew ?_ | refine blk_alloc ?_ _)); exact BK711.out⟩, ⟨by (with_reducible repeat (first | refine blk_drewN ?_ _ | refine blk_drew ?_ | refine blk_alloc ?_ _)); exact BK712.out⟩, ⟨by repeat (first | (with_reducible first | exact HB.out | apply below_alloc | apply pw_below_drewN | apply below_drew1 | refine below_set ?_ GE711.out | refine below_set ?_ GE712.out) | exact HB.out)⟩⟩
  case round =>
    clear H'
    try clear p2
    try clear c7
    try clear c8
    try clear hcz10_0
    try clear hcz10_1
    try clear hcz10_2
    try clear hcz10_3
    try clear hcz10_4
    try clear hcz10_5
    try clear hcz12_0
    try clear hcz12_1
    try clear hcz12_2
    try clear hcz12_3
    try clear hcz12_4
    try clear hcz12_5
    try clear hcz9_0
    try clear hfz10_0
    try clear hfz10_1
    try clear hfz10_2
    try clear hfz10_3
    try clear hfz10_4
    try clear hfz10_5
    try clear hfz12_0
    try clear hfz12_1
    try clear hfz12_2
    try clear hfz12_3
    try clear hfz12_4
    try clear hfz12_5
    try clear hfz9_0
    obtain ⟨x5_1, x15_1, rfl, HA, HK1, HO_5, HO_6, BK711, BK712, HB⟩ := hrel
    cases gk with
    | zero => exact absurd HA.out (by simp [impl_Memory_elements.l0])
    | succ k1 =>
      have H := HA.out
      clear HA
      simp only [impl_Memory_elements.l0] at H
      by_cases c13 : x15_1 < a1_5
      · rw [if_pos c13] at H
        have c13b0 : decide (x15_1 < a1_5) = true := decide_eq_true c13
        clear c13
        replace H := Option.bind_eq_some_iff.mp H
        obtain ⟨t719, A140, H⟩ := H
        replace H : (if 0 ≤ t719 then (if t719 < (t716.length : Int) then (if x5_1.length < 140737488355328 then (impl_Memory_elements.l0 k1 (x5_1 ++ [rd t716 t719]) t716 a1_5 (wrap64 (x15_1 + 1)) a1_0 a1_1 a1_2 a1_3 a1_4 a1_5) else (none)) else (none)) else (none)) = some r := H
        have A14 := Aside0.mk A140
        clear A140
        by_cases c15 : 0 ≤ t719
        · rw [if_pos c15] at H
          have c15b0 : decide (0 ≤ t719) = true := decide_eq_true c15
          clear c15
          by_cases c16 : t719 < (t716.length : Int)
          · rw [if_pos c16] at H
            have c16b0 : decide (t719 < (t716.length : Int)) = true := decide_eq_true c16
            clear c16
            by_cases c17 : x5_1.length < 140737488355328
            · rw [if_pos c17] at H
              have LMc17 := Aside0.mk c17
              clear c17
              obtain ⟨y721, hy721⟩ : ∃ y_ : List Int, y_ = (x5_1 ++ [rd t716 t719]) := ⟨_, rfl⟩
              replace H : (impl_Memory_elements.l0 k1 y721 t716 a1_5 (wrap64 (x15_1 + 1)) a1_0 a1_1 a1_2 a1_3 a1_4 a1_5) = some r := by first | (rw [hy721]; with_reducible exact H) | (have H2_ := (Option.bind_some _ _).symm.trans H; rw [hy721]; with_reducible exact H2_) | (have H2_ := (Option.bind_some _ _).symm.trans H; with_reducible exact H2_) | with_reducible exact H | (rw [hy721]; exact H) | exact H
              have Ny721 := Aside0.mk hy721
              clear hy721
              have H' := Aside0.mk H
              clear H
              have hnb18 := NB712_711.out
              have hnc18 := NB711_712.out
              have hcz19_0 : wr.cell? ⟨gb712, 0, none⟩ = some (.int .i64 a1_0) := (blk_cell BK712.out 0).trans rfl
              have hcz19_1 : wr.cell? ⟨gb712, 1, none⟩ = some (.int .i64 a1_1) := (blk_cell BK712.out 1).trans rfl
              have hcz19_2 : wr.cell? ⟨gb712, 2, none⟩ = some (.int .i64 a1_2) := (blk_cell BK712.out 2).trans rfl
              have hcz19_3 : wr.cell? ⟨gb712, 3, none⟩ = some (.int .i64 a1_3) := (blk_cell BK712.out 3).trans rfl
              have hcz19_4 : wr.cell? ⟨gb712, 4, none⟩ = some (.int .i64 a1_4) := (blk_cell BK712.out 4).trans rfl
              have hcz19_5 : wr.cell? ⟨gb712, 5, none⟩ = some (.int .i64 a1_5) := (blk_cell BK712.out 5).trans rfl
              have hfz19_0 := blk_frozen BK712.out 0
              have hfz19_1 := blk_frozen BK712.out 1
              have hfz19_2 := blk_frozen BK712.out 2
              have hfz19_3 := blk_frozen BK712.out 3
              have hfz19_4 := blk_frozen BK712.out 4
              have hfz19_5 := blk_frozen BK712.out 5
              go_wp2_with (first | ((with_reducible refine gate_callee (f := 73) rfl ?_); refine goesL_ (some 22) rfl rfl Try.func73 (by kernel_rfl) rfl #[.agg #[.int .i64 a1_0, .int .i64 a1_1, .int .i64 a1_2, .int .i64 a1_3, .int .i64 a1_4, .int .i64 a1_5], .int .i64 x15_1] rfl (by (try simp only [List.map_toArray, List.map_cons, List.map_nil]); first | done | rfl | (simp only [List.length_drop, List.length_take]; rfl)) ?_; (with_reducible refine (impl_Ring_slot.calls a1_0 a1_1 a1_2 a1_3 a1_4 a1_5 x15_1 t719 _ A14.out).mono ?_); rintro e w20 ⟨rfl, hb⟩; refine ⟨_, rfl, ?_⟩; have n0_ := Aside0.mk (Kd.R_below (by (with_reducible repeat (first | apply Kd.R_alloc | apply Kd.R_drewN | apply Kd.R_drew)); exact HO_5.out) hb); have n1_ := Aside0.mk (Kd.V_below (by (with_reducible repeat (first | apply Kd.V_alloc | apply Kd.V_drewN | apply Kd.V_drew)); exact HO_6.out) hb); have n2_ := Aside0.mk (blk_below (g := gb711) (o := .cells #[.slice A0_0 l0_0.length c0_0] 31 (0, 0)) (by (with_reducible repeat (first | refine blk_drewN ?_ _ | refine blk_drew ?_ | refine blk_alloc ?_ _)); exact BK711.out) hb); have n3_ := Aside0.mk (blk_below (g := gb712) (o := .cells #[.int .i64 a1_0, .int .i64 a1_1, .int .i64 a1_2, .int .i64 a1_3, .int .i64 a1_4, .int .i64 a1_5] 34 (0, 0)) (by (with_reducible repeat (first | refine blk_drewN ?_ _ | refine blk_drew ?_ | refine blk_alloc ?_ _)); exact BK712.out) hb); have n4_ := Aside0.mk (below_step (by repeat (first | (with_reducible first | exact HB.out | apply below_alloc | apply pw_below_drewN | apply below_drew1 | refine below_set ?_ GE711.out | refine below_set ?_ GE712.out) | exact HB.out)) hb); clear HO_5; clear HO_6; clear BK711; clear BK712; clear HB; have HO_5 := n0_; have HO_6 := n1_; have BK711 := n2_; have BK712 := n3_; have HB := n4_; clear n0_ n1_ n2_ n3_ n4_; (try clear hb); (try clear hb2); (try clear hk); (try clear hi); obtain ⟨Ao21, co21, eo21⟩ := Kd.V_slice HO_6.out; subst eo21; have p720 : 0 ≤ (t719 : Int) := of_decide_eq_true (by first | (with_reducible assumption) | assumption); have q720 : t719 < (t716.length : Int) := of_decide_eq_true (by first | (with_reducible assumption) | assumption); obtain ⟨ad720, e720, hx720_0⟩ := Kd.at_int (Kd.V_reads' HO_6.out).2.2 t719 p720 q720; cases e720; replace p720 := eq_true p720; replace q720 := eq_true q720) | ((with_reducible refine gate_builtin (b := .append) (xs := #[.tmp 18, .tmp 25]) rfl ?_); at_builtin; refine Kd.R_append (Kd.int .u8) (w0 := w) w.heap.size rfl (.tmp 18) (.tmp 25) 29 5 (.int .u8 0) 1 rfl Try.underlying29 info5 rfl (by decide) (by omega) u5 x5_1 (rd t716 t719) [.int .u8 (rd t716 t719)] (fun _ => True) (fun _ => False) rfl rfl ?aP (fun _ hk => hk.elim) ?aF ?aO ?aB ?aS ?aL ?_; (case aP => exact rfl); (case aB => exact (by repeat (first | (with_reducible first | exact HB.out | apply below_alloc | apply pw_below_drewN | apply below_drew1 | refine below_set ?_ GE711.out | refine below_set ?_ GE712.out) | exact HB.out))); (case aF => exact (fun _ _ => trivial)); (case aO => exact (by (with_reducible repeat (first | apply Kd.R_alloc | apply Kd.R_drewN | apply Kd.R_drew)); exact HO_5.out)); (case aS => exact (below_size (by repeat (first | (with_reducible first | exact HB.out | apply below_alloc | apply pw_below_drewN | apply below_drew1 | refine below_set ?_ GE711.out | refine below_set ?_ GE712.out) | exact HB.out)))); (case aL => have := LMc17.out; omega); intro v722 w22 ho hb hg hat; rw [← Ny721.out] at ho; have n0_ := Aside0.mk (Kd.V_afterv (ok := (fun k_ => k_ ≠ gb711 ∧ k_ ≠ gb712)) (by (with_reducible repeat (first | apply Kd.V_alloc | apply Kd.V_drewN | apply Kd.V_drew)); exact Kd.V_mono HO_6.out (fun _ hk => ⟨⟨hk.2.1, hk.2.2⟩, hk.1⟩)) hg hat); have n1_ := Aside0.mk (blk_grown (g := gb711) (o := .cells #[.slice A0_0 l0_0.length c0_0] 31 (0, 0)) (by (with_reducible repeat (first | refine blk_drewN ?_ _ | refine blk_drew ?_ | refine blk_alloc ?_ _)); exact BK711.out) hg (Kd.R_ne HO_5.out BK711.out (by decide))); have n2_ := Aside0.mk (blk_grown (g := gb712) (o := .cells #[.int .i64 a1_0, .int .i64 a1_1, .int .i64 a1_2, .int .i64 a1_3, .int .i64 a1_4, .int .i64 a1_5] 34 (0, 0)) (by (with_reducible repeat (first | refine blk_drewN ?_ _ | refine blk_drew ?_ | refine blk_alloc ?_ _)); exact BK712.out) hg (Kd.R_ne HO_5.out BK712.out (by decide))); have n3_ := Aside0.mk (hb); have n4_ := Aside0.mk (ho); clear HO_6; clear BK711; clear BK712; clear HB; clear HO_5; have HO_6 := n0_; have BK711 := n1_; have BK712 := n2_; have HB := n3_; have HO723 := n4_; clear n0_ n1_ n2_ n3_ n4_; clear ho hb hg hat))
              go_roundg k1
              case measure => have := HK1.out; omega
              case rel => exact ⟨(y721), (wrap64 (x15_1 + 1)), (by first | rfl | (simp; done) | (simp [*]; done)), H', ⟨by have := HK1.out; omega⟩, ⟨by (with_reducible repeat (first | apply Kd.R_alloc | apply Kd.R_drewN | apply Kd.R_drew)); exact HO723.out⟩, ⟨by (with_reducible repeat (first | apply Kd.V_alloc | apply Kd.V_drewN | apply Kd.V_drew)); exact Kd.V_mono HO_6.out (fun _ hk => ⟨hk.2, ⟨hk.1.1, hk.1.2⟩⟩)⟩, ⟨by (with_reducible repeat (first | refine blk_drewN ?_ _ | refine blk_drew ?_ | refine blk_alloc ?_ _)); exact BK711.out⟩, ⟨by (with_reducible repeat (first | refine blk_drewN ?_ _ | refine blk_drew ?_ | refine blk_alloc ?_ _)); exact BK712.out⟩, ⟨by repeat (first | (with_reducible first | exact HB.out | apply below_alloc | apply pw_below_drewN | apply below_drew1 | refine below_set ?_ GE711.out | refine below_set ?_ GE712.out) | exact HB.out)⟩⟩
            · rw [if_neg c17] at H
              exact absurd H (by simp)
          · rw [if_neg c16] at H
            exact absurd H (by simp)
        · rw [if_neg c15] at H
          exact absurd H (by simp)
      · rw [if_neg c13] at H
        have c13b0 : decide (x15_1 < a1_5) = false := decide_eq_false c13
        clear c13
        obtain rfl := Option.some.inj H
        go_wp2
        go_ret
        exact ⟨_, by first | rfl | (simp [errW_none, errW_some] <;> rfl) | (simp [*, errW_none, errW_some] <;> rfl), by (with_reducible repeat (first | apply Kd.R_alloc | apply Kd.R_drewN | apply Kd.R_drew)); exact HO_5.out, by repeat (first | (with_reducible first | exact HB.out | apply below_alloc | apply pw_below_drewN | apply below_drew1 | refine below_set ?_ GE711.out | refine below_set ?_ GE712.out) | exact HB.out)⟩

end Go.Proofs.Ytaieobidkmihkaa.P


-- written by wip/gen_fn.py
namespace Go.Proofs.Ytaieobidkmihkaa.P
open Go.RowKit Go.Proofs.YtaieobidkmihkaaW.PrintWords Go.Proofs.YtaieobidkmihkaaW.PrintLast Go.Proofs.YtaieobidkmihkaaW.PrintMore Go.Proofs.YtaieobidkmihkaaW.Mine
open List (setIfInBounds_toArray set_cons_zero set_cons_succ)
attribute [local go_sem] max2_int min2_int max_two min_two max_three min_three max_four min_four
set_option linter.unusedVariables false
set_option linter.unusedSimpArgs false
set_option maxHeartbeats 8000000 in
set_option maxRecDepth 100000 in
theorem impl_MoveRing_w0 (A0_0 : Option Addr) (c0_0 : Nat) (l0_0 : List (List Int)) (a1_0 : Int) (a1_1 : Int) (a1_2 : Int) (a1_3 : Int) (a1_4 : Int) (a1_5 : Int) (a2_0 : Int) (w : World) (hr0_0 : Kd.C (Kd.slice 5 (Kd.int .u8)) w A0_0 l0_0.length l0_0) (hc0_0 : l0_0.length ≤ c0_0) (H1 : ∃ k, impl_isRing.f k l0_0 a1_0 a1_1 a1_2 a1_3 a1_4 a1_5 = some false) :
    Calls Try.prog 39 #[.agg #[.slice A0_0 l0_0.length c0_0], .agg #[.int .i64 a1_0, .int .i64 a1_1, .int .i64 a1_2, .int .i64 a1_3, .int .i64 a1_4, .int .i64 a1_5], .int .i64 a2_0] w fun e w' => ∃ v0_ : Value, e = .returned (.tuple #[.agg #[v0_], .agg #[.int .i64 0, .int .i64 0, .int .i64 0, .int .i64 0, .int .i64 0, .int .i64 0], .bool false]) ∧ Kd.S (Kd.slice 5 (Kd.int .u8)) 29 w' w.heap.size (fun _ => True) v0_ [] ∧ Below w.heap.size w w' := by
  have HR0_0 := Aside0.mk hr0_0; have HC0_0 := Aside0.mk hc0_0; clear hr0_0 hc0_0
  obtain ⟨k, H1_⟩ := H1; have H1 := Aside0.mk H1_; clear H1_
  have HS0 : Aside0 (Stk w [] w) := ⟨Stk.nil w⟩
  go_enter Try.func39, Try.ntmps39
  refine reg (aF := ?_) (nw := ?_) [evB 0 3 [] 31 (fun s => #[.slice A0_0 l0_0.length c0_0]) 9999 [] (fun s => #[.slice A0_0 l0_0.length c0_0]), evB 1 4 [] 34 (fun s => #[.int .i64 a1_0, .int .i64 a1_1, .int .i64 a1_2, .int .i64 a1_3, .int .i64 a1_4, .int .i64 a1_5]) 9999 [] (fun s => #[.int .i64 a1_0, .int .i64 a1_1, .int .i64 a1_2, .int .i64 a1_3, .int .i64 a1_4, .int .i64 a1_5]), evB 2 6 [] 31 (fun s => #[.slice none 0 0]) 9999 [] (fun s => #[.slice none 0 0]), evB 3 7 [] 34 (fun s => #[.int .i64 0, .int .i64 0, .int .i64 0, .int .i64 0, .int .i64 0, .int .i64 0]) 9999 [] (fun s => #[.int .i64 0, .int .i64 0, .int .i64 0, .int .i64 0, .int .i64 0, .int .i64 0]), evP 4 8 [] (fun s => .bool false)] [] [] false 5 rfl rfl (by kernel_rfl) rfl (mf0) ?aF ?nw HS0.out ?hs ?_
  rotate_left 2
  case aF => intro s; simp only [putE, EvT.val, Act.put, setIfInBounds_toArray, set_cons_zero, set_cons_succ]; rfl
  case nw => intro s; simp only [thA, bsA, List.nil_append, List.cons_append, List.append_nil, if_true, if_false, Nat.reduceLT, set_cons_zero, set_cons_succ]; rfl
  case hs => exact ⟨bv rfl (fun s w => by go_simp; try rfl), bv rfl (fun s w => by go_simp; try rfl), bv rfl (fun s w => by go_simp; try rfl), bv rfl (fun s w => by go_simp; try rfl), pu rfl, trivial⟩
  intro s1 w1 h; have HS1 := Aside0.mk h; clear h HS0
  refine tl0 ?_
  refine wp_seq ?_
  refine reg0 (aF := ?_) [evL 0 12 [] (fun s => .agg #[.slice A0_0 l0_0.length c0_0]), evL 1 13 [] (fun s => .agg #[.int .i64 a1_0, .int .i64 a1_1, .int .i64 a1_2, .int .i64 a1_3, .int .i64 a1_4, .int .i64 a1_5]), evC 2 (some 14) [] (fun s x => .bool false) (fun s x => []), evP 3 15 [] (fun s => .bool true), evP 4 16 [] (fun s => .bool true), evP 5 17 [] (fun s => undef), evP 6 18 [] (fun s => undef), evP 7 19 [] (fun s => undef), evP 8 20 [] (fun s => undef), evP 9 21 [] (fun s => .bool true)] [] false 10 rfl rfl (by kernel_rfl) rfl (fun _ => rfl) ?aF HS1.out ?hs ?_
  rotate_left 1
  case aF => intro s; simp only [putE, EvT.val, Act.put, setIfInBounds_toArray, set_cons_zero, set_cons_succ]; rfl
  case hs => exact ⟨ld rfl 0 (fun s => rfl) (fun s w h => by have h0 := h 0 _ rfl; clear h; go_simp; try rfl), ld rfl 1 (fun s => rfl) (fun s w h => by have h0 := h 0 _ rfl; have h1 := h 1 _ rfl; have h2 := h 2 _ rfl; have h3 := h 3 _ rfl; have h4 := h 4 _ rfl; have h5 := h 5 _ rfl; clear h; go_simp; try rfl), cl rfl (fun s => #[.agg #[.slice A0_0 l0_0.length c0_0], .agg #[.int .i64 a1_0, .int .i64 a1_1, .int .i64 a1_2, .int .i64 a1_3, .int .i64 a1_4, .int .i64 a1_5]]) Try.func70 (fun s w1 h => (impl_isRing.calls _ _ _ _ _ _ _ _ _ _ _ _ (Kd.C_below HR0_0.out h.hb) HC0_0.out H1.out).mono (by rintro e w2 ⟨rfl, hb⟩; exact fin0 hb)), pu rfl, pu rfl, pf rfl, pf rfl, pf rfl, pf rfl, pu rfl, trivial⟩
  intro s2 w2 h; have HS2 := Aside0.mk h; clear h HS1
  refine tl0 ?_
  refine wp_cond_true rfl ?_
  refine reg (aF := ?_) (nw := ?_) [evP 0 22 [] (fun s => .agg #[.slice none 0 0]), evP 1 23 [] (fun s => .agg #[.int .i64 0, .int .i64 0, .int .i64 0, .int .i64 0, .int .i64 0, .int .i64 0]), evS 2, evS 3] [4] [⟨2, 2, [], fun s => boxT (s1 2).lo #[.slice none 0 0] 31⟩, ⟨3, 3, [], fun s => boxT (s1 3).lo #[.int .i64 0, .int .i64 0, .int .i64 0, .int .i64 0, .int .i64 0, .int .i64 0] 34⟩] false 5 rfl rfl (by kernel_rfl) rfl ((mf1 (mf1 mf0))) ?aF ?nw HS2.out ?hs ?_
  rotate_left 2
  case aF => intro s; simp only [putE, EvT.val, Act.put, setIfInBounds_toArray, set_cons_zero, set_cons_succ]; rfl
  case nw => intro s; simp only [thA, bsA, List.nil_append, List.cons_append, List.append_nil, if_true, if_false, Nat.reduceLT, set_cons_zero, set_cons_succ]; rfl
  case hs => exact ⟨pu rfl (hr := fun s w => by go_simp; try rfl), pu rfl (hr := fun s w => by go_simp; try rfl), sb rfl 0 2 0 (fun s => [.slice none 0 0]) rfl rfl (fun s w h hf => by have h0 := h 0 _ rfl; have f0 := hf 0; clear h hf; go_simp; try rfl), sb rfl 1 3 0 (fun s => [.int .i64 0, .int .i64 0, .int .i64 0, .int .i64 0, .int .i64 0, .int .i64 0]) rfl rfl (fun s w h hf => by have h0 := h 0 _ rfl; have f0 := hf 0; have h1 := h 1 _ rfl; have f1 := hf 1; have h2 := h 2 _ rfl; have f2 := hf 2; have h3 := h 3 _ rfl; have f3 := hf 3; have h4 := h 4 _ rfl; have f4 := hf 4; have h5 := h 5 _ rfl; have f5 := hf 5; clear h hf; go_simp; try rfl), trivial⟩
  intro s3 w3 h; have HS3 := Aside0.mk h; clear h HS2
  refine tlP (v := .bool false) 8 rfl ?_
  refine tl0 ?_
  refine wp_ret ?_
  try simp only [Exit.inBlock, Exit.then]
  refine bodyPost_ret (results_list (rs := [.cell 6 31, .cell 7 34, .tmp 8]) rfl (by simp) (.cell (s1 2).lo 31 #[.slice none 0 0] (0, 0) _ rfl (show bx (s1 2).lo #[.slice none 0 0] 31 _ from HS3.out.get 2 rfl) Try.underlying31 rfl (by kernel_rfl) (.cell (s1 3).lo 34 #[.int .i64 0, .int .i64 0, .int .i64 0, .int .i64 0, .int .i64 0, .int .i64 0] (0, 0) _ rfl (show bx (s1 3).lo #[.int .i64 0, .int .i64 0, .int .i64 0, .int .i64 0, .int .i64 0, .int .i64 0] 34 _ from HS3.out.get 3 rfl) Try.underlying34 rfl (by kernel_rfl) (.tmp .nil)))) rfl ?_
  exact ⟨_, by first | rfl | simp, Kd.S_nil _ _ _ _ _, HS3.out.hb⟩
set_option maxHeartbeats 8000000 in
set_option maxRecDepth 100000 in
theorem impl_MoveRing_w1 (A0_0 : Option Addr) (c0_0 : Nat) (l0_0 : List (List Int)) (a1_0 : Int) (a1_1 : Int) (a1_2 : Int) (a1_3 : Int) (a1_4 : Int) (a1_5 : Int) (a2_0 : Int) (w : World) (hr0_0 : Kd.C (Kd.slice 5 (Kd.int .u8)) w A0_0 l0_0.length l0_0) (hc0_0 : l0_0.length ≤ c0_0) (H1 : ∃ k, impl_isRing.f k l0_0 a1_0 a1_1 a1_2 a1_3 a1_4 a1_5 = some true) (T0 : (decide (a2_0 < a1_5)) = true) :
    Calls Try.prog 39 #[.agg #[.slice A0_0 l0_0.length c0_0], .agg #[.int .i64 a1_0, .int .i64 a1_1, .int .i64 a1_2, .int .i64 a1_3, .int .i64 a1_4, .int .i64 a1_5], .int .i64 a2_0] w fun e w' => ∃ v0_ : Value, e = .returned (.tuple #[.agg #[v0_], .agg #[.int .i64 0, .int .i64 0, .int .i64 0, .int .i64 0, .int .i64 0, .int .i64 0], .bool false]) ∧ Kd.S (Kd.slice 5 (Kd.int .u8)) 29 w' w.heap.size (fun _ => True) v0_ [] ∧ Below w.heap.size w w' := by
  have HR0_0 := Aside0.mk hr0_0; have HC0_0 := Aside0.mk hc0_0; clear hr0_0 hc0_0
  obtain ⟨k, H1_⟩ := H1; have H1 := Aside0.mk H1_; clear H1_
  have T0_ := Aside0.mk T0; clear T0; have T0 := T0_; clear T0_
  have HS0 : Aside0 (Stk w [] w) := ⟨Stk.nil w⟩
  go_enter Try.func39, Try.ntmps39
  refine reg (aF := ?_) (nw := ?_) [evB 0 3 [] 31 (fun s => #[.slice A0_0 l0_0.length c0_0]) 9999 [] (fun s => #[.slice A0_0 l0_0.length c0_0]), evB 1 4 [] 34 (fun s => #[.int .i64 a1_0, .int .i64 a1_1, .int .i64 a1_2, .int .i64 a1_3, .int .i64 a1_4, .int .i64 a1_5]) 9999 [] (fun s => #[.int .i64 a1_0, .int .i64 a1_1, .int .i64 a1_2, .int .i64 a1_3, .int .i64 a1_4, .int .i64 a1_5]), evB 2 6 [] 31 (fun s => #[.slice none 0 0]) 9999 [] (fun s => #[.slice none 0 0]), evB 3 7 [] 34 (fun s => #[.int .i64 0, .int .i64 0, .int .i64 0, .int .i64 0, .int .i64 0, .int .i64 0]) 9999 [] (fun s => #[.int .i64 0, .int .i64 0, .int .i64 0, .int .i64 0, .int .i64 0, .int .i64 0]), evP 4 8 [] (fun s => .bool false)] [] [] false 5 rfl rfl (by kernel_rfl) rfl (mf0) ?aF ?nw HS0.out ?hs ?_
  rotate_left 2
  case aF => intro s; simp only [putE, EvT.val, Act.put, setIfInBounds_toArray, set_cons_zero, set_cons_succ]; rfl
  case nw => intro s; simp only [thA, bsA, List.nil_append, List.cons_append, List.append_nil, if_true, if_false, Nat.reduceLT, set_cons_zero, set_cons_succ]; rfl
  case hs => exact ⟨bv rfl (fun s w => by go_simp; try rfl), bv rfl (fun s w => by go_simp; try rfl), bv rfl (fun s w => by go_simp; try rfl), bv rfl (fun s w => by go_simp; try rfl), pu rfl, trivial⟩
  intro s1 w1 h; have HS1 := Aside0.mk h; clear h HS0
  refine tl0 ?_
  refine wp_seq ?_
  refine reg0 (aF := ?_) [evL 0 12 [] (fun s => .agg #[.slice A0_0 l0_0.length c0_0]), evL 1 13 [] (fun s => .agg #[.int .i64 a1_0, .int .i64 a1_1, .int .i64 a1_2, .int .i64 a1_3, .int .i64 a1_4, .int .i64 a1_5]), evC 2 (some 14) [] (fun s x => .bool true) (fun s x => []), evP 3 15 [] (fun s => .bool false), evP 4 16 [] (fun s => .bool false), evP 5 17 [] (fun s => .int .i64 a2_0), evP 6 18 [] (fun s => .pointer (some ⟨(s1 1).lo, 5, none⟩)), evL 7 19 [] (fun s => .int .i64 a1_5), evP 8 20 [] (fun s => .bool true), evP 9 21 [] (fun s => .bool true)] [] false 10 rfl rfl (by kernel_rfl) rfl (fun _ => rfl) ?aF HS1.out ?hs ?_
  rotate_left 1
  case aF => intro s; simp only [putE, EvT.val, Act.put, setIfInBounds_toArray, set_cons_zero, set_cons_succ]; rfl
  case hs => exact ⟨ld rfl 0 (fun s => rfl) (fun s w h => by have h0 := h 0 _ rfl; clear h; go_simp; try rfl), ld rfl 1 (fun s => rfl) (fun s w h => by have h0 := h 0 _ rfl; have h1 := h 1 _ rfl; have h2 := h 2 _ rfl; have h3 := h 3 _ rfl; have h4 := h 4 _ rfl; have h5 := h 5 _ rfl; clear h; go_simp; try rfl), cl rfl (fun s => #[.agg #[.slice A0_0 l0_0.length c0_0], .agg #[.int .i64 a1_0, .int .i64 a1_1, .int .i64 a1_2, .int .i64 a1_3, .int .i64 a1_4, .int .i64 a1_5]]) Try.func70 (fun s w1 h => (impl_isRing.calls _ _ _ _ _ _ _ _ _ _ _ _ (Kd.C_below HR0_0.out h.hb) HC0_0.out H1.out).mono (by rintro e w2 ⟨rfl, hb⟩; exact fin0 hb)), pu rfl, pu rfl, pu rfl, pu rfl (hr := fun s w => by go_simp; try rfl), ld rfl 1 (fun s => rfl) (fun s w h => by have h0 := h 0 _ rfl; have h1 := h 1 _ rfl; have h2 := h 2 _ rfl; have h3 := h 3 _ rfl; have h4 := h 4 _ rfl; have h5 := h 5 _ rfl; clear h; go_simp; try rfl), pb (q := .lss) T0.out rfl, pu rfl, trivial⟩
  intro s2 w2 h; have HS2 := Aside0.mk h; clear h HS1
  refine tl0 ?_
  refine wp_cond_true rfl ?_
  refine reg (aF := ?_) (nw := ?_) [evP 0 22 [] (fun s => .agg #[.slice none 0 0]), evP 1 23 [] (fun s => .agg #[.int .i64 0, .int .i64 0, .int .i64 0, .int .i64 0, .int .i64 0, .int .i64 0]), evS 2, evS 3] [4] [⟨2, 2, [], fun s => boxT (s1 2).lo #[.slice none 0 0] 31⟩, ⟨3, 3, [], fun s => boxT (s1 3).lo #[.int .i64 0, .int .i64 0, .int .i64 0, .int .i64 0, .int .i64 0, .int .i64 0] 34⟩] false 5 rfl rfl (by kernel_rfl) rfl ((mf1 (mf1 mf0))) ?aF ?nw HS2.out ?hs ?_
  rotate_left 2
  case aF => intro s; simp only [putE, EvT.val, Act.put, setIfInBounds_toArray, set_cons_zero, set_cons_succ]; rfl
  case nw => intro s; simp only [thA, bsA, List.nil_append, List.cons_append, List.append_nil, if_true, if_false, Nat.reduceLT, set_cons_zero, set_cons_succ]; rfl
  case hs => exact ⟨pu rfl (hr := fun s w => by go_simp; try rfl), pu rfl (hr := fun s w => by go_simp; try rfl), sb rfl 0 2 0 (fun s => [.slice none 0 0]) rfl rfl (fun s w h hf => by have h0 := h 0 _ rfl; have f0 := hf 0; clear h hf; go_simp; try rfl), sb rfl 1 3 0 (fun s => [.int .i64 0, .int .i64 0, .int .i64 0, .int .i64 0, .int .i64 0, .int .i64 0]) rfl rfl (fun s w h hf => by have h0 := h 0 _ rfl; have f0 := hf 0; have h1 := h 1 _ rfl; have f1 := hf 1; have h2 := h 2 _ rfl; have f2 := hf 2; have h3 := h 3 _ rfl; have f3 := hf 3; have h4 := h 4 _ rfl; have f4 := hf 4; have h5 := h 5 _ rfl; have f5 := hf 5; clear h hf; go_simp; try rfl), trivial⟩
  intro s3 w3 h; have HS3 := Aside0.mk h; clear h HS2
  refine tlP (v := .bool false) 8 rfl ?_
  refine tl0 ?_
  refine wp_ret ?_
  try simp only [Exit.inBlock, Exit.then]
  refine bodyPost_ret (results_list (rs := [.cell 6 31, .cell 7 34, .tmp 8]) rfl (by simp) (.cell (s1 2).lo 31 #[.slice none 0 0] (0, 0) _ rfl (show bx (s1 2).lo #[.slice none 0 0] 31 _ from HS3.out.get 2 rfl) Try.underlying31 rfl (by kernel_rfl) (.cell (s1 3).lo 34 #[.int .i64 0, .int .i64 0, .int .i64 0, .int .i64 0, .int .i64 0, .int .i64 0] (0, 0) _ rfl (show bx (s1 3).lo #[.int .i64 0, .int .i64 0, .int .i64 0, .int .i64 0, .int .i64 0, .int .i64 0] 34 _ from HS3.out.get 3 rfl) Try.underlying34 rfl (by kernel_rfl) (.tmp .nil)))) rfl ?_
  exact ⟨_, by first | rfl | simp, Kd.S_nil _ _ _ _ _, HS3.out.hb⟩
set_option maxHeartbeats 8000000 in
set_option maxRecDepth 100000 in
theorem impl_MoveRing_w2 (A0_0 : Option Addr) (c0_0 : Nat) (l0_0 : List (List Int)) (a1_0 : Int) (a1_1 : Int) (a1_2 : Int) (a1_3 : Int) (a1_4 : Int) (a1_5 : Int) (a2_0 : Int) (r2_0 : List (List Int)) (r2_1 : Int) (r2_2 : Int) (r2_3 : Int) (r2_4 : Int) (w : World) (hr0_0 : Kd.C (Kd.slice 5 (Kd.int .u8)) w A0_0 l0_0.length l0_0) (hc0_0 : l0_0.length ≤ c0_0) (H1 : ∃ k, impl_isRing.f k l0_0 a1_0 a1_1 a1_2 a1_3 a1_4 a1_5 = some true) (H2 : ∃ k, impl_NewArray.f k l0_0 a2_0 = some (r2_0, r2_1, r2_2, r2_3, r2_4, false)) (T0 : (decide (a2_0 < a1_5)) = false) :
    Calls Try.prog 39 #[.agg #[.slice A0_0 l0_0.length c0_0], .agg #[.int .i64 a1_0, .int .i64 a1_1, .int .i64 a1_2, .int .i64 a1_3, .int .i64 a1_4, .int .i64 a1_5], .int .i64 a2_0] w fun e w' => ∃ v0_ : Value, e = .returned (.tuple #[.agg #[v0_], .agg #[.int .i64 0, .int .i64 0, .int .i64 0, .int .i64 0, .int .i64 0, .int .i64 0], .bool false]) ∧ Kd.S (Kd.slice 5 (Kd.int .u8)) 29 w' w.heap.size (fun _ => True) v0_ [] ∧ Below w.heap.size w w' := by
  have HR0_0 := Aside0.mk hr0_0; have HC0_0 := Aside0.mk hc0_0; clear hr0_0 hc0_0
  obtain ⟨k, H1_⟩ := H1; have H1 := Aside0.mk H1_; clear H1_
  obtain ⟨k, H2_⟩ := H2; have H2 := Aside0.mk H2_; clear H2_
  have T0_ := Aside0.mk T0; clear T0; have T0 := T0_; clear T0_
  have HS0 : Aside0 (Stk w [] w) := ⟨Stk.nil w⟩
  go_enter Try.func39, Try.ntmps39
  refine reg (aF := ?_) (nw := ?_) [evB 0 3 [] 31 (fun s => #[.slice A0_0 l0_0.length c0_0]) 9999 [] (fun s => #[.slice A0_0 l0_0.length c0_0]), evB 1 4 [] 34 (fun s => #[.int .i64 a1_0, .int .i64 a1_1, .int .i64 a1_2, .int .i64 a1_3, .int .i64 a1_4, .int .i64 a1_5]) 9999 [] (fun s => #[.int .i64 a1_0, .int .i64 a1_1, .int .i64 a1_2, .int .i64 a1_3, .int .i64 a1_4, .int .i64 a1_5]), evB 2 6 [] 31 (fun s => #[.slice none 0 0]) 9999 [] (fun s => #[.slice none 0 0]), evB 3 7 [] 34 (fun s => #[.int .i64 0, .int .i64 0, .int .i64 0, .int .i64 0, .int .i64 0, .int .i64 0]) 9999 [] (fun s => #[.int .i64 0, .int .i64 0, .int .i64 0, .int .i64 0, .int .i64 0, .int .i64 0]), evP 4 8 [] (fun s => .bool false)] [] [] false 5 rfl rfl (by kernel_rfl) rfl (mf0) ?aF ?nw HS0.out ?hs ?_
  rotate_left 2
  case aF => intro s; simp only [putE, EvT.val, Act.put, setIfInBounds_toArray, set_cons_zero, set_cons_succ]; rfl
  case nw => intro s; simp only [thA, bsA, List.nil_append, List.cons_append, List.append_nil, if_true, if_false, Nat.reduceLT, set_cons_zero, set_cons_succ]; rfl
  case hs => exact ⟨bv rfl (fun s w => by go_simp; try rfl), bv rfl (fun s w => by go_simp; try rfl), bv rfl (fun s w => by go_simp; try rfl), bv rfl (fun s w => by go_simp; try rfl), pu rfl, trivial⟩
  intro s1 w1 h; have HS1 := Aside0.mk h; clear h HS0
  refine tl0 ?_
  refine wp_seq ?_
  refine reg0 (aF := ?_) [evL 0 12 [] (fun s => .agg #[.slice A0_0 l0_0.length c0_0]), evL 1 13 [] (fun s => .agg #[.int .i64 a1_0, .int .i64 a1_1, .int .i64 a1_2, .int .i64 a1_3, .int .i64 a1_4, .int .i64 a1_5]), evC 2 (some 14) [] (fun s x => .bool true) (fun s x => []), evP 3 15 [] (fun s => .bool false), evP 4 16 [] (fun s => .bool false), evP 5 17 [] (fun s => .int .i64 a2_0), evP 6 18 [] (fun s => .pointer (some ⟨(s1 1).lo, 5, none⟩)), evL 7 19 [] (fun s => .int .i64 a1_5), evP 8 20 [] (fun s => .bool false), evP 9 21 [] (fun s => .bool false)] [] false 10 rfl rfl (by kernel_rfl) rfl (fun _ => rfl) ?aF HS1.out ?hs ?_
  rotate_left 1
  case aF => intro s; simp only [putE, EvT.val, Act.put, setIfInBounds_toArray, set_cons_zero, set_cons_succ]; rfl
  case hs => exact ⟨ld rfl 0 (fun s => rfl) (fun s w h => by have h0 := h 0 _ rfl; clear h; go_simp; try rfl), ld rfl 1 (fun s => rfl) (fun s w h => by have h0 := h 0 _ rfl; have h1 := h 1 _ rfl; have h2 := h 2 _ rfl; have h3 := h 3 _ rfl; have h4 := h 4 _ rfl; have h5 := h 5 _ rfl; clear h; go_simp; try rfl), cl rfl (fun s => #[.agg #[.slice A0_0 l0_0.length c0_0], .agg #[.int .i64 a1_0, .int .i64 a1_1, .int .i64 a1_2, .int .i64 a1_3, .int .i64 a1_4, .int .i64 a1_5]]) Try.func70 (fun s w1 h => (impl_isRing.calls _ _ _ _ _ _ _ _ _ _ _ _ (Kd.C_below HR0_0.out h.hb) HC0_0.out H1.out).mono (by rintro e w2 ⟨rfl, hb⟩; exact fin0 hb)), pu rfl, pu rfl, pu rfl, pu rfl (hr := fun s w => by go_simp; try rfl), ld rfl 1 (fun s => rfl) (fun s w h => by have h0 := h 0 _ rfl; have h1 := h 1 _ rfl; have h2 := h 2 _ rfl; have h3 := h 3 _ rfl; have h4 := h 4 _ rfl; have h5 := h 5 _ rfl; clear h; go_simp; try rfl), pb (q := .lss) T0.out rfl, pu rfl, trivial⟩
  intro s2 w2 h; have HS2 := Aside0.mk h; clear h HS1
  refine tl0 ?_
  refine wp_cond_false rfl ?_
  refine wp_skip ?_
  refine thN ?_
  refine reg (aF := ?_) (nw := ?_) [evL 0 25 [] (fun s => .agg #[.slice A0_0 l0_0.length c0_0]), evP 1 26 [] (fun s => .int .i64 a2_0), evC 2 (some 27) [] (fun s x => .tuple #[.agg #[.slice x.A r2_0.length x.c], .agg #[.int .i64 r2_1, .int .i64 r2_2, .int .i64 r2_3, .int .i64 r2_4], .bool false]) (fun s x => [rowS (Kd.slice 5 (Kd.int .u8)) 29 w x.lo x.hi x.A x.c r2_0]), evP 3 24 [2] (fun s => .tuple #[.agg #[.slice (s 2).A r2_0.length (s 2).c], .agg #[.int .i64 r2_1, .int .i64 r2_2, .int .i64 r2_3, .int .i64 r2_4], .bool false]), evP 4 28 [2] (fun s => .agg #[.slice (s 2).A r2_0.length (s 2).c]), evP 5 29 [] (fun s => .agg #[.int .i64 r2_1, .int .i64 r2_2, .int .i64 r2_3, .int .i64 r2_4]), evP 6 30 [] (fun s => .bool false), evB 7 9 [] 31 (fun s => #[.slice none 0 0]) 9 [2] (fun s => #[.slice (s 2).A r2_0.length (s 2).c]), evB 8 10 [] 32 (fun s => #[.int .i64 0, .int .i64 0, .int .i64 0, .int .i64 0]) 10 [] (fun s => #[.int .i64 r2_1, .int .i64 r2_2, .int .i64 r2_3, .int .i64 r2_4]), evS 9, evS 10] [11] [] false 12 rfl rfl (by kernel_rfl) rfl (mf0) ?aF ?nw HS2.out ?hs ?_
  rotate_left 2
  case aF => intro s; simp only [putE, EvT.val, Act.put, setIfInBounds_toArray, set_cons_zero, set_cons_succ]; rfl
  case nw => intro s; simp only [thA, bsA, List.nil_append, List.cons_append, List.append_nil, if_true, if_false, Nat.reduceLT, set_cons_zero, set_cons_succ]; rfl
  case hs => exact ⟨ld rfl 0 (fun s => rfl) (fun s w h => by have h0 := h 0 _ rfl; clear h; go_simp; try rfl), pu rfl, cl rfl (fun s => #[.agg #[.slice A0_0 l0_0.length c0_0], .int .i64 a2_0]) Try.func86 (fun s w1 h => (impl_NewArray.calls _ _ _ _ _ _ _ _ _ _ _ _ (Kd.C_below HR0_0.out h.hb) HC0_0.out H2.out).mono (by rintro e w2 ⟨v0_, rfl, ho0, hb⟩; obtain ⟨x, rfl, hx⟩ := fin_S ho0 hb h.hb.size; exact ⟨x, rfl, hx⟩)), pu rfl, pu rfl, pu rfl, pu rfl, bv rfl (fun s w => by go_simp; try rfl), bv rfl (fun s w => by go_simp; try rfl), st rfl 7 0 (fun s => [.slice (s 2).A r2_0.length (s 2).c]) rfl (fun s w h hf => by have h0 := h 0 _ rfl; have f0 := hf 0; clear h hf; go_simp; try rfl), st rfl 8 0 (fun s => [.int .i64 r2_1, .int .i64 r2_2, .int .i64 r2_3, .int .i64 r2_4]) rfl (fun s w h hf => by have h0 := h 0 _ rfl; have f0 := hf 0; have h1 := h 1 _ rfl; have f1 := hf 1; have h2 := h 2 _ rfl; have f2 := hf 2; have h3 := h 3 _ rfl; have f3 := hf 3; clear h hf; go_simp; try rfl), trivial⟩
  intro s3 w3 h; have HS3 := Aside0.mk h; clear h HS2
  refine tlP (v := .bool false) 11 rfl ?_
  refine tl0 ?_
  refine wp_seq ?_
  refine reg0 (aF := ?_) [evP 0 31 [] (fun s => .bool false), evP 1 32 [] (fun s => .bool true)] [] false 2 rfl rfl (by kernel_rfl) rfl (fun _ => rfl) ?aF HS3.out ?hs ?_
  rotate_left 1
  case aF => intro s; simp only [putE, EvT.val, Act.put, setIfInBounds_toArray, set_cons_zero, set_cons_succ]; rfl
  case hs => exact ⟨pu rfl, pu rfl, trivial⟩
  intro s4 w4 h; have HS4 := Aside0.mk h; clear h HS3
  refine tl0 ?_
  refine wp_cond_true rfl ?_
  refine reg (aF := ?_) (nw := ?_) [evP 0 33 [] (fun s => .agg #[.slice none 0 0]), evP 1 34 [] (fun s => .agg #[.int .i64 0, .int .i64 0, .int .i64 0, .int .i64 0, .int .i64 0, .int .i64 0]), evS 2, evS 3] [4] [⟨5, 2, [], fun s => boxT (s1 2).lo #[.slice none 0 0] 31⟩, ⟨6, 3, [], fun s => boxT (s1 3).lo #[.int .i64 0, .int .i64 0, .int .i64 0, .int .i64 0, .int .i64 0, .int .i64 0] 34⟩] false 5 rfl rfl (by kernel_rfl) rfl ((mf1 (mf1 mf0))) ?aF ?nw HS4.out ?hs ?_
  rotate_left 2
  case aF => intro s; simp only [putE, EvT.val, Act.put, setIfInBounds_toArray, set_cons_zero, set_cons_succ]; rfl
  case nw => intro s; simp only [thA, bsA, List.nil_append, List.cons_append, List.append_nil, if_true, if_false, Nat.reduceLT, set_cons_zero, set_cons_succ]; rfl
  case hs => exact ⟨pu rfl (hr := fun s w => by go_simp; try rfl), pu rfl (hr := fun s w => by go_simp; try rfl), sb rfl 0 5 0 (fun s => [.slice none 0 0]) rfl rfl (fun s w h hf => by have h0 := h 0 _ rfl; have f0 := hf 0; clear h hf; go_simp; try rfl), sb rfl 1 6 0 (fun s => [.int .i64 0, .int .i64 0, .int .i64 0, .int .i64 0, .int .i64 0, .int .i64 0]) rfl rfl (fun s w h hf => by have h0 := h 0 _ rfl; have f0 := hf 0; have h1 := h 1 _ rfl; have f1 := hf 1; have h2 := h 2 _ rfl; have f2 := hf 2; have h3 := h 3 _ rfl; have f3 := hf 3; have h4 := h 4 _ rfl; have f4 := hf 4; have h5 := h 5 _ rfl; have f5 := hf 5; clear h hf; go_simp; try rfl), trivial⟩
  intro s5 w5 h; have HS5 := Aside0.mk h; clear h HS4
  refine tlP (v := .bool false) 8 rfl ?_
  refine tl0 ?_
  refine wp_ret ?_
  try simp only [Exit.inBlock, Exit.then]
  refine bodyPost_ret (results_list (rs := [.cell 6 31, .cell 7 34, .tmp 8]) rfl (by simp) (.cell (s1 2).lo 31 #[.slice none 0 0] (0, 0) _ rfl (show bx (s1 2).lo #[.slice none 0 0] 31 _ from HS5.out.get 5 rfl) Try.underlying31 rfl (by kernel_rfl) (.cell (s1 3).lo 34 #[.int .i64 0, .int .i64 0, .int .i64 0, .int .i64 0, .int .i64 0, .int .i64 0] (0, 0) _ rfl (show bx (s1 3).lo #[.int .i64 0, .int .i64 0, .int .i64 0, .int .i64 0, .int .i64 0, .int .i64 0] 34 _ from HS5.out.get 6 rfl) Try.underlying34 rfl (by kernel_rfl) (.tmp .nil)))) rfl ?_
  exact ⟨_, by first | rfl | simp, Kd.S_nil _ _ _ _ _, HS5.out.hb⟩
set_option maxHeartbeats 8000000 in
set_option maxRecDepth 100000 in
theorem impl_MoveRing_w3 (A0_0 : Option Addr) (c0_0 : Nat) (l0_0 : List (List Int)) (a1_0 : Int) (a1_1 : Int) (a1_2 : Int) (a1_3 : Int) (a1_4 : Int) (a1_5 : Int) (a2_0 : Int) (r2_0 : List (List Int)) (r2_1 : Int) (r2_2 : Int) (r2_3 : Int) (r2_4 : Int) (r3_0 : List Int) (w : World) (hr0_0 : Kd.C (Kd.slice 5 (Kd.int .u8)) w A0_0 l0_0.length l0_0) (hc0_0 : l0_0.length ≤ c0_0) (H1 : ∃ k, impl_isRing.f k l0_0 a1_0 a1_1 a1_2 a1_3 a1_4 a1_5 = some true) (H2 : ∃ k, impl_NewArray.f k l0_0 a2_0 = some (r2_0, r2_1, r2_2, r2_3, r2_4, true)) (H3 : ∃ k, impl_Memory_elements.f k l0_0 a1_0 a1_1 a1_2 a1_3 a1_4 a1_5 = some r3_0) (T0 : (decide (a2_0 < a1_5)) = false) (row : List Int) (ER0 : r2_0.getD r2_1.toNat [] = row) (F0 : 0 ≤ r2_1) (F1 : r2_1 < (r2_0.length : Int)) (F2 : 0 ≤ r2_2) (F3 : 0 ≤ r2_3) (F4 : r2_2 + r2_3 ≤ (row.length : Int)) (F5 : 0 < row.length) (F6 : row.length ≤ 64) :
    Calls Try.prog 39 #[.agg #[.slice A0_0 l0_0.length c0_0], .agg #[.int .i64 a1_0, .int .i64 a1_1, .int .i64 a1_2, .int .i64 a1_3, .int .i64 a1_4, .int .i64 a1_5], .int .i64 a2_0] w fun e w' => ∃ v0_ : Value, e = .returned (.tuple #[.agg #[v0_], .agg #[.int .i64 r2_1, .int .i64 r2_2, .int .i64 r2_3, .int .i64 r2_4, .int .i64 0, .int .i64 a1_5], .bool true]) ∧ Kd.S (Kd.slice 5 (Kd.int .u8)) 29 w' w.heap.size (fun _ => True) v0_ (r2_0.set r2_1.toNat (spl row r2_2.toNat (r3_0.take r2_3.toNat))) ∧ Below w.heap.size w w' := by
  have HR0_0 := Aside0.mk hr0_0; have HC0_0 := Aside0.mk hc0_0; clear hr0_0 hc0_0
  obtain ⟨k, H1_⟩ := H1; have H1 := Aside0.mk H1_; clear H1_
  obtain ⟨k, H2_⟩ := H2; have H2 := Aside0.mk H2_; clear H2_
  obtain ⟨k, H3_⟩ := H3; have H3 := Aside0.mk H3_; clear H3_
  have T0_ := Aside0.mk T0; clear T0; have T0 := T0_; clear T0_
  have ER := Aside0.mk ER0; clear ER0
  have HS0 : Aside0 (Stk w [] w) := ⟨Stk.nil w⟩
  go_enter Try.func39, Try.ntmps39
  refine reg (aF := ?_) (nw := ?_) [evB 0 3 [] 31 (fun s => #[.slice A0_0 l0_0.length c0_0]) 9999 [] (fun s => #[.slice A0_0 l0_0.length c0_0]), evB 1 4 [] 34 (fun s => #[.int .i64 a1_0, .int .i64 a1_1, .int .i64 a1_2, .int .i64 a1_3, .int .i64 a1_4, .int .i64 a1_5]) 9999 [] (fun s => #[.int .i64 a1_0, .int .i64 a1_1, .int .i64 a1_2, .int .i64 a1_3, .int .i64 a1_4, .int .i64 a1_5]), evB 2 6 [] 31 (fun s => #[.slice none 0 0]) 9999 [] (fun s => #[.slice none 0 0]), evB 3 7 [] 34 (fun s => #[.int .i64 0, .int .i64 0, .int .i64 0, .int .i64 0, .int .i64 0, .int .i64 0]) 9999 [] (fun s => #[.int .i64 0, .int .i64 0, .int .i64 0, .int .i64 0, .int .i64 0, .int .i64 0]), evP 4 8 [] (fun s => .bool false)] [] [] false 5 rfl rfl (by kernel_rfl) rfl (mf0) ?aF ?nw HS0.out ?hs ?_
  rotate_left 2
  case aF => intro s; simp only [putE, EvT.val, Act.put, setIfInBounds_toArray, set_cons_zero, set_cons_succ]; rfl
  case nw => intro s; simp only [thA, bsA, List.nil_append, List.cons_append, List.append_nil, if_true, if_false, Nat.reduceLT, set_cons_zero, set_cons_succ]; rfl
  case hs => exact ⟨bv rfl (fun s w => by go_simp; try rfl), bv rfl (fun s w => by go_simp; try rfl), bv rfl (fun s w => by go_simp; try rfl), bv rfl (fun s w => by go_simp; try rfl), pu rfl, trivial⟩
  intro s1 w1 h; have HS1 := Aside0.mk h; clear h HS0
  refine tl0 ?_
  refine wp_seq ?_
  refine reg0 (aF := ?_) [evL 0 12 [] (fun s => .agg #[.slice A0_0 l0_0.length c0_0]), evL 1 13 [] (fun s => .agg #[.int .i64 a1_0, .int .i64 a1_1, .int .i64 a1_2, .int .i64 a1_3, .int .i64 a1_4, .int .i64 a1_5]), evC 2 (some 14) [] (fun s x => .bool true) (fun s x => []), evP 3 15 [] (fun s => .bool false), evP 4 16 [] (fun s => .bool false), evP 5 17 [] (fun s => .int .i64 a2_0), evP 6 18 [] (fun s => .pointer (some ⟨(s1 1).lo, 5, none⟩)), evL 7 19 [] (fun s => .int .i64 a1_5), evP 8 20 [] (fun s => .bool false), evP 9 21 [] (fun s => .bool false)] [] false 10 rfl rfl (by kernel_rfl) rfl (fun _ => rfl) ?aF HS1.out ?hs ?_
  rotate_left 1
  case aF => intro s; simp only [putE, EvT.val, Act.put, setIfInBounds_toArray, set_cons_zero, set_cons_succ]; rfl
  case hs => exact ⟨ld rfl 0 (fun s => rfl) (fun s w h => by have h0 := h 0 _ rfl; clear h; go_simp; try rfl), ld rfl 1 (fun s => rfl) (fun s w h => by have h0 := h 0 _ rfl; have h1 := h 1 _ rfl; have h2 := h 2 _ rfl; have h3 := h 3 _ rfl; have h4 := h 4 _ rfl; have h5 := h 5 _ rfl; clear h; go_simp; try rfl), cl rfl (fun s => #[.agg #[.slice A0_0 l0_0.length c0_0], .agg #[.int .i64 a1_0, .int .i64 a1_1, .int .i64 a1_2, .int .i64 a1_3, .int .i64 a1_4, .int .i64 a1_5]]) Try.func70 (fun s w1 h => (impl_isRing.calls _ _ _ _ _ _ _ _ _ _ _ _ (Kd.C_below HR0_0.out h.hb) HC0_0.out H1.out).mono (by rintro e w2 ⟨rfl, hb⟩; exact fin0 hb)), pu rfl, pu rfl, pu rfl, pu rfl (hr := fun s w => by go_simp; try rfl), ld rfl 1 (fun s => rfl) (fun s w h => by have h0 := h 0 _ rfl; have h1 := h 1 _ rfl; have h2 := h 2 _ rfl; have h3 := h 3 _ rfl; have h4 := h 4 _ rfl; have h5 := h 5 _ rfl; clear h; go_simp; try rfl), pb (q := .lss) T0.out rfl, pu rfl, trivial⟩
  intro s2 w2 h; have HS2 := Aside0.mk h; clear h HS1
  refine tl0 ?_
  refine wp_cond_false rfl ?_
  refine wp_skip ?_
  refine thN ?_
  refine reg (aF := ?_) (nw := ?_) [evL 0 25 [] (fun s => .agg #[.slice A0_0 l0_0.length c0_0]), evP 1 26 [] (fun s => .int .i64 a2_0), evC 2 (some 27) [] (fun s x => .tuple #[.agg #[.slice x.A r2_0.length x.c], .agg #[.int .i64 r2_1, .int .i64 r2_2, .int .i64 r2_3, .int .i64 r2_4], .bool true]) (fun s x => [rowS (Kd.slice 5 (Kd.int .u8)) 29 w x.lo x.hi x.A x.c r2_0]), evP 3 24 [2] (fun s => .tuple #[.agg #[.slice (s 2).A r2_0.length (s 2).c], .agg #[.int .i64 r2_1, .int .i64 r2_2, .int .i64 r2_3, .int .i64 r2_4], .bool true]), evP 4 28 [2] (fun s => .agg #[.slice (s 2).A r2_0.length (s 2).c]), evP 5 29 [] (fun s => .agg #[.int .i64 r2_1, .int .i64 r2_2, .int .i64 r2_3, .int .i64 r2_4]), evP 6 30 [] (fun s => .bool true), evB 7 9 [] 31 (fun s => #[.slice none 0 0]) 9 [2] (fun s => #[.slice (s 2).A r2_0.length (s 2).c]), evB 8 10 [] 32 (fun s => #[.int .i64 0, .int .i64 0, .int .i64 0, .int .i64 0]) 10 [] (fun s => #[.int .i64 r2_1, .int .i64 r2_2, .int .i64 r2_3, .int .i64 r2_4]), evS 9, evS 10] [11] [] false 12 rfl rfl (by kernel_rfl) rfl (mf0) ?aF ?nw HS2.out ?hs ?_
  rotate_left 2
  case aF => intro s; simp only [putE, EvT.val, Act.put, setIfInBounds_toArray, set_cons_zero, set_cons_succ]; rfl
  case nw => intro s; simp only [thA, bsA, List.nil_append, List.cons_append, List.append_nil, if_true, if_false, Nat.reduceLT, set_cons_zero, set_cons_succ]; rfl
  case hs => exact ⟨ld rfl 0 (fun s => rfl) (fun s w h => by have h0 := h 0 _ rfl; clear h; go_simp; try rfl), pu rfl, cl rfl (fun s => #[.agg #[.slice A0_0 l0_0.length c0_0], .int .i64 a2_0]) Try.func86 (fun s w1 h => (impl_NewArray.calls _ _ _ _ _ _ _ _ _ _ _ _ (Kd.C_below HR0_0.out h.hb) HC0_0.out H2.out).mono (by rintro e w2 ⟨v0_, rfl, ho0, hb⟩; obtain ⟨x, rfl, hx⟩ := fin_S ho0 hb h.hb.size; exact ⟨x, rfl, hx⟩)), pu rfl, pu rfl, pu rfl, pu rfl, bv rfl (fun s w => by go_simp; try rfl), bv rfl (fun s w => by go_simp; try rfl), st rfl 7 0 (fun s => [.slice (s 2).A r2_0.length (s 2).c]) rfl (fun s w h hf => by have h0 := h 0 _ rfl; have f0 := hf 0; clear h hf; go_simp; try rfl), st rfl 8 0 (fun s => [.int .i64 r2_1, .int .i64 r2_2, .int .i64 r2_3, .int .i64 r2_4]) rfl (fun s w h hf => by have h0 := h 0 _ rfl; have f0 := hf 0; have h1 := h 1 _ rfl; have f1 := hf 1; have h2 := h 2 _ rfl; have f2 := hf 2; have h3 := h 3 _ rfl; have f3 := hf 3; clear h hf; go_simp; try rfl), trivial⟩
  intro s3 w3 h; have HS3 := Aside0.mk h; clear h HS2
  refine tlP (v := .bool true) 11 rfl ?_
  refine tl0 ?_
  refine wp_seq ?_
  refine reg0 (aF := ?_) [evP 0 31 [] (fun s => .bool true), evP 1 32 [] (fun s => .bool false)] [] false 2 rfl rfl (by kernel_rfl) rfl (fun _ => rfl) ?aF HS3.out ?hs ?_
  rotate_left 1
  case aF => intro s; simp only [putE, EvT.val, Act.put, setIfInBounds_toArray, set_cons_zero, set_cons_succ]; rfl
  case hs => exact ⟨pu rfl, pu rfl, trivial⟩
  intro s4 w4 h; have HS4 := Aside0.mk h; clear h HS3
  refine tl0 ?_
  refine wp_cond_false rfl ?_
  refine wp_skip ?_
  refine thN ?_
  obtain ⟨go1, capo1, hle1, h⟩ := HS4.out.openO 0 rfl (i := r2_1.toNat) (row := row) (by omega) ER.out (by omega); simp only [set_cons_zero, set_cons_succ] at h; have HSo1 := Aside0.mk h; clear h HS4
  refine reg (aF := ?_) (nw := ?_) [evL 0 35 [] (fun s => .agg #[.slice (s3 2).A r2_0.length (s3 2).c]), evL 1 36 [] (fun s => .agg #[.int .i64 r2_1, .int .i64 r2_2, .int .i64 r2_3, .int .i64 r2_4]), evC 2 (some 37) [] (fun s x => .slice (seenA go1 r2_2 capo1) r2_3.toNat (capo1 - r2_2.toNat)) (fun s x => []), evL 3 38 [] (fun s => .agg #[.slice A0_0 l0_0.length c0_0]), evL 4 39 [] (fun s => .agg #[.int .i64 a1_0, .int .i64 a1_1, .int .i64 a1_2, .int .i64 a1_3, .int .i64 a1_4, .int .i64 a1_5]), evC 5 (some 40) [] (fun s x => .slice x.A r3_0.length x.c) (fun s x => [rowR (Kd.int .u8) 5 w x.lo x.hi x.A x.c r3_0]), evW 6 (some 41) [5] (fun s => .int .i64 ((r3_0.take r2_3.toNat).length : Int))] [] [⟨0, 6, [], fun s => rowO 5 29 w (s3 2).lo (s3 2).hi (s3 2).A r2_0.length (s3 2).c r2_0 r2_1.toNat go1 capo1 (spl row r2_2.toNat (r3_0.take r2_3.toNat))⟩] true 7 rfl rfl (by kernel_rfl) rfl ((mf1 mf0)) ?aF ?nw HSo1.out ?hs ?_
  rotate_left 2
  case aF => intro s; simp only [putE, EvT.val, Act.put, setIfInBounds_toArray, set_cons_zero, set_cons_succ]; rfl
  case nw => intro s; simp only [thA, bsA, List.nil_append, List.cons_append, List.append_nil, if_true, if_false, Nat.reduceLT, set_cons_zero, set_cons_succ]; rfl
  case hs => exact ⟨ld rfl 1 (fun s => rfl) (fun s w h => by have h0 := h 0 _ rfl; clear h; go_simp; try rfl), ld rfl 2 (fun s => rfl) (fun s w h => by have h0 := h 0 _ rfl; have h1 := h 1 _ rfl; have h2 := h 2 _ rfl; have h3 := h 3 _ rfl; clear h; go_simp; try rfl), cl rfl (fun s => #[.agg #[.slice (s3 2).A r2_0.length (s3 2).c], .agg #[.int .i64 r2_1, .int .i64 r2_2, .int .i64 r2_3, .int .i64 r2_4]]) Try.func72 (fun s w1 h => (seen_o 0 h rfl r2_1 r2_2 r2_3 r2_4 rfl (by omega) (by omega) (by omega) (by omega) (by omega) (by omega)).mono (by rintro e w2 ⟨rfl, hb⟩; exact fin0 hb)), ld rfl 3 (fun s => rfl) (fun s w h => by have h0 := h 0 _ rfl; clear h; go_simp; try rfl), ld rfl 4 (fun s => rfl) (fun s w h => by have h0 := h 0 _ rfl; have h1 := h 1 _ rfl; have h2 := h 2 _ rfl; have h3 := h 3 _ rfl; have h4 := h 4 _ rfl; have h5 := h 5 _ rfl; clear h; go_simp; try rfl), cl rfl (fun s => #[.agg #[.slice A0_0 l0_0.length c0_0], .agg #[.int .i64 a1_0, .int .i64 a1_1, .int .i64 a1_2, .int .i64 a1_3, .int .i64 a1_4, .int .i64 a1_5]]) Try.func87 (fun s w1 h => (impl_Memory_elements.calls _ _ _ _ _ _ _ _ _ _ _ _ (Kd.C_below HR0_0.out h.hb) HC0_0.out H3.out).mono (by rintro e w2 ⟨v0_, rfl, ho0, hb⟩; obtain ⟨x, rfl, hx⟩ := fin_R ho0 hb h.hb.size; exact ⟨x, rfl, hx⟩)), cp rfl 0 0 rfl rfl (al_seen r2_2 r2_3 (by omega) (by omega) (by omega)) (fun s => len_take rfl _) (fit_take (by omega)) (fun s w1 h => (bytes_R (h.get 0 rfl)).take _), trivial⟩
  intro s5 w5 h; have HS5 := Aside0.mk h; clear h HSo1
  refine tl0 ?_
  have := spl_length row r2_2.toNat (r3_0.take r2_3.toNat) (fit_take (by omega))
  refine reg (aF := ?_) (nw := ?_) [evL 0 42 [] (fun s => .agg #[.slice (s3 2).A r2_0.length (s3 2).c]), evR 1 43 3 (fun s => .agg #[.int .i64 r2_1, .int .i64 r2_2, .int .i64 r2_3, .int .i64 r2_4]), evP 2 44 [] (fun s => .pointer (some ⟨(s1 1).lo, 5, none⟩)), evR 3 45 5 (fun s => .int .i64 a1_5), evP 4 46 [] (fun s => .agg #[.int .i64 r2_1, .int .i64 r2_2, .int .i64 r2_3, .int .i64 r2_4, .int .i64 0, .int .i64 a1_5]), evS 5, evS 6] [7] [⟨6, 5, [], fun s => boxT (s1 2).lo #[.slice (s3 2).A r2_0.length (s3 2).c] 31⟩, ⟨7, 6, [], fun s => boxT (s1 3).lo #[.int .i64 r2_1, .int .i64 r2_2, .int .i64 r2_3, .int .i64 r2_4, .int .i64 0, .int .i64 a1_5] 34⟩] true 8 rfl rfl (by kernel_rfl) rfl ((mf1 (mf1 mf0))) ?aF ?nw HS5.out ?hs ?_
  rotate_left 2
  case aF => intro s; simp only [putE, EvT.val, Act.put, setIfInBounds_toArray, set_cons_zero, set_cons_succ]; rfl
  case nw => intro s; simp only [thA, bsA, List.nil_append, List.cons_append, List.append_nil, if_true, if_false, Nat.reduceLT, set_cons_zero, set_cons_succ]; rfl
  case hs => exact ⟨ld rfl 2 (fun s => rfl) (fun s w h => by have h0 := h 0 _ rfl; clear h; go_simp; try rfl), lr rfl 3 rfl (fun s w h => by have h0 := h 0 _ rfl; have h1 := h 1 _ rfl; have h2 := h 2 _ rfl; have h3 := h 3 _ rfl; clear h; go_simp; try rfl), pu rfl (hr := fun s w => by go_simp; try rfl), lr rfl 5 rfl (fun s w h => by have h0 := h 0 _ rfl; have h1 := h 1 _ rfl; have h2 := h 2 _ rfl; have h3 := h 3 _ rfl; have h4 := h 4 _ rfl; have h5 := h 5 _ rfl; clear h; go_simp; try rfl), pu rfl (hr := fun s w => by go_simp; try rfl), sb rfl 0 6 0 (fun s => [.slice (s3 2).A r2_0.length (s3 2).c]) rfl rfl (fun s w h hf => by have h0 := h 0 _ rfl; have f0 := hf 0; clear h hf; go_simp; try rfl), sb rfl 1 7 0 (fun s => [.int .i64 r2_1, .int .i64 r2_2, .int .i64 r2_3, .int .i64 r2_4, .int .i64 0, .int .i64 a1_5]) rfl rfl (fun s w h hf => by have h0 := h 0 _ rfl; have f0 := hf 0; have h1 := h 1 _ rfl; have f1 := hf 1; have h2 := h 2 _ rfl; have f2 := hf 2; have h3 := h 3 _ rfl; have f3 := hf 3; have h4 := h 4 _ rfl; have f4 := hf 4; have h5 := h 5 _ rfl; have f5 := hf 5; clear h hf; go_simp; try rfl), trivial⟩
  intro s6 w6 h; have HS6 := Aside0.mk h; clear h HS5
  refine tlP (v := .bool true) 8 rfl ?_
  refine tl0 ?_
  refine wp_ret ?_
  try simp only [Exit.inBlock, Exit.then]
  refine bodyPost_ret (results_list (rs := [.cell 6 31, .cell 7 34, .tmp 8]) rfl (by simp) (.cell (s1 2).lo 31 #[.slice (s3 2).A r2_0.length (s3 2).c] (0, 0) _ rfl (show bx (s1 2).lo #[.slice (s3 2).A r2_0.length (s3 2).c] 31 _ from HS6.out.get 6 rfl) Try.underlying31 rfl (by kernel_rfl) (.cell (s1 3).lo 34 #[.int .i64 r2_1, .int .i64 r2_2, .int .i64 r2_3, .int .i64 r2_4, .int .i64 0, .int .i64 a1_5] (0, 0) _ rfl (show bx (s1 3).lo #[.int .i64 r2_1, .int .i64 r2_2, .int .i64 r2_3, .int .i64 r2_4, .int .i64 0, .int .i64 a1_5] 34 _ from HS6.out.get 7 rfl) Try.underlying34 rfl (by kernel_rfl) (.tmp .nil)))) rfl ?_
  exact ⟨_, by first | rfl | simp, Kd.S_mono (RowO.kd (HS6.out.get 1 rfl)) (fun _ _ => trivial), HS6.out.hb⟩
end Go.Proofs.Ytaieobidkmihkaa.P


namespace Go.Proofs.Ytaieobidkmihkaa.P
open Go.RowKit Go.Proofs.YtaieobidkmihkaaW.PrintWords Go.Proofs.YtaieobidkmihkaaW.PrintLast Go.Proofs.YtaieobidkmihkaaW.PrintMore
attribute [local go_sem] max2_int min2_int max_two min_two max_three min_three max_four min_four   -- for this text's walks alone
set_option linter.unusedVariables false
set_option linter.unusedSimpArgs false

/-! ### spec_l1Most: function 83 -/
def spec_l1Most.f (a0 : Int) (a1 : Int) : Option (Int) := if a0 > a1 then (some a0) else (some a1)
set_option maxHeartbeats 8000000 in
set_option maxRecDepth 100000 in
theorem spec_l1Most.calls (a0 : Int) (a1 : Int) (r : Int) (w : World) (h : spec_l1Most.f a0 a1 = some r) :
    Calls Try.prog 83 #[.int .i64 a0, .int .i64 a1] w fun e w' => e = .returned (.int .i64 r) ∧ Drawn0 w w' := by
  have H : (if a0 > a1 then (some a0) else (some a1)) = some r := h
  clear h
  by_cases c3 : a0 > a1
  · rw [if_pos c3] at H
    have c3b0 : decide (a1 < a0) = true := decide_eq_true c3
    clear c3
    obtain rfl := Option.some.inj H
    go_enter Try.func83, Try.ntmps83
    go_wp2
    go_ret
    exact ⟨by first | rfl | (simp; done) | (simp [*]; done), by repeat (first | exact Drawn0.refl _ | apply Drawn0.step)⟩
  · rw [if_neg c3] at H
    have c3b0 : decide (a1 < a0) = false := decide_eq_false c3
    clear c3
    obtain rfl := Option.some.inj H
    go_enter Try.func83, Try.ntmps83
    go_wp2
    go_ret
    exact ⟨by first | rfl | (simp; done) | (simp [*]; done), by repeat (first | exact Drawn0.refl _ | apply Drawn0.step)⟩

end Go.Proofs.Ytaieobidkmihkaa.P


namespace Go.Proofs.Ytaieobidkmihkaa.P
open Go.RowKit Go.Proofs.YtaieobidkmihkaaW.PrintWords Go.Proofs.YtaieobidkmihkaaW.PrintLast Go.Proofs.YtaieobidkmihkaaW.PrintMore
attribute [local go_sem] max2_int min2_int max_two min_two max_three min_three max_four min_four   -- for this text's walks alone
set_option linter.unusedVariables false
set_option linter.unusedSimpArgs false

/-! ### spec_l5Bytes: function 84 -/
def spec_l5Bytes.l0 : Nat → List Int → Int → List (List Int) → Int → Int → Int → Int → Int → Int → Option (List Int)
  | 0, _, _, _, _, _, _, _, _, _ => none
  | k + 1, x5, x6, x649000, x650000, x650001, x650002, x650003, x650004, x650005 => if x6 < x650005 then ((spec_l5Slot.f x650000 x650001 x650002 x650003 x650004 x650005 x6).bind fun t653 => ((spec_l2At.f x649000 x650000 x650001 x650002 x650003 t653).bind fun t654 => (if x5.length < 140737488355328 then (spec_l5Bytes.l0 k (x5 ++ [t654]) (wrap64 (x6 + 1)) x649000 x650000 x650001 x650002 x650003 x650004 x650005) else (none)))) else (some x5)
def spec_l5Bytes.f (k : Nat) (l0_0 : List (List Int)) (a1_0 : Int) (a1_1 : Int) (a1_2 : Int) (a1_3 : Int) (a1_4 : Int) (a1_5 : Int) : Option (List Int) := spec_l5Bytes.l0 k (([] : List Int)) 0 l0_0 a1_0 a1_1 a1_2 a1_3 a1_4 a1_5
def spec_l5Bytes.T5 : Bool × List (List Nat × List Nat) := (true, [([], []), ([], []), ([], []), ([2], [2]), ([], []), ([], []), ([4, 5], [4, 5]), ([1, 3, 6, 6], [1, 3, 6]), ([7], [7]), ([0, 8, 7], [0, 8]), ([9, 9, 0, 1, 2, 3, 4, 5, 6, 7, 8, 9], [0, 9])])
def spec_l5Bytes.B5 : List Nat := [0, 0, 0, 4, 0, 0, 48, 126, 254, 511, 1023]
theorem spec_l5Bytes.tab5 : rtab .any (opsOf Try.f84 5) = spec_l5Bytes.T5 := by kernel_rfl
theorem spec_l5Bytes.bits5 : waitsOk spec_l5Bytes.T5.2 spec_l5Bytes.B5 = true := by kernel_rfl
set_option maxHeartbeats 8000000 in
set_option maxRecDepth 100000 in
theorem spec_l5Bytes.calls (k : Nat) (A0_0 : Option Addr) (c0_0 : Nat) (l0_0 : List (List Int)) (a1_0 : Int) (a1_1 : Int) (a1_2 : Int) (a1_3 : Int) (a1_4 : Int) (a1_5 : Int) (r : List Int) (w : World) (hr0_0 : Kd.C (Kd.slice 5 (Kd.int .u8)) w A0_0 l0_0.length l0_0) (hc0_0 : l0_0.length ≤ c0_0) (h : spec_l5Bytes.f k l0_0 a1_0 a1_1 a1_2 a1_3 a1_4 a1_5 = some r) :
    Calls Try.prog 84 #[.agg #[.slice A0_0 l0_0.length c0_0], .agg #[.int .i64 a1_0, .int .i64 a1_1, .int .i64 a1_2, .int .i64 a1_3, .int .i64 a1_4, .int .i64 a1_5]] w fun e w' => ∃ v0_ : Value, e = .returned (v0_) ∧ Kd.R (Kd.int .u8) 5 w' w.heap.size (fun _ => True) v0_ r ∧ Below w.heap.size w w' := by
  have hu31 := Try.underlying31
  have hu34 := Try.underlying34
  have hu32 := Try.underlying32
  have HR0_0 := Aside0.mk hr0_0
  have HC0_0 := Aside0.mk hc0_0
  clear hr0_0 hc0_0
  have HB := Aside0.mk (Below.refl w.heap.size w)
  have H : (spec_l5Bytes.l0 k (([] : List Int)) 0 l0_0 a1_0 a1_1 a1_2 a1_3 a1_4 a1_5) = some r := h
  clear h
  obtain ⟨y650, hy650⟩ : ∃ y_ : List Int, y_ = (([] : List Int)) := ⟨_, rfl⟩
  replace H : (spec_l5Bytes.l0 k y650 0 l0_0 a1_0 a1_1 a1_2 a1_3 a1_4 a1_5) = some r := by first | (rw [hy650]; with_reducible exact H) | (have H2_ := (Option.bind_some _ _).symm.trans H; rw [hy650]; with_reducible exact H2_) | (have H2_ := (Option.bind_some _ _).symm.trans H; with_reducible exact H2_) | with_reducible exact H | (rw [hy650]; exact H) | exact H
  have Ny650 := Aside0.mk hy650
  clear hy650
  have H' := Aside0.mk H
  clear H
  go_enter Try.func84, Try.ntmps84
  go_wp2_with (first | ((with_reducible refine gate_dst (N := 2) rfl ?_); refine box_event ?hg (N := 2) ?hd (cs := #[.slice A0_0 l0_0.length c0_0]) (t := 31) ?hr ?_; (case hd => rfl); (case hg => rfl); (case hr => first | (go_simp; done) | (go_simp; rfl)); intro gb648 hg w3 hbox hb; have n0_ := Aside0.mk (below_step (by repeat (first | (with_reducible first | exact HB.out | apply below_alloc | apply pw_below_drewN | apply below_drew1) | exact HB.out)) hb); have n1_ := Aside0.mk (hbox); have n2_ := Aside0.mk ((by rw [hg]; exact (below_size (by repeat (first | (with_reducible first | exact HB.out | apply below_alloc | apply pw_below_drewN | apply below_drew1) | exact HB.out))) : w.heap.size ≤ gb648)); have n3_ := Aside0.mk ((by rw [hg]; exact (below_size (by repeat (first | (with_reducible first | exact HB.out | apply below_alloc | apply pw_below_drewN | apply below_drew1) | exact HB.out))) : w.heap.size ≤ gb648)); clear HB; have HB := n0_; have BK648 := n1_; have GW648 := n2_; have GE648 := n3_; clear n0_ n1_ n2_ n3_; clear hb hbox hg) | ((with_reducible refine gate_dst (N := 3) rfl ?_); refine box_event ?hg (N := 3) ?hd (cs := #[.int .i64 a1_0, .int .i64 a1_1, .int .i64 a1_2, .int .i64 a1_3, .int .i64 a1_4, .int .i64 a1_5]) (t := 34) ?hr ?_; (case hd => rfl); (case hg => rfl); (case hr => first | (go_simp; done) | (go_simp; rfl)); intro gb649 hg w4 hbox hb; have n0_ := Aside0.mk (blk_below (g := gb648) (o := .cells #[.slice A0_0 l0_0.length c0_0] 31 (0, 0)) (by (with_reducible repeat (first | refine blk_drewN ?_ _ | refine blk_drew ?_ | refine blk_alloc ?_ _)); exact BK648.out) hb); have n1_ := Aside0.mk (below_step (by repeat (first | (with_reducible first | exact HB.out | apply below_alloc | apply pw_below_drewN | apply below_drew1 | refine below_set ?_ GE648.out) | exact HB.out)) hb); have n2_ := Aside0.mk (hbox); have n3_ := Aside0.mk ((by rw [hg]; exact (below_size (by repeat (first | (with_reducible first | exact HB.out | apply below_alloc | apply pw_below_drewN | apply below_drew1 | refine below_set ?_ GE648.out) | exact HB.out))) : w.heap.size ≤ gb649)); have n4_ := Aside0.mk ((by rw [hg]; exact (below_size (by repeat (first | (with_reducible first | exact HB.out | apply below_alloc | apply pw_below_drewN | apply below_drew1 | refine below_set ?_ GE648.out) | exact HB.out))) : w.heap.size ≤ gb649)); have n5_ := Aside0.mk ((by rw [hg]; exact Nat.ne_of_lt (blk_lt (g := gb648) (o := .cells #[.slice A0_0 l0_0.length c0_0] 31 (0, 0)) (by (with_reducible repeat (first | refine blk_drewN ?_ _ | refine blk_drew ?_ | refine blk_alloc ?_ _)); exact BK648.out)) : gb648 ≠ gb649)); have n6_ := Aside0.mk ((by rw [hg]; exact Nat.ne_of_gt (blk_lt (g := gb648) (o := .cells #[.slice A0_0 l0_0.length c0_0] 31 (0, 0)) (by (with_reducible repeat (first | refine blk_drewN ?_ _ | refine blk_drew ?_ | refine blk_alloc ?_ _)); exact BK648.out)) : gb649 ≠ gb648)); clear BK648; clear HB; have BK648 := n0_; have HB := n1_; have BK649 := n2_; have GW649 := n3_; have GE649 := n4_; have NB648_649 := n5_; have NB649_648 := n6_; clear n0_ n1_ n2_ n3_ n4_ n5_ n6_; clear hb hbox hg) | ((with_reducible refine gate_dst (N := 7) rfl ?_); refine Kd.R_lit (Kd.int .u8) _ 5 ?hg (N := 7) ?hd (xs := ([] : List Int)) (inner := []) (ok := fun _ => True) (okp := fun _ => True) ?hr ?hp (fun _ hk => hk) trivial (Below.refl _ _) (Nat.le_refl _) (by simp) ?_; (case hd => rfl); (case hg => rfl); (case hr => first | (go_simp; done) | (go_simp; rfl)); (case hp => exact (Reps.none _ _)); intro v651 w5 ho6 hb hg_ hnew_; clear hg_ hnew_; (first | rw [← Ny650.out] at ho6 | (simp only [Int.reduceToNat] at ho6; rw [← Ny650.out] at ho6)); have n0_ := Aside0.mk (Kd.R_lower ho6 (below_size (by repeat (first | (with_reducible first | exact HB.out | apply below_alloc | apply pw_below_drewN | apply below_drew1 | refine below_set ?_ GE648.out | refine below_set ?_ GE649.out) | exact HB.out)))); have n1_ := Aside0.mk (blk_below (g := gb648) (o := .cells #[.slice A0_0 l0_0.length c0_0] 31 (0, 0)) (by (with_reducible repeat (first | refine blk_drewN ?_ _ | refine blk_drew ?_ | refine blk_alloc ?_ _)); exact BK648.out) hb); have n2_ := Aside0.mk (blk_below (g := gb649) (o := .cells #[.int .i64 a1_0, .int .i64 a1_1, .int .i64 a1_2, .int .i64 a1_3, .int .i64 a1_4, .int .i64 a1_5] 34 (0, 0)) (by (with_reducible repeat (first | refine blk_drewN ?_ _ | refine blk_drew ?_ | refine blk_alloc ?_ _)); exact BK649.out) hb); have n3_ := Aside0.mk (below_step (by repeat (first | (with_reducible first | exact HB.out | apply below_alloc | apply pw_below_drewN | apply below_drew1 | refine below_set ?_ GE648.out | refine below_set ?_ GE649.out) | exact HB.out)) hb); clear BK648; clear BK649; clear HB; have HO652 := n0_; have BK648 := n1_; have BK649 := n2_; have HB := n3_; clear n0_ n1_ n2_ n3_; clear hb ho6))
  go_loopg [5, 6] k (fun kq v5 v6 w' => ∃ (x5_1 : List Int) (x6_1 : Int), v6 = .int .i64 x6_1 ∧ Aside0 (spec_l5Bytes.l0 kq x5_1 x6_1 l0_0 a1_0 a1_1 a1_2 a1_3 a1_4 a1_5 = some r) ∧ Aside0 (kq ≤ k) ∧ Aside0 (Kd.R (Kd.int .u8) 5 w' w.heap.size (fun _ => True) v5 x5_1) ∧ Aside0 (w'.heap[gb648]? = some (.cells #[(.slice A0_0 l0_0.length c0_0)] 31 (0, 0))) ∧ Aside0 (w'.heap[gb649]? = some (.cells #[.int .i64 a1_0, .int .i64 a1_1, .int .i64 a1_2, .int .i64 a1_3, .int .i64 a1_4, .int .i64 a1_5] 34 (0, 0))) ∧ Aside0 (Below w.heap.size w w'))
  case atStart => exact ⟨(y650), (0), (by first | rfl | (simp; done) | (simp [*]; done)), H', ⟨Nat.le_refl _⟩, ⟨by (with_reducible repeat (first | apply Kd.R_alloc | apply Kd.R_drewN | apply Kd.R_drew)); exact HO652.out⟩, ⟨by (with_reducible repeat (first | refine blk_drewN ?_ _ | refine blk_drew ?_ | refine blk_alloc ?_ _)); exact BK648.out⟩, ⟨by (with_reducible repeat (first | refine blk_drewN ?_ _ | refine blk_drew ?_ | refine blk_alloc ?_ _)); exact BK649.out⟩, ⟨by repeat (first | (with_reducible first | exact HB.out | apply below_alloc | apply pw_below_drewN | apply below_drew1 | refine below_set ?_ GE648.out | refine below_set ?_ GE649.out) | exact HB.out)⟩⟩
  case round =>
    clear H'
    try clear p2
    obtain ⟨x5_1, x6_1, rfl, HA, HK1, HO_5, BK648, BK649, HB⟩ := hrel
    cases gk with
    | zero => exact absurd HA.out (by simp [spec_l5Bytes.l0])
    | succ k1 =>
      have H := HA.out
      clear HA
      simp only [spec_l5Bytes.l0] at H
      by_cases c7 : x6_1 < a1_5
      · rw [if_pos c7] at H
        have c7b0 : decide (x6_1 < a1_5) = true := decide_eq_true c7
        clear c7
        replace H := Option.bind_eq_some_iff.mp H
        obtain ⟨t653, A80, H⟩ := H
        replace H : ((spec_l2At.f l0_0 a1_0 a1_1 a1_2 a1_3 t653).bind fun t654 => (if x5_1.length < 140737488355328 then (spec_l5Bytes.l0 k1 (x5_1 ++ [t654]) (wrap64 (x6_1 + 1)) l0_0 a1_0 a1_1 a1_2 a1_3 a1_4 a1_5) else (none))) = some r := H
        have A8 := Aside0.mk A80
        clear A80
        replace H := Option.bind_eq_some_iff.mp H
        obtain ⟨t654, A90, H⟩ := H
        replace H : (if x5_1.length < 140737488355328 then (spec_l5Bytes.l0 k1 (x5_1 ++ [t654]) (wrap64 (x6_1 + 1)) l0_0 a1_0 a1_1 a1_2 a1_3 a1_4 a1_5) else (none)) = some r := H
        have A9 := Aside0.mk A90
        clear A90
        by_cases c10 : x5_1.length < 140737488355328
        · rw [if_pos c10] at H
          have LMc10 := Aside0.mk c10
          clear c10
          obtain ⟨y655, hy655⟩ : ∃ y_ : List Int, y_ = (x5_1 ++ [t654]) := ⟨_, rfl⟩
          replace H : (spec_l5Bytes.l0 k1 y655 (wrap64 (x6_1 + 1)) l0_0 a1_0 a1_1 a1_2 a1_3 a1_4 a1_5) = some r := by first | (rw [hy655]; with_reducible exact H) | (have H2_ := (Option.bind_some _ _).symm.trans H; rw [hy655]; with_reducible exact H2_) | (have H2_ := (Option.bind_some _ _).symm.trans H; with_reducible exact H2_) | with_reducible exact H | (rw [hy655]; exact H) | exact H
          have Ny655 := Aside0.mk hy655
          clear hy655
          have H' := Aside0.mk H
          clear H
          have hnb11 := NB649_648.out
          have hnc11 := NB648_649.out
          have hcz12_0 : wr.cell? ⟨gb649, 0, none⟩ = some (.int .i64 a1_0) := (blk_cell BK649.out 0).trans rfl
          have hcz12_1 : wr.cell? ⟨gb649, 1, none⟩ = some (.int .i64 a1_1) := (blk_cell BK649.out 1).trans rfl
          have hcz12_2 : wr.cell? ⟨gb649, 2, none⟩ = some (.int .i64 a1_2) := (blk_cell BK649.out 2).trans rfl
          have hcz12_3 : wr.cell? ⟨gb649, 3, none⟩ = some (.int .i64 a1_3) := (blk_cell BK649.out 3).trans rfl
          have hcz12_4 : wr.cell? ⟨gb649, 4, none⟩ = some (.int .i64 a1_4) := (blk_cell BK649.out 4).trans rfl
          have hcz12_5 : wr.cell? ⟨gb649, 5, none⟩ = some (.int .i64 a1_5) := (blk_cell BK649.out 5).trans rfl
          have hfz12_0 := blk_frozen BK649.out 0
          have hfz12_1 := blk_frozen BK649.out 1
          have hfz12_2 := blk_frozen BK649.out 2
          have hfz12_3 := blk_frozen BK649.out 3
          have hfz12_4 := blk_frozen BK649.out 4
          have hfz12_5 := blk_frozen BK649.out 5
          try go_wp2
          have n0_ := Aside0.mk (Kd.R_drew HO_5.out)
          have n1_ := Aside0.mk (blk_drew BK648.out)
          have n2_ := Aside0.mk (blk_drew BK649.out)
          have n3_ := Aside0.mk (below_drew1 HB.out)
          clear HO_5
          clear BK648
          clear BK649
          clear HB
          have HO_5 := n0_
          have BK648 := n1_
          have BK649 := n2_
          have HB := n3_
          clear n0_ n1_ n2_ n3_
          refine start_ (n := 11) (S := fun w' => w'.cell? ⟨gb648, 0, none⟩ = some (.slice A0_0 l0_0.length c0_0) ∧ w'.cell? ⟨gb649, 0, none⟩ = some (.int .i64 a1_0) ∧ w'.cell? ⟨gb649, 1, none⟩ = some (.int .i64 a1_1) ∧ w'.cell? ⟨gb649, 2, none⟩ = some (.int .i64 a1_2) ∧ w'.cell? ⟨gb649, 3, none⟩ = some (.int .i64 a1_3) ∧ w'.cell? ⟨gb649, 4, none⟩ = some (.int .i64 a1_4) ∧ w'.cell? ⟨gb649, 5, none⟩ = some (.int .i64 a1_5)) (ds := []) #[false, false, false, false, false, false, false, false, false, false, false] (by kernel_rfl) rfl rfl ⟨(blk_cell BK648.out 0).trans rfl, (blk_cell BK649.out 0).trans rfl, (blk_cell BK649.out 1).trans rfl, (blk_cell BK649.out 2).trans rfl, (blk_cell BK649.out 3).trans rfl, (blk_cell BK649.out 4).trans rfl, (blk_cell BK649.out 5).trans rfl⟩ (fun hHeld => ?_); refine with_tabW spec_l5Bytes.tab5 spec_l5Bytes.bits5 (fun HT_ HW_ => ?_)
          generalize wr.drew = w13 at HO_5 BK648 BK649 HB hHeld ⊢
          refine pure_ (i := 0) (N := some 14) (v := ?_) (a' := ?_) #[true, false, false, false, false, false, false, false, false, false, false] rfl rfl (any_of HT_.out (by kernel_rfl)) (fun _ _ _ h => h) (Or.inl ⟨by rfl, ?_⟩) ?_ ?_
          rotate_left
          · intro w'
            go_simp
            with_reducible rfl
          rotate_left
          · simp only [Act.put, List.setIfInBounds_toArray, List.set_cons_zero, List.set_cons_succ, i64_w, i32_w]
            rfl
          refine pure_ (i := 2) (N := some 16) (v := ?_) (a' := ?_) #[true, false, true, false, false, false, false, false, false, false, false] rfl rfl (any_of HT_.out (by kernel_rfl)) (fun _ _ _ h => h) (Or.inl ⟨by rfl, ?_⟩) ?_ ?_
          rotate_left
          · intro w'
            go_simp
            with_reducible rfl
          rotate_left
          · simp only [Act.put, List.setIfInBounds_toArray, List.set_cons_zero, List.set_cons_succ, i64_w, i32_w]
            rfl
          refine pure_ (i := 5) (N := some 19) (v := ?_) (a' := ?_) #[true, false, true, false, false, true, false, false, false, false, false] rfl rfl (any_of HT_.out (by kernel_rfl)) (fun _ _ _ h => h) (Or.inl ⟨by rfl, ?_⟩) ?_ ?_
          rotate_left
          · intro w'
            go_simp
            with_reducible rfl
          rotate_left
          · simp only [Act.put, List.setIfInBounds_toArray, List.set_cons_zero, List.set_cons_succ, i64_w, i32_w]
            rfl
          refine take_ (i := 1) (N := some 15) (v := ?_) (a' := ?_) #[true, true, true, false, false, true, false, false, false, false, false] rfl rfl (take_ofW HT_.out HW_.out (by kernel_rfl)) (fun _ _ _ h => h) (Or.inl ⟨by rfl, ?_⟩) hHeld ?_ ?_
          rotate_left
          · rintro w' ⟨s0, s1, s2, s3, s4, s5, s6⟩
            go_simp
            with_reducible rfl
          rotate_left
          · simp only [Act.put, List.setIfInBounds_toArray, List.set_cons_zero, List.set_cons_succ, i64_w, i32_w]
            rfl
          refine take_ (i := 3) (N := some 17) (v := ?_) (a' := ?_) #[true, true, true, true, false, true, false, false, false, false, false] rfl rfl (take_ofW HT_.out HW_.out (by kernel_rfl)) (fun _ _ _ h => h) (Or.inl ⟨by rfl, ?_⟩) hHeld ?_ ?_
          rotate_left
          · rintro w' ⟨s0, s1, s2, s3, s4, s5, s6⟩
            go_simp
            with_reducible rfl
          rotate_left
          · simp only [Act.put, List.setIfInBounds_toArray, List.set_cons_zero, List.set_cons_succ, i64_w, i32_w]
            rfl
          refine take_ (i := 4) (N := some 18) (v := ?_) (a' := ?_) #[true, true, true, true, true, true, false, false, false, false, false] rfl rfl (take_ofW HT_.out HW_.out (by kernel_rfl)) (fun _ _ _ h => h) (Or.inl ⟨by rfl, ?_⟩) hHeld ?_ ?_
          rotate_left
          · rintro w' ⟨s0, s1, s2, s3, s4, s5, s6⟩
            go_simp
            with_reducible rfl
          rotate_left
          · simp only [Act.put, List.setIfInBounds_toArray, List.set_cons_zero, List.set_cons_succ, i64_w, i32_w]
            rfl
          refine one_ (i := 6) (N := some 20) #[true, true, true, true, true, true, true, false, false, false, false] rfl rfl (one_of HT_.out (by kernel_rfl)) (by decide) (fun K hK => ?_)
          refine goes_ Try.func109 (by kernel_rfl) rfl #[.agg #[.int .i64 a1_0, .int .i64 a1_1, .int .i64 a1_2, .int .i64 a1_3, .int .i64 a1_4, .int .i64 a1_5], .int .i64 x6_1] (by rfl) rfl rfl (by (try simp only [List.map_toArray, List.map_cons, List.map_nil]); first | done | rfl | (simp only [List.length_drop, List.length_take]; rfl)) ?_
          with_reducible refine (spec_l5Slot.calls a1_0 a1_1 a1_2 a1_3 a1_4 a1_5 x6_1 t653 _ A8.out).mono ?_
          rintro e w14 ⟨rfl, hb⟩
          refine ⟨_, rfl, ?_⟩
          have n0_ := Aside0.mk (Kd.R_below (by (with_reducible repeat (first | apply Kd.R_alloc | apply Kd.R_drewN | apply Kd.R_drew)); exact HO_5.out) hb)
          have n1_ := Aside0.mk (blk_below (g := gb648) (o := .cells #[.slice A0_0 l0_0.length c0_0] 31 (0, 0)) (by (with_reducible repeat (first | refine blk_drewN ?_ _ | refine blk_drew ?_ | refine blk_alloc ?_ _)); exact BK648.out) hb)
          have n2_ := Aside0.mk (blk_below (g := gb649) (o := .cells #[.int .i64 a1_0, .int .i64 a1_1, .int .i64 a1_2, .int .i64 a1_3, .int .i64 a1_4, .int .i64 a1_5] 34 (0, 0)) (by (with_reducible repeat (first | refine blk_drewN ?_ _ | refine blk_drew ?_ | refine blk_alloc ?_ _)); exact BK649.out) hb)
          have n3_ := Aside0.mk (below_step (by repeat (first | (with_reducible first | exact HB.out | apply below_alloc | apply pw_below_drewN | apply below_drew1 | refine below_set ?_ GE648.out | refine below_set ?_ GE649.out) | exact HB.out)) hb)
          clear HO_5
          clear BK648
          clear BK649
          clear HB
          have HO_5 := n0_
          have BK648 := n1_
          have BK649 := n2_
          have HB := n3_
          clear n0_ n1_ n2_ n3_
          (try clear hb)
          (try clear hb2)
          (try clear hk)
          (try clear hi)
          refine hK.out _ _ ⟨(blk_cell BK648.out 0).trans rfl, (blk_cell BK649.out 0).trans rfl, (blk_cell BK649.out 1).trans rfl, (blk_cell BK649.out 2).trans rfl, (blk_cell BK649.out 3).trans rfl, (blk_cell BK649.out 4).trans rfl, (blk_cell BK649.out 5).trans rfl⟩ (fun hHeld => ?_)
          clear hK K
          refine norm_ (a' := ?_) ?_ ?_
          rotate_left
          · show Act.put _ (some 20) _ = _
            simp only [Act.put, List.setIfInBounds_toArray, List.set_cons_zero, List.set_cons_succ, i64_w, i32_w]
            rfl
          refine one_ (i := 7) (N := some 21) #[true, true, true, true, true, true, true, true, false, false, false] rfl rfl (one_of HT_.out (by kernel_rfl)) (by decide) (fun K hK => ?_)
          refine goes_ Try.func115 (by kernel_rfl) rfl #[.agg #[.slice A0_0 l0_0.length c0_0], .agg #[.int .i64 a1_0, .int .i64 a1_1, .int .i64 a1_2, .int .i64 a1_3], .int .i64 t653] (by rfl) rfl rfl (by (try simp only [List.map_toArray, List.map_cons, List.map_nil]); first | done | rfl | (simp only [List.length_drop, List.length_take]; rfl)) ?_
          with_reducible refine (spec_l2At.calls _ _ l0_0 a1_0 a1_1 a1_2 a1_3 t653 t654 _ ?side1 ?side2 A9.out).mono ?_
          (case side1 => repeat (first | exact (Kd.C_below HR0_0.out HB.out) | (with_reducible refine Kd.C_alloc ?_ _) | (with_reducible refine Kd.C_drewN ?_ _) | (with_reducible refine Kd.C_drew ?_)))
          (case side2 => exact HC0_0.out)
          rintro e w15 ⟨rfl, hb⟩
          refine ⟨_, rfl, ?_⟩
          have n0_ := Aside0.mk (Kd.R_below (by (with_reducible repeat (first | apply Kd.R_alloc | apply Kd.R_drewN | apply Kd.R_drew)); exact HO_5.out) hb)
          have n1_ := Aside0.mk (blk_below (g := gb648) (o := .cells #[.slice A0_0 l0_0.length c0_0] 31 (0, 0)) (by (with_reducible repeat (first | refine blk_drewN ?_ _ | refine blk_drew ?_ | refine blk_alloc ?_ _)); exact BK648.out) hb)
          have n2_ := Aside0.mk (blk_below (g := gb649) (o := .cells #[.int .i64 a1_0, .int .i64 a1_1, .int .i64 a1_2, .int .i64 a1_3, .int .i64 a1_4, .int .i64 a1_5] 34 (0, 0)) (by (with_reducible repeat (first | refine blk_drewN ?_ _ | refine blk_drew ?_ | refine blk_alloc ?_ _)); exact BK649.out) hb)
          have n3_ := Aside0.mk (below_step (by repeat (first | (with_reducible first | exact HB.out | apply below_alloc | apply pw_below_drewN | apply below_drew1 | refine below_set ?_ GE648.out | refine below_set ?_ GE649.out) | exact HB.out)) hb)
          clear HO_5
          clear BK648
          clear BK649
          clear HB
          have HO_5 := n0_
          have BK648 := n1_
          have BK649 := n2_
          have HB := n3_
          clear n0_ n1_ n2_ n3_
          (try clear hb)
          (try clear hb2)
          (try clear hk)
          (try clear hi)
          refine hK.out _ _ ⟨(blk_cell BK648.out 0).trans rfl, (blk_cell BK649.out 0).trans rfl, (blk_cell BK649.out 1).trans rfl, (blk_cell BK649.out 2).trans rfl, (blk_cell BK649.out 3).trans rfl, (blk_cell BK649.out 4).trans rfl, (blk_cell BK649.out 5).trans rfl⟩ (fun hHeld => ?_)
          clear hK K
          refine norm_ (a' := ?_) ?_ ?_
          rotate_left
          · show Act.put _ (some 21) _ = _
            simp only [Act.put, List.setIfInBounds_toArray, List.set_cons_zero, List.set_cons_succ, i64_w, i32_w]
            rfl
          refine one_ (i := 8) (N := some 22) #[true, true, true, true, true, true, true, true, true, false, false] rfl rfl (one_of HT_.out (by kernel_rfl)) (by decide) (fun K hK => ?_)
          refine value_ (w1 := ?_) (v := ?_) (by rfl) rfl ?_ ?_
          rotate_left 2
          · go_simp
            constructor
            · rfl
            · rfl
          refine hK.out _ _ ⟨(blk_cell (blk_alloc BK648.out _) 0).trans rfl, (blk_cell (blk_alloc BK649.out _) 0).trans rfl, (blk_cell (blk_alloc BK649.out _) 1).trans rfl, (blk_cell (blk_alloc BK649.out _) 2).trans rfl, (blk_cell (blk_alloc BK649.out _) 3).trans rfl, (blk_cell (blk_alloc BK649.out _) 4).trans rfl, (blk_cell (blk_alloc BK649.out _) 5).trans rfl⟩ (fun hHeld => ?_)
          clear hK K
          refine norm_ (a' := ?_) ?_ ?_
          rotate_left
          · show Act.put _ (some 22) _ = _
            simp only [Act.put, List.setIfInBounds_toArray, List.set_cons_zero, List.set_cons_succ, i64_w, i32_w]
            rfl
          refine one_ (i := 9) (N := some 23) #[true, true, true, true, true, true, true, true, true, true, false] rfl rfl (one_of HT_.out (by kernel_rfl)) (by decide) (fun K hK => ?_)
          refine Kd.R_append_step (Kd.int .u8) (w0 := w) w.heap.size (by rfl) (.tmp 14) (.tmp 22) 29 5 (.int .u8 0) 1 rfl Try.underlying29 info5 rfl (by decide) (by omega) u5 x5_1 t654 [.int .u8 t654] (fun _ => True) (fun _ => False) rfl rfl ?aP (fun _ hk => hk.elim) ?aF ?aO ?aB ?aS ?aL ?_
          (case aP => exact rfl)
          (case aB => exact (by repeat (first | (with_reducible first | exact HB.out | apply below_alloc | apply pw_below_drewN | apply below_drew1 | refine below_set ?_ GE648.out | refine below_set ?_ GE649.out) | exact HB.out)))
          (case aF => exact (fun _ _ => trivial))
          (case aO => exact (by (with_reducible repeat (first | apply Kd.R_alloc | apply Kd.R_drewN | apply Kd.R_drew)); exact HO_5.out))
          (case aS => exact (below_size (by repeat (first | (with_reducible first | exact HB.out | apply below_alloc | apply pw_below_drewN | apply below_drew1 | refine below_set ?_ GE648.out | refine below_set ?_ GE649.out) | exact HB.out))))
          (case aL => have := LMc10.out; omega)
          intro v656 w16 ho hb hg hat
          rw [← Ny655.out] at ho
          have n0_ := Aside0.mk (blk_grown (g := gb648) (o := .cells #[.slice A0_0 l0_0.length c0_0] 31 (0, 0)) (by (with_reducible repeat (first | refine blk_drewN ?_ _ | refine blk_drew ?_ | refine blk_alloc ?_ _)); exact BK648.out) hg (Kd.R_ne HO_5.out BK648.out (by decide)))
          have n1_ := Aside0.mk (blk_grown (g := gb649) (o := .cells #[.int .i64 a1_0, .int .i64 a1_1, .int .i64 a1_2, .int .i64 a1_3, .int .i64 a1_4, .int .i64 a1_5] 34 (0, 0)) (by (with_reducible repeat (first | refine blk_drewN ?_ _ | refine blk_drew ?_ | refine blk_alloc ?_ _)); exact BK649.out) hg (Kd.R_ne HO_5.out BK649.out (by decide)))
          have n2_ := Aside0.mk (hb)
          have n3_ := Aside0.mk (ho)
          clear BK648
          clear BK649
          clear HB
          clear HO_5
          have BK648 := n0_
          have BK649 := n1_
          have HB := n2_
          have HO657 := n3_
          clear n0_ n1_ n2_ n3_
          clear ho hb hg hat
          refine hK.out _ _ ⟨(blk_cell BK648.out 0).trans rfl, (blk_cell BK649.out 0).trans rfl, (blk_cell BK649.out 1).trans rfl, (blk_cell BK649.out 2).trans rfl, (blk_cell BK649.out 3).trans rfl, (blk_cell BK649.out 4).trans rfl, (blk_cell BK649.out 5).trans rfl⟩ (fun hHeld => ?_)
          clear hK K
          refine norm_ (a' := ?_) ?_ ?_
          rotate_left
          · show Act.put _ (some 23) _ = _
            simp only [Act.put, List.setIfInBounds_toArray, List.set_cons_zero, List.set_cons_succ, i64_w, i32_w]
            rfl
          refine pure_ (i := 10) (N := some 5) (v := ?_) (a' := ?_) #[true, true, true, true, true, true, true, true, true, true, true] rfl rfl (any_of HT_.out (by kernel_rfl)) (fun _ _ _ h => h) (Or.inl ⟨by rfl, ?_⟩) ?_ ?_
          rotate_left
          · intro w'
            go_simp
            with_reducible rfl
          rotate_left
          · simp only [Act.put, List.setIfInBounds_toArray, List.set_cons_zero, List.set_cons_succ, i64_w, i32_w]
            rfl
          refine done_ (done_of HT_.out (by kernel_rfl)) ?_
          try go_wp2
          go_roundg k1
          case measure => have := HK1.out; omega
          case rel => exact ⟨(y655), (wrap64 (x6_1 + 1)), (by first | rfl | (simp; done) | (simp [*]; done)), H', ⟨by have := HK1.out; omega⟩, ⟨by (with_reducible repeat (first | apply Kd.R_alloc | apply Kd.R_drewN | apply Kd.R_drew)); exact HO657.out⟩, ⟨by (with_reducible repeat (first | refine blk_drewN ?_ _ | refine blk_drew ?_ | refine blk_alloc ?_ _)); exact BK648.out⟩, ⟨by (with_reducible repeat (first | refine blk_drewN ?_ _ | refine blk_drew ?_ | refine blk_alloc ?_ _)); exact BK649.out⟩, ⟨by repeat (first | (with_reducible first | exact HB.out | apply below_alloc | apply pw_below_drewN | apply below_drew1 | refine below_set ?_ GE648.out | refine below_set ?_ GE649.out) | exact HB.out)⟩⟩
        · rw [if_neg c10] at H
          exact absurd H (by simp)
      · rw [if_neg c7] at H
        have c7b0 : decide (x6_1 < a1_5) = false := decide_eq_false c7
        clear c7
        obtain rfl := Option.some.inj H
        have hnb17 := NB649_648.out
        have hnc17 := NB648_649.out
        have hcz18_0 : wr.cell? ⟨gb649, 0, none⟩ = some (.int .i64 a1_0) := (blk_cell BK649.out 0).trans rfl
        have hcz18_1 : wr.cell? ⟨gb649, 1, none⟩ = some (.int .i64 a1_1) := (blk_cell BK649.out 1).trans rfl
        have hcz18_2 : wr.cell? ⟨gb649, 2, none⟩ = some (.int .i64 a1_2) := (blk_cell BK649.out 2).trans rfl
        have hcz18_3 : wr.cell? ⟨gb649, 3, none⟩ = some (.int .i64 a1_3) := (blk_cell BK649.out 3).trans rfl
        have hcz18_4 : wr.cell? ⟨gb649, 4, none⟩ = some (.int .i64 a1_4) := (blk_cell BK649.out 4).trans rfl
        have hcz18_5 : wr.cell? ⟨gb649, 5, none⟩ = some (.int .i64 a1_5) := (blk_cell BK649.out 5).trans rfl
        have hfz18_0 := blk_frozen BK649.out 0
        have hfz18_1 := blk_frozen BK649.out 1
        have hfz18_2 := blk_frozen BK649.out 2
        have hfz18_3 := blk_frozen BK649.out 3
        have hfz18_4 := blk_frozen BK649.out 4
        have hfz18_5 := blk_frozen BK649.out 5
        go_wp2
        go_ret
        exact ⟨_, by first | rfl | (simp [errW_none, errW_some] <;> rfl) | (simp [*, errW_none, errW_some] <;> rfl), by (with_reducible repeat (first | apply Kd.R_alloc | apply Kd.R_drewN | apply Kd.R_drew)); exact HO_5.out, by repeat (first | (with_reducible first | exact HB.out | apply below_alloc | apply pw_below_drewN | apply below_drew1 | refine below_set ?_ GE648.out | refine below_set ?_ GE649.out) | exact HB.out)⟩

end Go.Proofs.Ytaieobidkmihkaa.P


namespace Go.Proofs.Ytaieobidkmihkaa.P
open Go.RowKit Go.Proofs.YtaieobidkmihkaaW.PrintWords Go.Proofs.YtaieobidkmihkaaW.PrintLast Go.Proofs.YtaieobidkmihkaaW.PrintMore
attribute [local go_sem] max2_int min2_int max_two min_two max_three min_three max_four min_four   -- for this text's walks alone
set_option linter.unusedVariables false
set_option linter.unusedSimpArgs false

/-! ### spec_MoveRing: function 38 -/
mutual
def spec_MoveRing.j0 : Nat → Int → Bool → List (List Int) → Int → Int → Int → Int → Int → Int → Option ((List (List Int)) × Int × Int × Int × Int × Int × Int × Bool)
  | 0, _, _, _, _, _, _, _, _, _ => none
  | k + 1, x2, x29, x675000, x676000, x676001, x676002, x676003, x676004, x676005 => if x29 = true then (some (([] : List (List Int)), 0, 0, 0, 0, 0, 0, false)) else ((spec_l5Bytes.f k x675000 x676000 x676001 x676002 x676003 x676004 x676005).bind fun t681 => (spec_MoveRing.l0 k x2 t681 x675000 x676000 x676001 x676002 x676003 x676004 x676005))
def spec_MoveRing.l0 : Nat → Int → List Int → List (List Int) → Int → Int → Int → Int → Int → Int → Option ((List (List Int)) × Int × Int × Int × Int × Int × Int × Bool)
  | 0, _, _, _, _, _, _, _, _, _ => none
  | k + 1, x2, x9, x675000, x676000, x676001, x676002, x676003, x676004, x676005 => if (x9.length : Int) < x2 then (if x9.length < 140737488355328 then (spec_MoveRing.l0 k x2 (x9 ++ [0]) x675000 x676000 x676001 x676002 x676003 x676004 x676005) else (none)) else ((spec_l2New.f k x675000 x9 x2).bind fun bt687 => (some (bt687.1, bt687.2.1, bt687.2.2.1, bt687.2.2.2.1, bt687.2.2.2.2, 0, x676005, true)))
end
def spec_MoveRing.f (k : Nat) (l0_0 : List (List Int)) (a1_0 : Int) (a1_1 : Int) (a1_2 : Int) (a1_3 : Int) (a1_4 : Int) (a1_5 : Int) (a2 : Int) : Option ((List (List Int)) × Int × Int × Int × Int × Int × Int × Bool) := (spec_l5Ring.f k l0_0 a1_0 a1_1 a1_2 a1_3 a1_4 a1_5).bind fun t678 => (if t678 = true then ((spec_l1Most.f 1 a1_5).bind fun t679 => ((spec_l1In.f a2 t679 64).bind fun t680 => (if t680 = true then (spec_MoveRing.j0 k a2 ((l0_0.length : Int) == 16) l0_0 a1_0 a1_1 a1_2 a1_3 a1_4 a1_5) else (spec_MoveRing.j0 k a2 true l0_0 a1_0 a1_1 a1_2 a1_3 a1_4 a1_5)))) else (spec_MoveRing.j0 k a2 true l0_0 a1_0 a1_1 a1_2 a1_3 a1_4 a1_5))
def spec_MoveRing.T7 : Bool × List (List Nat × List Nat) := (true, [([], []), ([], []), ([], []), ([2], [2]), ([1, 3], [1, 3]), ([0, 0], [0]), ([4, 5, 0, 1, 2, 3, 4, 5], [4]), ([6, 0, 1, 2, 3, 4, 5, 6], [])])
def spec_MoveRing.B7 : List Nat := [0, 0, 0, 4, 14, 1, 63, 127]
theorem spec_MoveRing.tab7 : rtab .any (opsOf Try.f38 7) = spec_MoveRing.T7 := by kernel_rfl
theorem spec_MoveRing.bits7 : waitsOk spec_MoveRing.T7.2 spec_MoveRing.B7 = true := by kernel_rfl
set_option maxHeartbeats 8000000 in
set_option maxRecDepth 100000 in
theorem spec_MoveRing.calls (k : Nat) (A0_0 : Option Addr) (c0_0 : Nat) (l0_0 : List (List Int)) (a1_0 : Int) (a1_1 : Int) (a1_2 : Int) (a1_3 : Int) (a1_4 : Int) (a1_5 : Int) (a2 : Int) (r1 : List (List Int)) (r2 : Int) (r3 : Int) (r4 : Int) (r5 : Int) (r6 : Int) (r7 : Int) (r8 : Bool) (w : World) (hr0_0 : Kd.C (Kd.slice 5 (Kd.int .u8)) w A0_0 l0_0.length l0_0) (hc0_0 : l0_0.length ≤ c0_0) (h : spec_MoveRing.f k l0_0 a1_0 a1_1 a1_2 a1_3 a1_4 a1_5 a2 = some (r1, r2, r3, r4, r5, r6, r7, r8)) :
    Calls Try.prog 38 #[.agg #[.slice A0_0 l0_0.length c0_0], .agg #[.int .i64 a1_0, .int .i64 a1_1, .int .i64 a1_2, .int .i64 a1_3, .int .i64 a1_4, .int .i64 a1_5], .int .i64 a2] w fun e w' => ∃ v0_ : Value, e = .returned (.tuple #[.agg #[v0_], .agg #[.int .i64 r2, .int .i64 r3, .int .i64 r4, .int .i64 r5, .int .i64 r6, .int .i64 r7], .bool r8]) ∧ Kd.S (Kd.slice 5 (Kd.int .u8)) 29 w' w.heap.size (fun _ => True) v0_ r1 ∧ Below w.heap.size w w' := by
  have hu31 := Try.underlying31
  have hu34 := Try.underlying34
  have hu32 := Try.underlying32
  have HR0_0 := Aside0.mk hr0_0
  have HC0_0 := Aside0.mk hc0_0
  clear hr0_0 hc0_0
  have HB := Aside0.mk (Below.refl w.heap.size w)
  have H : ((spec_l5Ring.f k l0_0 a1_0 a1_1 a1_2 a1_3 a1_4 a1_5).bind fun t678 => (if t678 = true then ((spec_l1Most.f 1 a1_5).bind fun t679 => ((spec_l1In.f a2 t679 64).bind fun t680 => (if t680 = true then (spec_MoveRing.j0 k a2 ((l0_0.length : Int) == 16) l0_0 a1_0 a1_1 a1_2 a1_3 a1_4 a1_5) else (spec_MoveRing.j0 k a2 true l0_0 a1_0 a1_1 a1_2 a1_3 a1_4 a1_5)))) else (spec_MoveRing.j0 k a2 true l0_0 a1_0 a1_1 a1_2 a1_3 a1_4 a1_5))) = some (r1, r2, r3, r4, r5, r6, r7, r8) := h
  clear h
  have HC4 := Aside0.mk H
  clear H
  go_enter Try.func38, Try.ntmps38
  go_upto_region 1 with (first | ((with_reducible refine gate_dst (N := 3) rfl ?_); (try (refine gate_guard (by rfl) ?_; dsimp only)); refine box_event ?hg (N := 3) ?hd (cs := #[.slice A0_0 l0_0.length c0_0]) (t := 31) ?hr ?_; (case hd => rfl); (case hg => rfl); (case hr => first | (go_simp; done) | (go_simp; rfl)); intro gb674 hg w5 hbox hb; have n0_ := Aside0.mk (below_step (by repeat (first | (with_reducible first | exact HB.out | apply below_alloc | apply pw_below_drewN | apply below_drew1) | exact HB.out)) hb); have n1_ := Aside0.mk (hbox); have n2_ := Aside0.mk ((by rw [hg]; exact (below_size (by repeat (first | (with_reducible first | exact HB.out | apply below_alloc | apply pw_below_drewN | apply below_drew1) | exact HB.out))) : w.heap.size ≤ gb674)); have n3_ := Aside0.mk ((by rw [hg]; exact (below_size (by repeat (first | (with_reducible first | exact HB.out | apply below_alloc | apply pw_below_drewN | apply below_drew1) | exact HB.out))) : w.heap.size ≤ gb674)); clear HB; have HB := n0_; have BK674 := n1_; have GW674 := n2_; have GE674 := n3_; clear n0_ n1_ n2_ n3_; clear hb hbox hg) | ((with_reducible refine gate_dst (N := 4) rfl ?_); (try (refine gate_guard (by rfl) ?_; dsimp only)); refine box_event ?hg (N := 4) ?hd (cs := #[.int .i64 a1_0, .int .i64 a1_1, .int .i64 a1_2, .int .i64 a1_3, .int .i64 a1_4, .int .i64 a1_5]) (t := 34) ?hr ?_; (case hd => rfl); (case hg => rfl); (case hr => first | (go_simp; done) | (go_simp; rfl)); intro gb675 hg w6 hbox hb; have n0_ := Aside0.mk (blk_below (g := gb674) (o := .cells #[.slice A0_0 l0_0.length c0_0] 31 (0, 0)) (by (with_reducible repeat (first | refine blk_drewN ?_ _ | refine blk_drew ?_ | refine blk_alloc ?_ _)); exact BK674.out) hb); have n1_ := Aside0.mk (below_step (by repeat (first | (with_reducible first | exact HB.out | apply below_alloc | apply pw_below_drewN | apply below_drew1 | refine below_set ?_ GE674.out) | exact HB.out)) hb); have n2_ := Aside0.mk (hbox); have n3_ := Aside0.mk ((by rw [hg]; exact (below_size (by repeat (first | (with_reducible first | exact HB.out | apply below_alloc | apply pw_below_drewN | apply below_drew1 | refine below_set ?_ GE674.out) | exact HB.out))) : w.heap.size ≤ gb675)); have n4_ := Aside0.mk ((by rw [hg]; exact (below_size (by repeat (first | (with_reducible first | exact HB.out | apply below_alloc | apply pw_below_drewN | apply below_drew1 | refine below_set ?_ GE674.out) | exact HB.out))) : w.heap.size ≤ gb675)); have n5_ := Aside0.mk ((by rw [hg]; exact Nat.ne_of_lt (blk_lt (g := gb674) (o := .cells #[.slice A0_0 l0_0.length c0_0] 31 (0, 0)) (by (with_reducible repeat (first | refine blk_drewN ?_ _ | refine blk_drew ?_ | refine blk_alloc ?_ _)); exact BK674.out)) : gb674 ≠ gb675)); have n6_ := Aside0.mk ((by rw [hg]; exact Nat.ne_of_gt (blk_lt (g := gb674) (o := .cells #[.slice A0_0 l0_0.length c0_0] 31 (0, 0)) (by (with_reducible repeat (first | refine blk_drewN ?_ _ | refine blk_drew ?_ | refine blk_alloc ?_ _)); exact BK674.out)) : gb675 ≠ gb674)); clear BK674; clear HB; have BK674 := n0_; have HB := n1_; have BK675 := n2_; have GW675 := n3_; have GE675 := n4_; have NB674_675 := n5_; have NB675_674 := n6_; clear n0_ n1_ n2_ n3_ n4_ n5_ n6_; clear hb hbox hg) | ((with_reducible refine gate_dst (N := 6) rfl ?_); (try (refine gate_guard (by rfl) ?_; dsimp only)); refine box_event ?hg (N := 6) ?hd (cs := #[.slice none 0 0]) (t := 31) ?hr ?_; (case hd => rfl); (case hg => rfl); (case hr => first | (go_simp; done) | (go_simp; rfl)); intro gb676 hg w7 hbox hb; have n0_ := Aside0.mk (blk_below (g := gb674) (o := .cells #[.slice A0_0 l0_0.length c0_0] 31 (0, 0)) (by (with_reducible repeat (first | refine blk_drewN ?_ _ | refine blk_drew ?_ | refine blk_alloc ?_ _)); exact BK674.out) hb); have n1_ := Aside0.mk (blk_below (g := gb675) (o := .cells #[.int .i64 a1_0, .int .i64 a1_1, .int .i64 a1_2, .int .i64 a1_3, .int .i64 a1_4, .int .i64 a1_5] 34 (0, 0)) (by (with_reducible repeat (first | refine blk_drewN ?_ _ | refine blk_drew ?_ | refine blk_alloc ?_ _)); exact BK675.out) hb); have n2_ := Aside0.mk (below_step (by repeat (first | (with_reducible first | exact HB.out | apply below_alloc | apply pw_below_drewN | apply below_drew1 | refine below_set ?_ GE674.out | refine below_set ?_ GE675.out) | exact HB.out)) hb); have n3_ := Aside0.mk (hbox); have n4_ := Aside0.mk ((by rw [hg]; exact (below_size (by repeat (first | (with_reducible first | exact HB.out | apply below_alloc | apply pw_below_drewN | apply below_drew1 | refine below_set ?_ GE674.out | refine below_set ?_ GE675.out) | exact HB.out))) : w.heap.size ≤ gb676)); have n5_ := Aside0.mk ((by rw [hg]; exact (below_size (by repeat (first | (with_reducible first | exact HB.out | apply below_alloc | apply pw_below_drewN | apply below_drew1 | refine below_set ?_ GE674.out | refine below_set ?_ GE675.out) | exact HB.out))) : w.heap.size ≤ gb676)); have n6_ := Aside0.mk ((by rw [hg]; exact Nat.ne_of_lt (blk_lt (g := gb674) (o := .cells #[.slice A0_0 l0_0.length c0_0] 31 (0, 0)) (by (with_reducible repeat (first | refine blk_drewN ?_ _ | refine blk_drew ?_ | refine blk_alloc ?_ _)); exact BK674.out)) : gb674 ≠ gb676)); have n7_ := Aside0.mk ((by rw [hg]; exact Nat.ne_of_gt (blk_lt (g := gb674) (o := .cells #[.slice A0_0 l0_0.length c0_0] 31 (0, 0)) (by (with_reducible repeat (first | refine blk_drewN ?_ _ | refine blk_drew ?_ | refine blk_alloc ?_ _)); exact BK674.out)) : gb676 ≠ gb674)); have n8_ := Aside0.mk ((by rw [hg]; exact Nat.ne_of_lt (blk_lt (g := gb675) (o := .cells #[.int .i64 a1_0, .int .i64 a1_1, .int .i64 a1_2, .int .i64 a1_3, .int .i64 a1_4, .int .i64 a1_5] 34 (0, 0)) (by (with_reducible repeat (first | refine blk_drewN ?_ _ | refine blk_drew ?_ | refine blk_alloc ?_ _)); exact BK675.out)) : gb675 ≠ gb676)); have n9_ := Aside0.mk ((by rw [hg]; exact Nat.ne_of_gt (blk_lt (g := gb675) (o := .cells #[.int .i64 a1_0, .int .i64 a1_1, .int .i64 a1_2, .int .i64 a1_3, .int .i64 a1_4, .int .i64 a1_5] 34 (0, 0)) (by (with_reducible repeat (first | refine blk_drewN ?_ _ | refine blk_drew ?_ | refine blk_alloc ?_ _)); exact BK675.out)) : gb676 ≠ gb675)); clear BK674; clear BK675; clear HB; have BK674 := n0_; have BK675 := n1_; have HB := n2_; have BK676 := n3_; have GW676 := n4_; have GE676 := n5_; have NB674_676 := n6_; have NB676_674 := n7_; have NB675_676 := n8_; have NB676_675 := n9_; clear n0_ n1_ n2_ n3_ n4_ n5_ n6_ n7_ n8_ n9_; clear hb hbox hg) | ((with_reducible refine gate_dst (N := 7) rfl ?_); (try (refine gate_guard (by rfl) ?_; dsimp only)); refine box_event ?hg (N := 7) ?hd (cs := #[.int .i64 0, .int .i64 0, .int .i64 0, .int .i64 0, .int .i64 0, .int .i64 0]) (t := 34) ?hr ?_; (case hd => rfl); (case hg => rfl); (case hr => first | (go_simp; done) | (go_simp; rfl)); intro gb677 hg w8 hbox hb; have n0_ := Aside0.mk (blk_below (g := gb674) (o := .cells #[.slice A0_0 l0_0.length c0_0] 31 (0, 0)) (by (with_reducible repeat (first | refine blk_drewN ?_ _ | refine blk_drew ?_ | refine blk_alloc ?_ _)); exact BK674.out) hb); have n1_ := Aside0.mk (blk_below (g := gb675) (o := .cells #[.int .i64 a1_0, .int .i64 a1_1, .int .i64 a1_2, .int .i64 a1_3, .int .i64 a1_4, .int .i64 a1_5] 34 (0, 0)) (by (with_reducible repeat (first | refine blk_drewN ?_ _ | refine blk_drew ?_ | refine blk_alloc ?_ _)); exact BK675.out) hb); have n2_ := Aside0.mk (blk_below (g := gb676) (o := .cells #[.slice none 0 0] 31 (0, 0)) (by (with_reducible repeat (first | refine blk_drewN ?_ _ | refine blk_drew ?_ | refine blk_alloc ?_ _)); exact BK676.out) hb); have n3_ := Aside0.mk (below_step (by repeat (first | (with_reducible first | exact HB.out | apply below_alloc | apply pw_below_drewN | apply below_drew1 | refine below_set ?_ GE674.out | refine below_set ?_ GE675.out | refine below_set ?_ GE676.out) | exact HB.out)) hb); have n4_ := Aside0.mk (hbox); have n5_ := Aside0.mk ((by rw [hg]; exact (below_size (by repeat (first | (with_reducible first | exact HB.out | apply below_alloc | apply pw_below_drewN | apply below_drew1 | refine below_set ?_ GE674.out | refine below_set ?_ GE675.out | refine below_set ?_ GE676.out) | exact HB.out))) : w.heap.size ≤ gb677)); have n6_ := Aside0.mk ((by rw [hg]; exact (below_size (by repeat (first | (with_reducible first | exact HB.out | apply below_alloc | apply pw_below_drewN | apply below_drew1 | refine below_set ?_ GE674.out | refine below_set ?_ GE675.out | refine below_set ?_ GE676.out) | exact HB.out))) : w.heap.size ≤ gb677)); have n7_ := Aside0.mk ((by rw [hg]; exact Nat.ne_of_lt (blk_lt (g := gb674) (o := .cells #[.slice A0_0 l0_0.length c0_0] 31 (0, 0)) (by (with_reducible repeat (first | refine blk_drewN ?_ _ | refine blk_drew ?_ | refine blk_alloc ?_ _)); exact BK674.out)) : gb674 ≠ gb677)); have n8_ := Aside0.mk ((by rw [hg]; exact Nat.ne_of_gt (blk_lt (g := gb674) (o := .cells #[.slice A0_0 l0_0.length c0_0] 31 (0, 0)) (by (with_reducible repeat (first | refine blk_drewN ?_ _ | refine blk_drew ?_ | refine blk_alloc ?_ _)); exact BK674.out)) : gb677 ≠ gb674)); have n9_ := Aside0.mk ((by rw [hg]; exact Nat.ne_of_lt (blk_lt (g := gb675) (o := .cells #[.int .i64 a1_0, .int .i64 a1_1, .int .i64 a1_2, .int .i64 a1_3, .int .i64 a1_4, .int .i64 a1_5] 34 (0, 0)) (by (with_reducible repeat (first | refine blk_drewN ?_ _ | refine blk_drew ?_ | refine blk_alloc ?_ _)); exact BK675.out)) : gb675 ≠ gb677)); have n10_ := Aside0.mk ((by rw [hg]; exact Nat.ne_of_gt (blk_lt (g := gb675) (o := .cells #[.int .i64 a1_0, .int .i64 a1_1, .int .i64 a1_2, .int .i64 a1_3, .int .i64 a1_4, .int .i64 a1_5] 34 (0, 0)) (by (with_reducible repeat (first | refine blk_drewN ?_ _ | refine blk_drew ?_ | refine blk_alloc ?_ _)); exact BK675.out)) : gb677 ≠ gb675)); have n11_ := Aside0.mk ((by rw [hg]; exact Nat.ne_of_lt (blk_lt (g := gb676) (o := .cells #[.slice none 0 0] 31 (0, 0)) (by (with_reducible repeat (first | refine blk_drewN ?_ _ | refine blk_drew ?_ | refine blk_alloc ?_ _)); exact BK676.out)) : gb676 ≠ gb677)); have n12_ := Aside0.mk ((by rw [hg]; exact Nat.ne_of_gt (blk_lt (g := gb676) (o := .cells #[.slice none 0 0] 31 (0, 0)) (by (with_reducible repeat (first | refine blk_drewN ?_ _ | refine blk_drew ?_ | refine blk_alloc ?_ _)); exact BK676.out)) : gb677 ≠ gb676)); clear BK674; clear BK675; clear BK676; clear HB; have BK674 := n0_; have BK675 := n1_; have BK676 := n2_; have HB := n3_; have BK677 := n4_; have GW677 := n5_; have GE677 := n6_; have NB674_677 := n7_; have NB677_674 := n8_; have NB675_677 := n9_; have NB677_675 := n10_; have NB676_677 := n11_; have NB677_676 := n12_; clear n0_ n1_ n2_ n3_ n4_ n5_ n6_ n7_ n8_ n9_ n10_ n11_ n12_; clear hb hbox hg))
  (try simp only [Act.put, List.setIfInBounds_toArray, List.set_cons_zero, List.set_cons_succ])
  go_cut [29] (fun v29 wc => ∃ (kq : Nat) (x29_3 : Bool), v29 = .bool x29_3 ∧ Aside0 (spec_MoveRing.j0 kq a2 x29_3 l0_0 a1_0 a1_1 a1_2 a1_3 a1_4 a1_5 = some (r1, r2, r3, r4, r5, r6, r7, r8)) ∧ Aside0 (kq ≤ k) ∧ Aside0 (wc.heap[gb674]? = some (.cells #[(.slice A0_0 l0_0.length c0_0)] 31 (0, 0))) ∧ Aside0 (wc.heap[gb675]? = some (.cells #[.int .i64 a1_0, .int .i64 a1_1, .int .i64 a1_2, .int .i64 a1_3, .int .i64 a1_4, .int .i64 a1_5] 34 (0, 0))) ∧ Aside0 (wc.heap[gb676]? = some (.cells #[(.slice none 0 0)] 31 (0, 0))) ∧ Aside0 (wc.heap[gb677]? = some (.cells #[.int .i64 0, .int .i64 0, .int .i64 0, .int .i64 0, .int .i64 0, .int .i64 0] 34 (0, 0))) ∧ Aside0 (Below w.heap.size w wc))
  case first =>
    have H := HC4.out
    clear HC4
    replace H := Option.bind_eq_some_iff.mp H
    obtain ⟨t678, A90, H⟩ := H
    replace H : (if t678 = true then ((spec_l1Most.f 1 a1_5).bind fun t679 => ((spec_l1In.f a2 t679 64).bind fun t680 => (if t680 = true then (spec_MoveRing.j0 k a2 ((l0_0.length : Int) == 16) l0_0 a1_0 a1_1 a1_2 a1_3 a1_4 a1_5) else (spec_MoveRing.j0 k a2 true l0_0 a1_0 a1_1 a1_2 a1_3 a1_4 a1_5)))) else (spec_MoveRing.j0 k a2 true l0_0 a1_0 a1_1 a1_2 a1_3 a1_4 a1_5)) = some (r1, r2, r3, r4, r5, r6, r7, r8) := H
    have A9 := Aside0.mk A90
    clear A90
    by_cases c10 : t678 = true
    · subst c10
      have H1 : ((spec_l1Most.f 1 a1_5).bind fun t679 => ((spec_l1In.f a2 t679 64).bind fun t680 => (if t680 = true then (spec_MoveRing.j0 k a2 ((l0_0.length : Int) == 16) l0_0 a1_0 a1_1 a1_2 a1_3 a1_4 a1_5) else (spec_MoveRing.j0 k a2 true l0_0 a1_0 a1_1 a1_2 a1_3 a1_4 a1_5)))) = some (r1, r2, r3, r4, r5, r6, r7, r8) := by rw [if_pos rfl] at H; exact H
      clear H
      have H := H1
      clear H1
      replace H := Option.bind_eq_some_iff.mp H
      obtain ⟨t679, A110, H⟩ := H
      replace H : ((spec_l1In.f a2 t679 64).bind fun t680 => (if t680 = true then (spec_MoveRing.j0 k a2 ((l0_0.length : Int) == 16) l0_0 a1_0 a1_1 a1_2 a1_3 a1_4 a1_5) else (spec_MoveRing.j0 k a2 true l0_0 a1_0 a1_1 a1_2 a1_3 a1_4 a1_5))) = some (r1, r2, r3, r4, r5, r6, r7, r8) := H
      have A11 := Aside0.mk A110
      clear A110
      replace H := Option.bind_eq_some_iff.mp H
      obtain ⟨t680, A120, H⟩ := H
      replace H : (if t680 = true then (spec_MoveRing.j0 k a2 ((l0_0.length : Int) == 16) l0_0 a1_0 a1_1 a1_2 a1_3 a1_4 a1_5) else (spec_MoveRing.j0 k a2 true l0_0 a1_0 a1_1 a1_2 a1_3 a1_4 a1_5)) = some (r1, r2, r3, r4, r5, r6, r7, r8) := H
      have A12 := Aside0.mk A120
      clear A120
      by_cases c13 : t680 = true
      · subst c13
        have H1 : (spec_MoveRing.j0 k a2 ((l0_0.length : Int) == 16) l0_0 a1_0 a1_1 a1_2 a1_3 a1_4 a1_5) = some (r1, r2, r3, r4, r5, r6, r7, r8) := by rw [if_pos rfl] at H; exact H
        clear H
        have H := H1
        clear H1
        have H' := Aside0.mk H
        clear H
        have hnb14 := NB674_675.out
        have hnc14 := NB675_674.out
        have hnb15 := NB674_676.out
        have hnc15 := NB676_674.out
        have hnb16 := NB674_677.out
        have hnc16 := NB677_674.out
        have hcz17_0 : w8.cell? ⟨gb674, 0, none⟩ = some (.slice A0_0 l0_0.length c0_0) := (blk_cell BK674.out 0).trans rfl
        have hfz17_0 := blk_frozen BK674.out 0
        have hnb18 := NB675_676.out
        have hnc18 := NB676_675.out
        have hnb19 := NB675_677.out
        have hnc19 := NB677_675.out
        have hcz20_0 : w8.cell? ⟨gb675, 0, none⟩ = some (.int .i64 a1_0) := (blk_cell BK675.out 0).trans rfl
        have hcz20_1 : w8.cell? ⟨gb675, 1, none⟩ = some (.int .i64 a1_1) := (blk_cell BK675.out 1).trans rfl
        have hcz20_2 : w8.cell? ⟨gb675, 2, none⟩ = some (.int .i64 a1_2) := (blk_cell BK675.out 2).trans rfl
        have hcz20_3 : w8.cell? ⟨gb675, 3, none⟩ = some (.int .i64 a1_3) := (blk_cell BK675.out 3).trans rfl
        have hcz20_4 : w8.cell? ⟨gb675, 4, none⟩ = some (.int .i64 a1_4) := (blk_cell BK675.out 4).trans rfl
        have hcz20_5 : w8.cell? ⟨gb675, 5, none⟩ = some (.int .i64 a1_5) := (blk_cell BK675.out 5).trans rfl
        have hfz20_0 := blk_frozen BK675.out 0
        have hfz20_1 := blk_frozen BK675.out 1
        have hfz20_2 := blk_frozen BK675.out 2
        have hfz20_3 := blk_frozen BK675.out 3
        have hfz20_4 := blk_frozen BK675.out 4
        have hfz20_5 := blk_frozen BK675.out 5
        go_wp2_with (first | ((with_reducible refine gate_callee (f := 65) rfl ?_); refine goesL_ (some 14) rfl rfl Try.func65 (by kernel_rfl) rfl #[.agg #[.slice A0_0 l0_0.length c0_0], .agg #[.int .i64 a1_0, .int .i64 a1_1, .int .i64 a1_2, .int .i64 a1_3, .int .i64 a1_4, .int .i64 a1_5]] rfl (by (try simp only [List.map_toArray, List.map_cons, List.map_nil]); first | done | rfl | (simp only [List.length_drop, List.length_take]; rfl)) ?_; (with_reducible refine (spec_l5Ring.calls k _ _ l0_0 a1_0 a1_1 a1_2 a1_3 a1_4 a1_5 true _ ?side1 ?side2 A9.out).mono ?_); (case side1 => repeat (first | exact (Kd.C_below HR0_0.out HB.out) | (with_reducible refine Kd.C_alloc ?_ _) | (with_reducible refine Kd.C_drewN ?_ _) | (with_reducible refine Kd.C_drew ?_))); (case side2 => exact HC0_0.out); rintro e w21 ⟨rfl, hb⟩; refine ⟨_, rfl, ?_⟩; have n0_ := Aside0.mk (blk_below (g := gb674) (o := .cells #[.slice A0_0 l0_0.length c0_0] 31 (0, 0)) (by (with_reducible repeat (first | refine blk_drewN ?_ _ | refine blk_drew ?_ | refine blk_alloc ?_ _)); exact BK674.out) hb); have n1_ := Aside0.mk (blk_below (g := gb675) (o := .cells #[.int .i64 a1_0, .int .i64 a1_1, .int .i64 a1_2, .int .i64 a1_3, .int .i64 a1_4, .int .i64 a1_5] 34 (0, 0)) (by (with_reducible repeat (first | refine blk_drewN ?_ _ | refine blk_drew ?_ | refine blk_alloc ?_ _)); exact BK675.out) hb); have n2_ := Aside0.mk (blk_below (g := gb676) (o := .cells #[.slice none 0 0] 31 (0, 0)) (by (with_reducible repeat (first | refine blk_drewN ?_ _ | refine blk_drew ?_ | refine blk_alloc ?_ _)); exact BK676.out) hb); have n3_ := Aside0.mk (blk_below (g := gb677) (o := .cells #[.int .i64 0, .int .i64 0, .int .i64 0, .int .i64 0, .int .i64 0, .int .i64 0] 34 (0, 0)) (by (with_reducible repeat (first | refine blk_drewN ?_ _ | refine blk_drew ?_ | refine blk_alloc ?_ _)); exact BK677.out) hb); have n4_ := Aside0.mk (below_step (by repeat (first | (with_reducible first | exact HB.out | apply below_alloc | apply pw_below_drewN | apply below_drew1 | refine below_set ?_ GE674.out | refine below_set ?_ GE675.out | refine below_set ?_ GE676.out | refine below_set ?_ GE677.out) | exact HB.out)) hb); clear BK674; clear BK675; clear BK676; clear BK677; clear HB; have BK674 := n0_; have BK675 := n1_; have BK676 := n2_; have BK677 := n3_; have HB := n4_; clear n0_ n1_ n2_ n3_ n4_; (try clear hb); (try clear hb2); (try clear hk); (try clear hi); have hcz22_0 : w21.cell? ⟨gb675, 0, none⟩ = some (.int .i64 a1_0) := (blk_cell BK675.out 0).trans rfl; have hcz22_1 : w21.cell? ⟨gb675, 1, none⟩ = some (.int .i64 a1_1) := (blk_cell BK675.out 1).trans rfl; have hcz22_2 : w21.cell? ⟨gb675, 2, none⟩ = some (.int .i64 a1_2) := (blk_cell BK675.out 2).trans rfl; have hcz22_3 : w21.cell? ⟨gb675, 3, none⟩ = some (.int .i64 a1_3) := (blk_cell BK675.out 3).trans rfl; have hcz22_4 : w21.cell? ⟨gb675, 4, none⟩ = some (.int .i64 a1_4) := (blk_cell BK675.out 4).trans rfl; have hcz22_5 : w21.cell? ⟨gb675, 5, none⟩ = some (.int .i64 a1_5) := (blk_cell BK675.out 5).trans rfl; have hfz22_0 := blk_frozen BK675.out 0; have hfz22_1 := blk_frozen BK675.out 1; have hfz22_2 := blk_frozen BK675.out 2; have hfz22_3 := blk_frozen BK675.out 3; have hfz22_4 := blk_frozen BK675.out 4; have hfz22_5 := blk_frozen BK675.out 5) | (go_at_call 83; (with_reducible refine (spec_l1Most.calls 1 a1_5 t679 _ A11.out).mono ?_); rintro e w' ⟨rfl, ⟨nd, rfl⟩⟩) | (go_at_call 78; (with_reducible refine (spec_l1In.calls a2 t679 64 true _ A12.out).mono ?_); rintro e w' ⟨rfl, ⟨nd, rfl⟩⟩; have hcz23_0 : w21.cell? ⟨gb674, 0, none⟩ = some (.slice A0_0 l0_0.length c0_0) := (blk_cell BK674.out 0).trans rfl; have hfz23_0 := blk_frozen BK674.out 0))
        go_meet
        case rel => exact ⟨_, (((l0_0.length : Int) == 16)), (by first | rfl | (simp; done) | (simp [*]; done)), H', ⟨by first | omega | exact Nat.le_refl _⟩, ⟨by (with_reducible repeat (first | refine blk_drewN ?_ _ | refine blk_drew ?_ | refine blk_alloc ?_ _)); exact BK674.out⟩, ⟨by (with_reducible repeat (first | refine blk_drewN ?_ _ | refine blk_drew ?_ | refine blk_alloc ?_ _)); exact BK675.out⟩, ⟨by (with_reducible repeat (first | refine blk_drewN ?_ _ | refine blk_drew ?_ | refine blk_alloc ?_ _)); exact BK676.out⟩, ⟨by (with_reducible repeat (first | refine blk_drewN ?_ _ | refine blk_drew ?_ | refine blk_alloc ?_ _)); exact BK677.out⟩, ⟨by repeat (first | (with_reducible first | exact HB.out | apply below_alloc | apply pw_below_drewN | apply below_drew1 | refine below_set ?_ GE674.out | refine below_set ?_ GE675.out | refine below_set ?_ GE676.out | refine below_set ?_ GE677.out) | exact HB.out)⟩⟩
      · replace c13 := Bool.eq_false_iff.mpr c13
        subst c13
        have H1 : (spec_MoveRing.j0 k a2 true l0_0 a1_0 a1_1 a1_2 a1_3 a1_4 a1_5) = some (r1, r2, r3, r4, r5, r6, r7, r8) := by rw [if_neg (show ¬ (false = true) by decide)] at H; exact H
        clear H
        have H := H1
        clear H1
        have H' := Aside0.mk H
        clear H
        have hnb24 := NB674_675.out
        have hnc24 := NB675_674.out
        have hnb25 := NB674_676.out
        have hnc25 := NB676_674.out
        have hnb26 := NB674_677.out
        have hnc26 := NB677_674.out
        have hcz27_0 : w8.cell? ⟨gb674, 0, none⟩ = some (.slice A0_0 l0_0.length c0_0) := (blk_cell BK674.out 0).trans rfl
        have hfz27_0 := blk_frozen BK674.out 0
        have hnb28 := NB675_676.out
        have hnc28 := NB676_675.out
        have hnb29 := NB675_677.out
        have hnc29 := NB677_675.out
        have hcz30_0 : w8.cell? ⟨gb675, 0, none⟩ = some (.int .i64 a1_0) := (blk_cell BK675.out 0).trans rfl
        have hcz30_1 : w8.cell? ⟨gb675, 1, none⟩ = some (.int .i64 a1_1) := (blk_cell BK675.out 1).trans rfl
        have hcz30_2 : w8.cell? ⟨gb675, 2, none⟩ = some (.int .i64 a1_2) := (blk_cell BK675.out 2).trans rfl
        have hcz30_3 : w8.cell? ⟨gb675, 3, none⟩ = some (.int .i64 a1_3) := (blk_cell BK675.out 3).trans rfl
        have hcz30_4 : w8.cell? ⟨gb675, 4, none⟩ = some (.int .i64 a1_4) := (blk_cell BK675.out 4).trans rfl
        have hcz30_5 : w8.cell? ⟨gb675, 5, none⟩ = some (.int .i64 a1_5) := (blk_cell BK675.out 5).trans rfl
        have hfz30_0 := blk_frozen BK675.out 0
        have hfz30_1 := blk_frozen BK675.out 1
        have hfz30_2 := blk_frozen BK675.out 2
        have hfz30_3 := blk_frozen BK675.out 3
        have hfz30_4 := blk_frozen BK675.out 4
        have hfz30_5 := blk_frozen BK675.out 5
        go_wp2_with (first | ((with_reducible refine gate_callee (f := 65) rfl ?_); refine goesL_ (some 14) rfl rfl Try.func65 (by kernel_rfl) rfl #[.agg #[.slice A0_0 l0_0.length c0_0], .agg #[.int .i64 a1_0, .int .i64 a1_1, .int .i64 a1_2, .int .i64 a1_3, .int .i64 a1_4, .int .i64 a1_5]] rfl (by (try simp only [List.map_toArray, List.map_cons, List.map_nil]); first | done | rfl | (simp only [List.length_drop, List.length_take]; rfl)) ?_; (with_reducible refine (spec_l5Ring.calls k _ _ l0_0 a1_0 a1_1 a1_2 a1_3 a1_4 a1_5 true _ ?side1 ?side2 A9.out).mono ?_); (case side1 => repeat (first | exact (Kd.C_below HR0_0.out HB.out) | (with_reducible refine Kd.C_alloc ?_ _) | (with_reducible refine Kd.C_drewN ?_ _) | (with_reducible refine Kd.C_drew ?_))); (case side2 => exact HC0_0.out); rintro e w31 ⟨rfl, hb⟩; refine ⟨_, rfl, ?_⟩; have n0_ := Aside0.mk (blk_below (g := gb674) (o := .cells #[.slice A0_0 l0_0.length c0_0] 31 (0, 0)) (by (with_reducible repeat (first | refine blk_drewN ?_ _ | refine blk_drew ?_ | refine blk_alloc ?_ _)); exact BK674.out) hb); have n1_ := Aside0.mk (blk_below (g := gb675) (o := .cells #[.int .i64 a1_0, .int .i64 a1_1, .int .i64 a1_2, .int .i64 a1_3, .int .i64 a1_4, .int .i64 a1_5] 34 (0, 0)) (by (with_reducible repeat (first | refine blk_drewN ?_ _ | refine blk_drew ?_ | refine blk_alloc ?_ _)); exact BK675.out) hb); have n2_ := Aside0.mk (blk_below (g := gb676) (o := .cells #[.slice none 0 0] 31 (0, 0)) (by (with_reducible repeat (first | refine blk_drewN ?_ _ | refine blk_drew ?_ | refine blk_alloc ?_ _)); exact BK676.out) hb); have n3_ := Aside0.mk (blk_below (g := gb677) (o := .cells #[.int .i64 0, .int .i64 0, .int .i64 0, .int .i64 0, .int .i64 0, .int .i64 0] 34 (0, 0)) (by (with_reducible repeat (first | refine blk_drewN ?_ _ | refine blk_drew ?_ | refine blk_alloc ?_ _)); exact BK677.out) hb); have n4_ := Aside0.mk (below_step (by repeat (first | (with_reducible first | exact HB.out | apply below_alloc | apply pw_below_drewN | apply below_drew1 | refine below_set ?_ GE674.out | refine below_set ?_ GE675.out | refine below_set ?_ GE676.out | refine below_set ?_ GE677.out) | exact HB.out)) hb); clear BK674; clear BK675; clear BK676; clear BK677; clear HB; have BK674 := n0_; have BK675 := n1_; have BK676 := n2_; have BK677 := n3_; have HB := n4_; clear n0_ n1_ n2_ n3_ n4_; (try clear hb); (try clear hb2); (try clear hk); (try clear hi); have hcz32_0 : w31.cell? ⟨gb675, 0, none⟩ = some (.int .i64 a1_0) := (blk_cell BK675.out 0).trans rfl; have hcz32_1 : w31.cell? ⟨gb675, 1, none⟩ = some (.int .i64 a1_1) := (blk_cell BK675.out 1).trans rfl; have hcz32_2 : w31.cell? ⟨gb675, 2, none⟩ = some (.int .i64 a1_2) := (blk_cell BK675.out 2).trans rfl; have hcz32_3 : w31.cell? ⟨gb675, 3, none⟩ = some (.int .i64 a1_3) := (blk_cell BK675.out 3).trans rfl; have hcz32_4 : w31.cell? ⟨gb675, 4, none⟩ = some (.int .i64 a1_4) := (blk_cell BK675.out 4).trans rfl; have hcz32_5 : w31.cell? ⟨gb675, 5, none⟩ = some (.int .i64 a1_5) := (blk_cell BK675.out 5).trans rfl; have hfz32_0 := blk_frozen BK675.out 0; have hfz32_1 := blk_frozen BK675.out 1; have hfz32_2 := blk_frozen BK675.out 2; have hfz32_3 := blk_frozen BK675.out 3; have hfz32_4 := blk_frozen BK675.out 4; have hfz32_5 := blk_frozen BK675.out 5) | (go_at_call 83; (with_reducible refine (spec_l1Most.calls 1 a1_5 t679 _ A11.out).mono ?_); rintro e w' ⟨rfl, ⟨nd, rfl⟩⟩) | (go_at_call 78; (with_reducible refine (spec_l1In.calls a2 t679 64 false _ A12.out).mono ?_); rintro e w' ⟨rfl, ⟨nd, rfl⟩⟩))
        go_meet
        case rel => exact ⟨_, (true), (by first | rfl | (simp; done) | (simp [*]; done)), H', ⟨by first | omega | exact Nat.le_refl _⟩, ⟨by (with_reducible repeat (first | refine blk_drewN ?_ _ | refine blk_drew ?_ | refine blk_alloc ?_ _)); exact BK674.out⟩, ⟨by (with_reducible repeat (first | refine blk_drewN ?_ _ | refine blk_drew ?_ | refine blk_alloc ?_ _)); exact BK675.out⟩, ⟨by (with_reducible repeat (first | refine blk_drewN ?_ _ | refine blk_drew ?_ | refine blk_alloc ?_ _)); exact BK676.out⟩, ⟨by (with_reducible repeat (first | refine blk_drewN ?_ _ | refine blk_drew ?_ | refine blk_alloc ?_ _)); exact BK677.out⟩, ⟨by repeat (first | (with_reducible first | exact HB.out | apply below_alloc | apply pw_below_drewN | apply below_drew1 | refine below_set ?_ GE674.out | refine below_set ?_ GE675.out | refine below_set ?_ GE676.out | refine below_set ?_ GE677.out) | exact HB.out)⟩⟩
    · replace c10 := Bool.eq_false_iff.mpr c10
      subst c10
      have H1 : (spec_MoveRing.j0 k a2 true l0_0 a1_0 a1_1 a1_2 a1_3 a1_4 a1_5) = some (r1, r2, r3, r4, r5, r6, r7, r8) := by rw [if_neg (show ¬ (false = true) by decide)] at H; exact H
      clear H
      have H := H1
      clear H1
      have H' := Aside0.mk H
      clear H
      have hnb33 := NB674_675.out
      have hnc33 := NB675_674.out
      have hnb34 := NB674_676.out
      have hnc34 := NB676_674.out
      have hnb35 := NB674_677.out
      have hnc35 := NB677_674.out
      have hcz36_0 : w8.cell? ⟨gb674, 0, none⟩ = some (.slice A0_0 l0_0.length c0_0) := (blk_cell BK674.out 0).trans rfl
      have hfz36_0 := blk_frozen BK674.out 0
      have hnb37 := NB675_676.out
      have hnc37 := NB676_675.out
      have hnb38 := NB675_677.out
      have hnc38 := NB677_675.out
      have hcz39_0 : w8.cell? ⟨gb675, 0, none⟩ = some (.int .i64 a1_0) := (blk_cell BK675.out 0).trans rfl
      have hcz39_1 : w8.cell? ⟨gb675, 1, none⟩ = some (.int .i64 a1_1) := (blk_cell BK675.out 1).trans rfl
      have hcz39_2 : w8.cell? ⟨gb675, 2, none⟩ = some (.int .i64 a1_2) := (blk_cell BK675.out 2).trans rfl
      have hcz39_3 : w8.cell? ⟨gb675, 3, none⟩ = some (.int .i64 a1_3) := (blk_cell BK675.out 3).trans rfl
      have hcz39_4 : w8.cell? ⟨gb675, 4, none⟩ = some (.int .i64 a1_4) := (blk_cell BK675.out 4).trans rfl
      have hcz39_5 : w8.cell? ⟨gb675, 5, none⟩ = some (.int .i64 a1_5) := (blk_cell BK675.out 5).trans rfl
      have hfz39_0 := blk_frozen BK675.out 0
      have hfz39_1 := blk_frozen BK675.out 1
      have hfz39_2 := blk_frozen BK675.out 2
      have hfz39_3 := blk_frozen BK675.out 3
      have hfz39_4 := blk_frozen BK675.out 4
      have hfz39_5 := blk_frozen BK675.out 5
      go_wp2_with (first | ((with_reducible refine gate_callee (f := 65) rfl ?_); refine goesL_ (some 14) rfl rfl Try.func65 (by kernel_rfl) rfl #[.agg #[.slice A0_0 l0_0.length c0_0], .agg #[.int .i64 a1_0, .int .i64 a1_1, .int .i64 a1_2, .int .i64 a1_3, .int .i64 a1_4, .int .i64 a1_5]] rfl (by (try simp only [List.map_toArray, List.map_cons, List.map_nil]); first | done | rfl | (simp only [List.length_drop, List.length_take]; rfl)) ?_; (with_reducible refine (spec_l5Ring.calls k _ _ l0_0 a1_0 a1_1 a1_2 a1_3 a1_4 a1_5 false _ ?side1 ?side2 A9.out).mono ?_); (case side1 => repeat (first | exact (Kd.C_below HR0_0.out HB.out) | (with_reducible refine Kd.C_alloc ?_ _) | (with_reducible refine Kd.C_drewN ?_ _) | (with_reducible refine Kd.C_drew ?_))); (case side2 => exact HC0_0.out); rintro e w40 ⟨rfl, hb⟩; refine ⟨_, rfl, ?_⟩; have n0_ := Aside0.mk (blk_below (g := gb674) (o := .cells #[.slice A0_0 l0_0.length c0_0] 31 (0, 0)) (by (with_reducible repeat (first | refine blk_drewN ?_ _ | refine blk_drew ?_ | refine blk_alloc ?_ _)); exact BK674.out) hb); have n1_ := Aside0.mk (blk_below (g := gb675) (o := .cells #[.int .i64 a1_0, .int .i64 a1_1, .int .i64 a1_2, .int .i64 a1_3, .int .i64 a1_4, .int .i64 a1_5] 34 (0, 0)) (by (with_reducible repeat (first | refine blk_drewN ?_ _ | refine blk_drew ?_ | refine blk_alloc ?_ _)); exact BK675.out) hb); have n2_ := Aside0.mk (blk_below (g := gb676) (o := .cells #[.slice none 0 0] 31 (0, 0)) (by (with_reducible repeat (first | refine blk_drewN ?_ _ | refine blk_drew ?_ | refine blk_alloc ?_ _)); exact BK676.out) hb); have n3_ := Aside0.mk (blk_below (g := gb677) (o := .cells #[.int .i64 0, .int .i64 0, .int .i64 0, .int .i64 0, .int .i64 0, .int .i64 0] 34 (0, 0)) (by (with_reducible repeat (first | refine blk_drewN ?_ _ | refine blk_drew ?_ | refine blk_alloc ?_ _)); exact BK677.out) hb); have n4_ := Aside0.mk (below_step (by repeat (first | (with_reducible first | exact HB.out | apply below_alloc | apply pw_below_drewN | apply below_drew1 | refine below_set ?_ GE674.out | refine below_set ?_ GE675.out | refine below_set ?_ GE676.out | refine below_set ?_ GE677.out) | exact HB.out)) hb); clear BK674; clear BK675; clear BK676; clear BK677; clear HB; have BK674 := n0_; have BK675 := n1_; have BK676 := n2_; have BK677 := n3_; have HB := n4_; clear n0_ n1_ n2_ n3_ n4_; (try clear hb); (try clear hb2); (try clear hk); (try clear hi)))
      go_meet
      case rel => exact ⟨_, (true), (by first | rfl | (simp; done) | (simp [*]; done)), H', ⟨by first | omega | exact Nat.le_refl _⟩, ⟨by (with_reducible repeat (first | refine blk_drewN ?_ _ | refine blk_drew ?_ | refine blk_alloc ?_ _)); exact BK674.out⟩, ⟨by (with_reducible repeat (first | refine blk_drewN ?_ _ | refine blk_drew ?_ | refine blk_alloc ?_ _)); exact BK675.out⟩, ⟨by (with_reducible repeat (first | refine blk_drewN ?_ _ | refine blk_drew ?_ | refine blk_alloc ?_ _)); exact BK676.out⟩, ⟨by (with_reducible repeat (first | refine blk_drewN ?_ _ | refine blk_drew ?_ | refine blk_alloc ?_ _)); exact BK677.out⟩, ⟨by repeat (first | (with_reducible first | exact HB.out | apply below_alloc | apply pw_below_drewN | apply below_drew1 | refine below_set ?_ GE674.out | refine below_set ?_ GE675.out | refine below_set ?_ GE676.out | refine below_set ?_ GE677.out) | exact HB.out)⟩⟩
  case rest =>
    clear HC4
    try clear c1
    try clear c2
    try clear p2
    try clear c3
    try clear c6
    try clear c10
    try clear c13
    try clear c14
    try clear c15
    try clear c16
    try clear c18
    try clear c19
    try clear c24
    try clear c25
    try clear c26
    try clear c28
    try clear c29
    try clear c33
    try clear c34
    try clear c35
    try clear c37
    try clear c38
    try clear hcz17_0
    try clear hcz20_0
    try clear hcz20_1
    try clear hcz20_2
    try clear hcz20_3
    try clear hcz20_4
    try clear hcz20_5
    try clear hcz22_0
    try clear hcz22_1
    try clear hcz22_2
    try clear hcz22_3
    try clear hcz22_4
    try clear hcz22_5
    try clear hcz23_0
    try clear hcz27_0
    try clear hcz30_0
    try clear hcz30_1
    try clear hcz30_2
    try clear hcz30_3
    try clear hcz30_4
    try clear hcz30_5
    try clear hcz32_0
    try clear hcz32_1
    try clear hcz32_2
    try clear hcz32_3
    try clear hcz32_4
    try clear hcz32_5
    try clear hcz36_0
    try clear hcz39_0
    try clear hcz39_1
    try clear hcz39_2
    try clear hcz39_3
    try clear hcz39_4
    try clear hcz39_5
    try clear hfz17_0
    try clear hfz20_0
    try clear hfz20_1
    try clear hfz20_2
    try clear hfz20_3
    try clear hfz20_4
    try clear hfz20_5
    try clear hfz22_0
    try clear hfz22_1
    try clear hfz22_2
    try clear hfz22_3
    try clear hfz22_4
    try clear hfz22_5
    try clear hfz23_0
    try clear hfz27_0
    try clear hfz30_0
    try clear hfz30_1
    try clear hfz30_2
    try clear hfz30_3
    try clear hfz30_4
    try clear hfz30_5
    try clear hfz32_0
    try clear hfz32_1
    try clear hfz32_2
    try clear hfz32_3
    try clear hfz32_4
    try clear hfz32_5
    try clear hfz36_0
    try clear hfz39_0
    try clear hfz39_1
    try clear hfz39_2
    try clear hfz39_3
    try clear hfz39_4
    try clear hfz39_5
    obtain ⟨kq, x29_3, rfl, HA, HJ3, BK674, BK675, BK676, BK677, HB⟩ := hcut
    cases kq with
    | zero => exact absurd HA.out (by simp [spec_MoveRing.j0])
    | succ kj3 =>
      have H := HA.out
      clear HA
      simp only [spec_MoveRing.j0] at H
      by_cases c41 : x29_3 = true
      · subst c41
        have H1 : (some (([] : List (List Int)), 0, 0, 0, 0, 0, 0, false)) = some (r1, r2, r3, r4, r5, r6, r7, r8) := by rw [if_pos rfl] at H; exact H
        clear H
        have H := H1
        clear H1
        simp only [Option.some.injEq, Prod.mk.injEq] at H
        obtain ⟨rfl, rfl, rfl, rfl, rfl, rfl, rfl, rfl⟩ := H
        have hnb42 := NB676_674.out
        have hnc42 := NB674_676.out
        have hnb43 := NB676_675.out
        have hnc43 := NB675_676.out
        have hnb44 := NB676_677.out
        have hnc44 := NB677_676.out
        have hcz45_0 : wc.cell? ⟨gb676, 0, none⟩ = some (.slice none 0 0) := (blk_cell BK676.out 0).trans rfl
        have hfz45_0 := blk_frozen BK676.out 0
        have hnb46 := NB677_674.out
        have hnc46 := NB674_677.out
        have hnb47 := NB677_675.out
        have hnc47 := NB675_677.out
        have hcz48_0 : wc.cell? ⟨gb677, 0, none⟩ = some (.int .i64 0) := (blk_cell BK677.out 0).trans rfl
        have hcz48_1 : wc.cell? ⟨gb677, 1, none⟩ = some (.int .i64 0) := (blk_cell BK677.out 1).trans rfl
        have hcz48_2 : wc.cell? ⟨gb677, 2, none⟩ = some (.int .i64 0) := (blk_cell BK677.out 2).trans rfl
        have hcz48_3 : wc.cell? ⟨gb677, 3, none⟩ = some (.int .i64 0) := (blk_cell BK677.out 3).trans rfl
        have hcz48_4 : wc.cell? ⟨gb677, 4, none⟩ = some (.int .i64 0) := (blk_cell BK677.out 4).trans rfl
        have hcz48_5 : wc.cell? ⟨gb677, 5, none⟩ = some (.int .i64 0) := (blk_cell BK677.out 5).trans rfl
        have hfz48_0 := blk_frozen BK677.out 0
        have hfz48_1 := blk_frozen BK677.out 1
        have hfz48_2 := blk_frozen BK677.out 2
        have hfz48_3 := blk_frozen BK677.out 3
        have hfz48_4 := blk_frozen BK677.out 4
        have hfz48_5 := blk_frozen BK677.out 5
        go_wp2
        refine bodyPost_ret (results_list (rs := [.cell 6 31, .cell 7 34, .tmp 8]) rfl (by simp) (.cell gb676 31 #[.slice none 0 0] (0, 0) _ rfl (by (with_reducible repeat (first | refine blk_drewN ?_ _ | refine blk_drew ?_ | refine blk_alloc ?_ _)); refine blk_far ?_ NB676_677.out _; (with_reducible repeat (first | refine blk_drewN ?_ _ | refine blk_drew ?_ | refine blk_alloc ?_ _)); refine blk_far ?_ NB676_677.out _; (with_reducible repeat (first | refine blk_drewN ?_ _ | refine blk_drew ?_ | refine blk_alloc ?_ _)); refine blk_far ?_ NB676_677.out _; (with_reducible repeat (first | refine blk_drewN ?_ _ | refine blk_drew ?_ | refine blk_alloc ?_ _)); refine blk_far ?_ NB676_677.out _; (with_reducible repeat (first | refine blk_drewN ?_ _ | refine blk_drew ?_ | refine blk_alloc ?_ _)); refine blk_far ?_ NB676_677.out _; (with_reducible repeat (first | refine blk_drewN ?_ _ | refine blk_drew ?_ | refine blk_alloc ?_ _)); refine blk_far ?_ NB676_677.out _; (with_reducible repeat (first | refine blk_drewN ?_ _ | refine blk_drew ?_ | refine blk_alloc ?_ _)); refine blk_put (cs := #[.slice none 0 0]) ?_ 0 _ rfl; (with_reducible repeat (first | refine blk_drewN ?_ _ | refine blk_drew ?_ | refine blk_alloc ?_ _)); exact BK676.out) Try.underlying31 rfl (by kernel_rfl) (.cell gb677 34 #[.int .i64 0, .int .i64 0, .int .i64 0, .int .i64 0, .int .i64 0, .int .i64 0] (0, 0) _ rfl (by (with_reducible repeat (first | refine blk_drewN ?_ _ | refine blk_drew ?_ | refine blk_alloc ?_ _)); refine blk_put (cs := #[.int .i64 0, .int .i64 0, .int .i64 0, .int .i64 0, .int .i64 0, .int .i64 0]) ?_ 5 _ rfl; (with_reducible repeat (first | refine blk_drewN ?_ _ | refine blk_drew ?_ | refine blk_alloc ?_ _)); refine blk_put (cs := #[.int .i64 0, .int .i64 0, .int .i64 0, .int .i64 0, .int .i64 0, .int .i64 0]) ?_ 4 _ rfl; (with_reducible repeat (first | refine blk_drewN ?_ _ | refine blk_drew ?_ | refine blk_alloc ?_ _)); refine blk_put (cs := #[.int .i64 0, .int .i64 0, .int .i64 0, .int .i64 0, .int .i64 0, .int .i64 0]) ?_ 3 _ rfl; (with_reducible repeat (first | refine blk_drewN ?_ _ | refine blk_drew ?_ | refine blk_alloc ?_ _)); refine blk_put (cs := #[.int .i64 0, .int .i64 0, .int .i64 0, .int .i64 0, .int .i64 0, .int .i64 0]) ?_ 2 _ rfl; (with_reducible repeat (first | refine blk_drewN ?_ _ | refine blk_drew ?_ | refine blk_alloc ?_ _)); refine blk_put (cs := #[.int .i64 0, .int .i64 0, .int .i64 0, .int .i64 0, .int .i64 0, .int .i64 0]) ?_ 1 _ rfl; (with_reducible repeat (first | refine blk_drewN ?_ _ | refine blk_drew ?_ | refine blk_alloc ?_ _)); refine blk_put (cs := #[.int .i64 0, .int .i64 0, .int .i64 0, .int .i64 0, .int .i64 0, .int .i64 0]) ?_ 0 _ rfl; (with_reducible repeat (first | refine blk_drewN ?_ _ | refine blk_drew ?_ | refine blk_alloc ?_ _)); refine blk_far ?_ NB677_676.out _; (with_reducible repeat (first | refine blk_drewN ?_ _ | refine blk_drew ?_ | refine blk_alloc ?_ _)); exact BK677.out) Try.underlying34 rfl (by kernel_rfl) (.tmp .nil)))) rfl ?_
        exact ⟨_, by first | rfl | (simp [errW_none, errW_some] <;> rfl) | (simp [*, errW_none, errW_some] <;> rfl), by first | exact Kd.S_nil _ _ _ _ _ | exact Kd.N_nil _ _ _ _ _ | exact Kd.V_nil _ _ _ _ _ | exact Kd.Q_nil _ _ _ _ _ | exact Kd.R_nil _ _ _ _ _, by repeat (first | (with_reducible first | exact HB.out | apply below_alloc | apply pw_below_drewN | apply below_drew1 | refine below_set ?_ GE674.out | refine below_set ?_ GE675.out | refine below_set ?_ GE676.out | refine below_set ?_ GE677.out) | exact HB.out)⟩
      · replace c41 := Bool.eq_false_iff.mpr c41
        subst c41
        have H1 : ((spec_l5Bytes.f kj3 l0_0 a1_0 a1_1 a1_2 a1_3 a1_4 a1_5).bind fun t681 => (spec_MoveRing.l0 kj3 a2 t681 l0_0 a1_0 a1_1 a1_2 a1_3 a1_4 a1_5)) = some (r1, r2, r3, r4, r5, r6, r7, r8) := by rw [if_neg (show ¬ (false = true) by decide)] at H; exact H
        clear H
        have H := H1
        clear H1
        replace H := Option.bind_eq_some_iff.mp H
        obtain ⟨t681, A490, H⟩ := H
        replace H : (spec_MoveRing.l0 kj3 a2 t681 l0_0 a1_0 a1_1 a1_2 a1_3 a1_4 a1_5) = some (r1, r2, r3, r4, r5, r6, r7, r8) := H
        have A49 := Aside0.mk A490
        clear A490
        have H' := Aside0.mk H
        clear H
        have hnb50 := NB674_675.out
        have hnc50 := NB675_674.out
        have hnb51 := NB674_676.out
        have hnc51 := NB676_674.out
        have hnb52 := NB674_677.out
        have hnc52 := NB677_674.out
        have hcz53_0 : wc.cell? ⟨gb674, 0, none⟩ = some (.slice A0_0 l0_0.length c0_0) := (blk_cell BK674.out 0).trans rfl
        have hfz53_0 := blk_frozen BK674.out 0
        have hnb54 := NB675_676.out
        have hnc54 := NB676_675.out
        have hnb55 := NB675_677.out
        have hnc55 := NB677_675.out
        have hcz56_0 : wc.cell? ⟨gb675, 0, none⟩ = some (.int .i64 a1_0) := (blk_cell BK675.out 0).trans rfl
        have hcz56_1 : wc.cell? ⟨gb675, 1, none⟩ = some (.int .i64 a1_1) := (blk_cell BK675.out 1).trans rfl
        have hcz56_2 : wc.cell? ⟨gb675, 2, none⟩ = some (.int .i64 a1_2) := (blk_cell BK675.out 2).trans rfl
        have hcz56_3 : wc.cell? ⟨gb675, 3, none⟩ = some (.int .i64 a1_3) := (blk_cell BK675.out 3).trans rfl
        have hcz56_4 : wc.cell? ⟨gb675, 4, none⟩ = some (.int .i64 a1_4) := (blk_cell BK675.out 4).trans rfl
        have hcz56_5 : wc.cell? ⟨gb675, 5, none⟩ = some (.int .i64 a1_5) := (blk_cell BK675.out 5).trans rfl
        have hfz56_0 := blk_frozen BK675.out 0
        have hfz56_1 := blk_frozen BK675.out 1
        have hfz56_2 := blk_frozen BK675.out 2
        have hfz56_3 := blk_frozen BK675.out 3
        have hfz56_4 := blk_frozen BK675.out 4
        have hfz56_5 := blk_frozen BK675.out 5
        go_wp2_with (first | ((with_reducible refine gate_callee (f := 84) rfl ?_); refine goesL_ (some 34) rfl rfl Try.func84 (by kernel_rfl) rfl #[.agg #[.slice A0_0 l0_0.length c0_0], .agg #[.int .i64 a1_0, .int .i64 a1_1, .int .i64 a1_2, .int .i64 a1_3, .int .i64 a1_4, .int .i64 a1_5]] rfl (by (try simp only [List.map_toArray, List.map_cons, List.map_nil]); first | done | rfl | (simp only [List.length_drop, List.length_take]; rfl)) ?_; (with_reducible refine (spec_l5Bytes.calls kj3 _ _ l0_0 a1_0 a1_1 a1_2 a1_3 a1_4 a1_5 t681 _ ?side1 ?side2 A49.out).mono ?_); (case side1 => repeat (first | exact (Kd.C_below HR0_0.out HB.out) | (with_reducible refine Kd.C_alloc ?_ _) | (with_reducible refine Kd.C_drewN ?_ _) | (with_reducible refine Kd.C_drew ?_))); (case side2 => exact HC0_0.out); rintro e w57 ⟨v682, rfl, ho0, hb⟩; refine ⟨_, rfl, ?_⟩; have n0_ := Aside0.mk (Kd.R_lower ho0 (below_size (by repeat (first | (with_reducible first | exact HB.out | apply below_alloc | apply pw_below_drewN | apply below_drew1 | refine below_set ?_ GE674.out | refine below_set ?_ GE675.out | refine below_set ?_ GE676.out | refine below_set ?_ GE677.out) | exact HB.out)))); have n1_ := Aside0.mk (blk_below (g := gb674) (o := .cells #[.slice A0_0 l0_0.length c0_0] 31 (0, 0)) (by (with_reducible repeat (first | refine blk_drewN ?_ _ | refine blk_drew ?_ | refine blk_alloc ?_ _)); exact BK674.out) hb); have n2_ := Aside0.mk (blk_below (g := gb675) (o := .cells #[.int .i64 a1_0, .int .i64 a1_1, .int .i64 a1_2, .int .i64 a1_3, .int .i64 a1_4, .int .i64 a1_5] 34 (0, 0)) (by (with_reducible repeat (first | refine blk_drewN ?_ _ | refine blk_drew ?_ | refine blk_alloc ?_ _)); exact BK675.out) hb); have n3_ := Aside0.mk (blk_below (g := gb676) (o := .cells #[.slice none 0 0] 31 (0, 0)) (by (with_reducible repeat (first | refine blk_drewN ?_ _ | refine blk_drew ?_ | refine blk_alloc ?_ _)); exact BK676.out) hb); have n4_ := Aside0.mk (blk_below (g := gb677) (o := .cells #[.int .i64 0, .int .i64 0, .int .i64 0, .int .i64 0, .int .i64 0, .int .i64 0] 34 (0, 0)) (by (with_reducible repeat (first | refine blk_drewN ?_ _ | refine blk_drew ?_ | refine blk_alloc ?_ _)); exact BK677.out) hb); have n5_ := Aside0.mk (below_step (by repeat (first | (with_reducible first | exact HB.out | apply below_alloc | apply pw_below_drewN | apply below_drew1 | refine below_set ?_ GE674.out | refine below_set ?_ GE675.out | refine below_set ?_ GE676.out | refine below_set ?_ GE677.out) | exact HB.out)) hb); clear BK674; clear BK675; clear BK676; clear BK677; clear HB; have HO683 := n0_; have BK674 := n1_; have BK675 := n2_; have BK676 := n3_; have BK677 := n4_; have HB := n5_; clear n0_ n1_ n2_ n3_ n4_ n5_; (try clear hb); (try clear hb2); (try clear hk); (try clear hi); (try clear ho0)))
        go_loopg [9] kj3 (fun kq v9 w' => ∃ (x9_2 : List Int), Aside0 (spec_MoveRing.l0 kq a2 x9_2 l0_0 a1_0 a1_1 a1_2 a1_3 a1_4 a1_5 = some (r1, r2, r3, r4, r5, r6, r7, r8)) ∧ Aside0 (kq ≤ kj3) ∧ Aside0 (Kd.R (Kd.int .u8) 5 w' w.heap.size (fun _ => True) v9 x9_2) ∧ Aside0 (w'.heap[gb674]? = some (.cells #[(.slice A0_0 l0_0.length c0_0)] 31 (0, 0))) ∧ Aside0 (w'.heap[gb675]? = some (.cells #[.int .i64 a1_0, .int .i64 a1_1, .int .i64 a1_2, .int .i64 a1_3, .int .i64 a1_4, .int .i64 a1_5] 34 (0, 0))) ∧ Aside0 (w'.heap[gb676]? = some (.cells #[(.slice none 0 0)] 31 (0, 0))) ∧ Aside0 (w'.heap[gb677]? = some (.cells #[.int .i64 0, .int .i64 0, .int .i64 0, .int .i64 0, .int .i64 0, .int .i64 0] 34 (0, 0))) ∧ Aside0 (Below w.heap.size w w'))
        case atStart => exact ⟨(t681), H', ⟨Nat.le_refl _⟩, ⟨by (with_reducible repeat (first | apply Kd.R_alloc | apply Kd.R_drewN | apply Kd.R_drew)); exact HO683.out⟩, ⟨by (with_reducible repeat (first | refine blk_drewN ?_ _ | refine blk_drew ?_ | refine blk_alloc ?_ _)); exact BK674.out⟩, ⟨by (with_reducible repeat (first | refine blk_drewN ?_ _ | refine blk_drew ?_ | refine blk_alloc ?_ _)); exact BK675.out⟩, ⟨by (with_reducible repeat (first | refine blk_drewN ?_ _ | refine blk_drew ?_ | refine blk_alloc ?_ _)); exact BK676.out⟩, ⟨by (with_reducible repeat (first | refine blk_drewN ?_ _ | refine blk_drew ?_ | refine blk_alloc ?_ _)); exact BK677.out⟩, ⟨by repeat (first | (with_reducible first | exact HB.out | apply below_alloc | apply pw_below_drewN | apply below_drew1 | refine below_set ?_ GE674.out | refine below_set ?_ GE675.out | refine below_set ?_ GE676.out | refine below_set ?_ GE677.out) | exact HB.out)⟩⟩
        case round =>
          clear H'
          try clear c1
          try clear c2
          try clear p2
          try clear c3
          try clear c4
          try clear c5
          try clear c6
          try clear c8
          try clear c10
          try clear c13
          try clear c14
          try clear c15
          try clear c16
          try clear c18
          try clear c19
          try clear c24
          try clear c25
          try clear c26
          try clear c28
          try clear c29
          try clear c33
          try clear c34
          try clear c35
          try clear c37
          try clear c38
          try clear c41
          try clear c42
          try clear c43
          try clear c44
          try clear c46
          try clear c47
          try clear c50
          try clear c51
          try clear c52
          try clear c54
          try clear c55
          try clear hcz17_0
          try clear hcz20_0
          try clear hcz20_1
          try clear hcz20_2
          try clear hcz20_3
          try clear hcz20_4
          try clear hcz20_5
          try clear hcz22_0
          try clear hcz22_1
          try clear hcz22_2
          try clear hcz22_3
          try clear hcz22_4
          try clear hcz22_5
          try clear hcz23_0
          try clear hcz27_0
          try clear hcz30_0
          try clear hcz30_1
          try clear hcz30_2
          try clear hcz30_3
          try clear hcz30_4
          try clear hcz30_5
          try clear hcz32_0
          try clear hcz32_1
          try clear hcz32_2
          try clear hcz32_3
          try clear hcz32_4
          try clear hcz32_5
          try clear hcz36_0
          try clear hcz39_0
          try clear hcz39_1
          try clear hcz39_2
          try clear hcz39_3
          try clear hcz39_4
          try clear hcz39_5
          try clear hcz45_0
          try clear hcz48_0
          try clear hcz48_1
          try clear hcz48_2
          try clear hcz48_3
          try clear hcz48_4
          try clear hcz48_5
          try clear hcz53_0
          try clear hcz56_0
          try clear hcz56_1
          try clear hcz56_2
          try clear hcz56_3
          try clear hcz56_4
          try clear hcz56_5
          try clear hfz17_0
          try clear hfz20_0
          try clear hfz20_1
          try clear hfz20_2
          try clear hfz20_3
          try clear hfz20_4
          try clear hfz20_5
          try clear hfz22_0
          try clear hfz22_1
          try clear hfz22_2
          try clear hfz22_3
          try clear hfz22_4
          try clear hfz22_5
          try clear hfz23_0
          try clear hfz27_0
          try clear hfz30_0
          try clear hfz30_1
          try clear hfz30_2
          try clear hfz30_3
          try clear hfz30_4
          try clear hfz30_5
          try clear hfz32_0
          try clear hfz32_1
          try clear hfz32_2
          try clear hfz32_3
          try clear hfz32_4
          try clear hfz32_5
          try clear hfz36_0
          try clear hfz39_0
          try clear hfz39_1
          try clear hfz39_2
          try clear hfz39_3
          try clear hfz39_4
          try clear hfz39_5
          try clear hfz45_0
          try clear hfz48_0
          try clear hfz48_1
          try clear hfz48_2
          try clear hfz48_3
          try clear hfz48_4
          try clear hfz48_5
          try clear hfz53_0
          try clear hfz56_0
          try clear hfz56_1
          try clear hfz56_2
          try clear hfz56_3
          try clear hfz56_4
          try clear hfz56_5
          try clear p2
          obtain ⟨x9_2, HA, HK2, HO_9, BK674, BK675, BK676, BK677, HB⟩ := hrel
          cases gk with
          | zero => exact absurd HA.out (by simp [spec_MoveRing.l0])
          | succ k2 =>
            have H := HA.out
            clear HA
            simp only [spec_MoveRing.l0] at H
            by_cases c58 : (x9_2.length : Int) < a2
            · rw [if_pos c58] at H
              have c58b0 : decide ((x9_2.length : Int) < a2) = true := decide_eq_true c58
              clear c58
              by_cases c59 : x9_2.length < 140737488355328
              · rw [if_pos c59] at H
                have LMc59 := Aside0.mk c59
                clear c59
                obtain ⟨y684, hy684⟩ : ∃ y_ : List Int, y_ = (x9_2 ++ [0]) := ⟨_, rfl⟩
                replace H : (spec_MoveRing.l0 k2 a2 y684 l0_0 a1_0 a1_1 a1_2 a1_3 a1_4 a1_5) = some (r1, r2, r3, r4, r5, r6, r7, r8) := by first | (rw [hy684]; with_reducible exact H) | (have H2_ := (Option.bind_some _ _).symm.trans H; rw [hy684]; with_reducible exact H2_) | (have H2_ := (Option.bind_some _ _).symm.trans H; with_reducible exact H2_) | with_reducible exact H | (rw [hy684]; exact H) | exact H
                have Ny684 := Aside0.mk hy684
                clear hy684
                have H' := Aside0.mk H
                clear H
                obtain ⟨Ao60, co60, eo60⟩ := Kd.R_slice HO_9.out
                subst eo60
                go_wp2_with (first | ((with_reducible refine gate_builtin (b := .append) (xs := #[.tmp 39, .tmp 40]) rfl ?_); (try (refine gate_guard (by rfl) ?_; dsimp only)); at_builtin; refine Kd.R_append (Kd.int .u8) (w0 := w) w.heap.size rfl (.tmp 39) (.tmp 40) 29 5 (.int .u8 0) 1 rfl Try.underlying29 info5 rfl (by decide) (by omega) (.slice Ao60 x9_2.length co60) x9_2 0 [.int .u8 0] (fun _ => True) (fun _ => False) rfl rfl ?aP (fun _ hk => hk.elim) ?aF ?aO ?aB ?aS ?aL ?_; (case aP => exact rfl); (case aB => exact (by repeat (first | (with_reducible first | exact HB.out | apply below_alloc | apply pw_below_drewN | apply below_drew1 | refine below_set ?_ GE674.out | refine below_set ?_ GE675.out | refine below_set ?_ GE676.out | refine below_set ?_ GE677.out) | exact HB.out))); (case aF => exact (fun _ _ => trivial)); (case aO => exact (by (with_reducible repeat (first | apply Kd.R_alloc | apply Kd.R_drewN | apply Kd.R_drew)); exact HO_9.out)); (case aS => exact (below_size (by repeat (first | (with_reducible first | exact HB.out | apply below_alloc | apply pw_below_drewN | apply below_drew1 | refine below_set ?_ GE674.out | refine below_set ?_ GE675.out | refine below_set ?_ GE676.out | refine below_set ?_ GE677.out) | exact HB.out)))); (case aL => have := LMc59.out; omega); intro v685 w61 ho hb hg hat; rw [← Ny684.out] at ho; have n0_ := Aside0.mk (blk_grown (g := gb674) (o := .cells #[.slice A0_0 l0_0.length c0_0] 31 (0, 0)) (by (with_reducible repeat (first | refine blk_drewN ?_ _ | refine blk_drew ?_ | refine blk_alloc ?_ _)); exact BK674.out) hg (Kd.R_ne HO_9.out BK674.out (by decide))); have n1_ := Aside0.mk (blk_grown (g := gb675) (o := .cells #[.int .i64 a1_0, .int .i64 a1_1, .int .i64 a1_2, .int .i64 a1_3, .int .i64 a1_4, .int .i64 a1_5] 34 (0, 0)) (by (with_reducible repeat (first | refine blk_drewN ?_ _ | refine blk_drew ?_ | refine blk_alloc ?_ _)); exact BK675.out) hg (Kd.R_ne HO_9.out BK675.out (by decide))); have n2_ := Aside0.mk (blk_grown (g := gb676) (o := .cells #[.slice none 0 0] 31 (0, 0)) (by (with_reducible repeat (first | refine blk_drewN ?_ _ | refine blk_drew ?_ | refine blk_alloc ?_ _)); exact BK676.out) hg (Kd.R_ne HO_9.out BK676.out (by decide))); have n3_ := Aside0.mk (blk_grown (g := gb677) (o := .cells #[.int .i64 0, .int .i64 0, .int .i64 0, .int .i64 0, .int .i64 0, .int .i64 0] 34 (0, 0)) (by (with_reducible repeat (first | refine blk_drewN ?_ _ | refine blk_drew ?_ | refine blk_alloc ?_ _)); exact BK677.out) hg (Kd.R_ne HO_9.out BK677.out (by decide))); have n4_ := Aside0.mk (hb); have n5_ := Aside0.mk (ho); clear BK674; clear BK675; clear BK676; clear BK677; clear HB; clear HO_9; have BK674 := n0_; have BK675 := n1_; have BK676 := n2_; have BK677 := n3_; have HB := n4_; have HO686 := n5_; clear n0_ n1_ n2_ n3_ n4_ n5_; clear ho hb hg hat))
                go_roundg k2
                case measure => have := HJ3.out; have := HK2.out; omega
                case rel => exact ⟨(y684), H', ⟨by have := HJ3.out; have := HK2.out; omega⟩, ⟨by (with_reducible repeat (first | apply Kd.R_alloc | apply Kd.R_drewN | apply Kd.R_drew)); exact HO686.out⟩, ⟨by (with_reducible repeat (first | refine blk_drewN ?_ _ | refine blk_drew ?_ | refine blk_alloc ?_ _)); exact BK674.out⟩, ⟨by (with_reducible repeat (first | refine blk_drewN ?_ _ | refine blk_drew ?_ | refine blk_alloc ?_ _)); exact BK675.out⟩, ⟨by (with_reducible repeat (first | refine blk_drewN ?_ _ | refine blk_drew ?_ | refine blk_alloc ?_ _)); exact BK676.out⟩, ⟨by (with_reducible repeat (first | refine blk_drewN ?_ _ | refine blk_drew ?_ | refine blk_alloc ?_ _)); exact BK677.out⟩, ⟨by repeat (first | (with_reducible first | exact HB.out | apply below_alloc | apply pw_below_drewN | apply below_drew1 | refine below_set ?_ GE674.out | refine below_set ?_ GE675.out | refine below_set ?_ GE676.out | refine below_set ?_ GE677.out) | exact HB.out)⟩⟩
              · rw [if_neg c59] at H
                exact absurd H (by simp)
            · rw [if_neg c58] at H
              have c58b0 : decide ((x9_2.length : Int) < a2) = false := decide_eq_false c58
              clear c58
              replace H := Option.bind_eq_some_iff.mp H
              obtain ⟨⟨t687, t690, t691, t692, t693⟩, A620, H⟩ := H
              replace H : (some (t687, t690, t691, t692, t693, 0, a1_5, true)) = some (r1, r2, r3, r4, r5, r6, r7, r8) := H
              have A62 := Aside0.mk A620
              clear A620
              simp only [Option.some.injEq, Prod.mk.injEq] at H
              obtain ⟨rfl, rfl, rfl, rfl, rfl, rfl, rfl, rfl⟩ := H
              obtain ⟨Ao63, co63, eo63⟩ := Kd.R_slice HO_9.out
              subst eo63
              have hnb64 := NB674_675.out
              have hnc64 := NB675_674.out
              have hnb65 := NB674_676.out
              have hnc65 := NB676_674.out
              have hnb66 := NB674_677.out
              have hnc66 := NB677_674.out
              have hcz67_0 : wr.cell? ⟨gb674, 0, none⟩ = some (.slice A0_0 l0_0.length c0_0) := (blk_cell BK674.out 0).trans rfl
              have hfz67_0 := blk_frozen BK674.out 0
              try go_wp2_with (first | ((with_reducible refine gate_callee (f := 85) rfl ?_); refine goesL_ (some 46) rfl rfl Try.func85 (by kernel_rfl) rfl #[.agg #[.slice A0_0 l0_0.length c0_0], .slice Ao63 x9_2.length co63, .int .i64 a2] rfl (by (try simp only [List.map_toArray, List.map_cons, List.map_nil]); first | done | rfl | (simp only [List.length_drop, List.length_take]; rfl)) ?_; (with_reducible refine (spec_l2New.calls k2 _ _ l0_0 _ _ x9_2 a2 t687 t690 t691 t692 t693 _ ?side1 ?side2 ?side3 ?side4 A62.out).mono ?_); (case side1 => repeat (first | exact (Kd.C_below HR0_0.out HB.out) | (with_reducible refine Kd.C_alloc ?_ _) | (with_reducible refine Kd.C_drewN ?_ _) | (with_reducible refine Kd.C_drew ?_))); (case side2 => exact HC0_0.out); (case side3 => repeat (first | exact (Kd.R_reads' HO_9.out).2.2 | (with_reducible refine Kd.C_alloc ?_ _) | (with_reducible refine Kd.C_drewN ?_ _) | (with_reducible refine Kd.C_drew ?_))); (case side4 => exact (Kd.R_reads' HO_9.out).2.1); rintro e w68 ⟨v688, rfl, ho0, hb⟩; refine ⟨_, rfl, ?_⟩; have n0_ := Aside0.mk (Kd.R_below (by (with_reducible repeat (first | apply Kd.R_alloc | apply Kd.R_drewN | apply Kd.R_drew)); exact HO_9.out) hb); have n1_ := Aside0.mk (Kd.S_lower (Kd.S_new' ho0 (Kd.R_lt (by (with_reducible repeat (first | apply Kd.R_alloc | apply Kd.R_drewN | apply Kd.R_drew)); exact HO_9.out))) (below_size (by repeat (first | (with_reducible first | exact HB.out | apply below_alloc | apply pw_below_drewN | apply below_drew1 | refine below_set ?_ GE674.out | refine below_set ?_ GE675.out | refine below_set ?_ GE676.out | refine below_set ?_ GE677.out) | exact HB.out)))); have n2_ := Aside0.mk (blk_below (g := gb674) (o := .cells #[.slice A0_0 l0_0.length c0_0] 31 (0, 0)) (by (with_reducible repeat (first | refine blk_drewN ?_ _ | refine blk_drew ?_ | refine blk_alloc ?_ _)); exact BK674.out) hb); have n3_ := Aside0.mk (blk_below (g := gb675) (o := .cells #[.int .i64 a1_0, .int .i64 a1_1, .int .i64 a1_2, .int .i64 a1_3, .int .i64 a1_4, .int .i64 a1_5] 34 (0, 0)) (by (with_reducible repeat (first | refine blk_drewN ?_ _ | refine blk_drew ?_ | refine blk_alloc ?_ _)); exact BK675.out) hb); have n4_ := Aside0.mk (blk_below (g := gb676) (o := .cells #[.slice none 0 0] 31 (0, 0)) (by (with_reducible repeat (first | refine blk_drewN ?_ _ | refine blk_drew ?_ | refine blk_alloc ?_ _)); exact BK676.out) hb); have n5_ := Aside0.mk (blk_below (g := gb677) (o := .cells #[.int .i64 0, .int .i64 0, .int .i64 0, .int .i64 0, .int .i64 0, .int .i64 0] 34 (0, 0)) (by (with_reducible repeat (first | refine blk_drewN ?_ _ | refine blk_drew ?_ | refine blk_alloc ?_ _)); exact BK677.out) hb); have n6_ := Aside0.mk (below_step (by repeat (first | (with_reducible first | exact HB.out | apply below_alloc | apply pw_below_drewN | apply below_drew1 | refine below_set ?_ GE674.out | refine below_set ?_ GE675.out | refine below_set ?_ GE676.out | refine below_set ?_ GE677.out) | exact HB.out)) hb); clear HO_9; clear BK674; clear BK675; clear BK676; clear BK677; clear HB; have HO_9 := n0_; have HO689 := n1_; have BK674 := n2_; have BK675 := n3_; have BK676 := n4_; have BK677 := n5_; have HB := n6_; clear n0_ n1_ n2_ n3_ n4_ n5_ n6_; (try clear hb); (try clear hb2); (try clear hk); (try clear hi); (try clear ho0)) | ((with_reducible refine gate_dst (N := 10) rfl ?_); (try (refine gate_guard (by rfl) ?_; dsimp only)); refine box_event ?hg (N := 10) ?hd (cs := #[.slice none 0 0]) (t := 31) ?hr ?_; (case hd => rfl); (case hg => rfl); (case hr => first | (go_simp; done) | (go_simp; rfl)); intro gb694 hg w69 hbox hb; have n0_ := Aside0.mk (Kd.R_below (by (with_reducible repeat (first | apply Kd.R_alloc | apply Kd.R_drewN | apply Kd.R_drew)); exact HO_9.out) hb); have n1_ := Aside0.mk (Kd.S_below (by (with_reducible repeat (first | apply Kd.S_alloc | apply Kd.S_drewN | apply Kd.S_drew)); exact HO689.out) hb); have n2_ := Aside0.mk (blk_below (g := gb674) (o := .cells #[.slice A0_0 l0_0.length c0_0] 31 (0, 0)) (by (with_reducible repeat (first | refine blk_drewN ?_ _ | refine blk_drew ?_ | refine blk_alloc ?_ _)); exact BK674.out) hb); have n3_ := Aside0.mk (blk_below (g := gb675) (o := .cells #[.int .i64 a1_0, .int .i64 a1_1, .int .i64 a1_2, .int .i64 a1_3, .int .i64 a1_4, .int .i64 a1_5] 34 (0, 0)) (by (with_reducible repeat (first | refine blk_drewN ?_ _ | refine blk_drew ?_ | refine blk_alloc ?_ _)); exact BK675.out) hb); have n4_ := Aside0.mk (blk_below (g := gb676) (o := .cells #[.slice none 0 0] 31 (0, 0)) (by (with_reducible repeat (first | refine blk_drewN ?_ _ | refine blk_drew ?_ | refine blk_alloc ?_ _)); exact BK676.out) hb); have n5_ := Aside0.mk (blk_below (g := gb677) (o := .cells #[.int .i64 0, .int .i64 0, .int .i64 0, .int .i64 0, .int .i64 0, .int .i64 0] 34 (0, 0)) (by (with_reducible repeat (first | refine blk_drewN ?_ _ | refine blk_drew ?_ | refine blk_alloc ?_ _)); exact BK677.out) hb); have n6_ := Aside0.mk (below_step (by repeat (first | (with_reducible first | exact HB.out | apply below_alloc | apply pw_below_drewN | apply below_drew1 | refine below_set ?_ GE674.out | refine below_set ?_ GE675.out | refine below_set ?_ GE676.out | refine below_set ?_ GE677.out) | exact HB.out)) hb); have n7_ := Aside0.mk (hbox); have n8_ := Aside0.mk ((by rw [hg]; exact (below_size (by repeat (first | (with_reducible first | exact HB.out | apply below_alloc | apply pw_below_drewN | apply below_drew1 | refine below_set ?_ GE674.out | refine below_set ?_ GE675.out | refine below_set ?_ GE676.out | refine below_set ?_ GE677.out) | exact HB.out))) : w.heap.size ≤ gb694)); have n9_ := Aside0.mk ((by rw [hg]; exact (below_size (by repeat (first | (with_reducible first | exact HB.out | apply below_alloc | apply pw_below_drewN | apply below_drew1 | refine below_set ?_ GE674.out | refine below_set ?_ GE675.out | refine below_set ?_ GE676.out | refine below_set ?_ GE677.out) | exact HB.out))) : w.heap.size ≤ gb694)); have n10_ := Aside0.mk ((by rw [hg]; exact Nat.ne_of_lt (blk_lt (g := gb674) (o := .cells #[.slice A0_0 l0_0.length c0_0] 31 (0, 0)) (by (with_reducible repeat (first | refine blk_drewN ?_ _ | refine blk_drew ?_ | refine blk_alloc ?_ _)); exact BK674.out)) : gb674 ≠ gb694)); have n11_ := Aside0.mk ((by rw [hg]; exact Nat.ne_of_gt (blk_lt (g := gb674) (o := .cells #[.slice A0_0 l0_0.length c0_0] 31 (0, 0)) (by (with_reducible repeat (first | refine blk_drewN ?_ _ | refine blk_drew ?_ | refine blk_alloc ?_ _)); exact BK674.out)) : gb694 ≠ gb674)); have n12_ := Aside0.mk ((by rw [hg]; exact Nat.ne_of_lt (blk_lt (g := gb675) (o := .cells #[.int .i64 a1_0, .int .i64 a1_1, .int .i64 a1_2, .int .i64 a1_3, .int .i64 a1_4, .int .i64 a1_5] 34 (0, 0)) (by (with_reducible repeat (first | refine blk_drewN ?_ _ | refine blk_drew ?_ | refine blk_alloc ?_ _)); exact BK675.out)) : gb675 ≠ gb694)); have n13_ := Aside0.mk ((by rw [hg]; exact Nat.ne_of_gt (blk_lt (g := gb675) (o := .cells #[.int .i64 a1_0, .int .i64 a1_1, .int .i64 a1_2, .int .i64 a1_3, .int .i64 a1_4, .int .i64 a1_5] 34 (0, 0)) (by (with_reducible repeat (first | refine blk_drewN ?_ _ | refine blk_drew ?_ | refine blk_alloc ?_ _)); exact BK675.out)) : gb694 ≠ gb675)); have n14_ := Aside0.mk ((by rw [hg]; exact Nat.ne_of_lt (blk_lt (g := gb676) (o := .cells #[.slice none 0 0] 31 (0, 0)) (by (with_reducible repeat (first | refine blk_drewN ?_ _ | refine blk_drew ?_ | refine blk_alloc ?_ _)); exact BK676.out)) : gb676 ≠ gb694)); have n15_ := Aside0.mk ((by rw [hg]; exact Nat.ne_of_gt (blk_lt (g := gb676) (o := .cells #[.slice none 0 0] 31 (0, 0)) (by (with_reducible repeat (first | refine blk_drewN ?_ _ | refine blk_drew ?_ | refine blk_alloc ?_ _)); exact BK676.out)) : gb694 ≠ gb676)); have n16_ := Aside0.mk ((by rw [hg]; exact Nat.ne_of_lt (blk_lt (g := gb677) (o := .cells #[.int .i64 0, .int .i64 0, .int .i64 0, .int .i64 0, .int .i64 0, .int .i64 0] 34 (0, 0)) (by (with_reducible repeat (first | refine blk_drewN ?_ _ | refine blk_drew ?_ | refine blk_alloc ?_ _)); exact BK677.out)) : gb677 ≠ gb694)); have n17_ := Aside0.mk ((by rw [hg]; exact Nat.ne_of_gt (blk_lt (g := gb677) (o := .cells #[.int .i64 0, .int .i64 0, .int .i64 0, .int .i64 0, .int .i64 0, .int .i64 0] 34 (0, 0)) (by (with_reducible repeat (first | refine blk_drewN ?_ _ | refine blk_drew ?_ | refine blk_alloc ?_ _)); exact BK677.out)) : gb694 ≠ gb677)); clear HO_9; clear HO689; clear BK674; clear BK675; clear BK676; clear BK677; clear HB; have HO_9 := n0_; have HO689 := n1_; have BK674 := n2_; have BK675 := n3_; have BK676 := n4_; have BK677 := n5_; have HB := n6_; have BK694 := n7_; have GW694 := n8_; have GE694 := n9_; have NB674_694 := n10_; have NB694_674 := n11_; have NB675_694 := n12_; have NB694_675 := n13_; have NB676_694 := n14_; have NB694_676 := n15_; have NB677_694 := n16_; have NB694_677 := n17_; clear n0_ n1_ n2_ n3_ n4_ n5_ n6_ n7_ n8_ n9_ n10_ n11_ n12_ n13_ n14_ n15_ n16_ n17_; clear hb hbox hg) | ((with_reducible refine gate_dst (N := 11) rfl ?_); (try (refine gate_guard (by rfl) ?_; dsimp only)); refine box_event ?hg (N := 11) ?hd (cs := #[.int .i64 0, .int .i64 0, .int .i64 0, .int .i64 0]) (t := 32) ?hr ?_; (case hd => rfl); (case hg => rfl); (case hr => first | (go_simp; done) | (go_simp; rfl)); intro gb695 hg w70 hbox hb; have n0_ := Aside0.mk (Kd.R_below (by (with_reducible repeat (first | apply Kd.R_alloc | apply Kd.R_drewN | apply Kd.R_drew)); exact HO_9.out) hb); have n1_ := Aside0.mk (Kd.S_below (by (with_reducible repeat (first | apply Kd.S_alloc | apply Kd.S_drewN | apply Kd.S_drew)); exact HO689.out) hb); have n2_ := Aside0.mk (blk_below (g := gb674) (o := .cells #[.slice A0_0 l0_0.length c0_0] 31 (0, 0)) (by (with_reducible repeat (first | refine blk_drewN ?_ _ | refine blk_drew ?_ | refine blk_alloc ?_ _)); exact BK674.out) hb); have n3_ := Aside0.mk (blk_below (g := gb675) (o := .cells #[.int .i64 a1_0, .int .i64 a1_1, .int .i64 a1_2, .int .i64 a1_3, .int .i64 a1_4, .int .i64 a1_5] 34 (0, 0)) (by (with_reducible repeat (first | refine blk_drewN ?_ _ | refine blk_drew ?_ | refine blk_alloc ?_ _)); exact BK675.out) hb); have n4_ := Aside0.mk (blk_below (g := gb676) (o := .cells #[.slice none 0 0] 31 (0, 0)) (by (with_reducible repeat (first | refine blk_drewN ?_ _ | refine blk_drew ?_ | refine blk_alloc ?_ _)); exact BK676.out) hb); have n5_ := Aside0.mk (blk_below (g := gb677) (o := .cells #[.int .i64 0, .int .i64 0, .int .i64 0, .int .i64 0, .int .i64 0, .int .i64 0] 34 (0, 0)) (by (with_reducible repeat (first | refine blk_drewN ?_ _ | refine blk_drew ?_ | refine blk_alloc ?_ _)); exact BK677.out) hb); have n6_ := Aside0.mk (blk_below (g := gb694) (o := .cells #[.slice none 0 0] 31 (0, 0)) (by (with_reducible repeat (first | refine blk_drewN ?_ _ | refine blk_drew ?_ | refine blk_alloc ?_ _)); exact BK694.out) hb); have n7_ := Aside0.mk (below_step (by repeat (first | (with_reducible first | exact HB.out | apply below_alloc | apply pw_below_drewN | apply below_drew1 | refine below_set ?_ GE674.out | refine below_set ?_ GE675.out | refine below_set ?_ GE676.out | refine below_set ?_ GE677.out | refine below_set ?_ GE694.out) | exact HB.out)) hb); have n8_ := Aside0.mk (hbox); have n9_ := Aside0.mk ((by rw [hg]; exact (below_size (by repeat (first | (with_reducible first | exact HB.out | apply below_alloc | apply pw_below_drewN | apply below_drew1 | refine below_set ?_ GE674.out | refine below_set ?_ GE675.out | refine below_set ?_ GE676.out | refine below_set ?_ GE677.out | refine below_set ?_ GE694.out) | exact HB.out))) : w.heap.size ≤ gb695)); have n10_ := Aside0.mk ((by rw [hg]; exact (below_size (by repeat (first | (with_reducible first | exact HB.out | apply below_alloc | apply pw_below_drewN | apply below_drew1 | refine below_set ?_ GE674.out | refine below_set ?_ GE675.out | refine below_set ?_ GE676.out | refine below_set ?_ GE677.out | refine below_set ?_ GE694.out) | exact HB.out))) : w.heap.size ≤ gb695)); have n11_ := Aside0.mk ((by rw [hg]; exact Nat.ne_of_lt (blk_lt (g := gb674) (o := .cells #[.slice A0_0 l0_0.length c0_0] 31 (0, 0)) (by (with_reducible repeat (first | refine blk_drewN ?_ _ | refine blk_drew ?_ | refine blk_alloc ?_ _)); exact BK674.out)) : gb674 ≠ gb695)); have n12_ := Aside0.mk ((by rw [hg]; exact Nat.ne_of_gt (blk_lt (g := gb674) (o := .cells #[.slice A0_0 l0_0.length c0_0] 31 (0, 0)) (by (with_reducible repeat (first | refine blk_drewN ?_ _ | refine blk_drew ?_ | refine blk_alloc ?_ _)); exact BK674.out)) : gb695 ≠ gb674)); have n13_ := Aside0.mk ((by rw [hg]; exact Nat.ne_of_lt (blk_lt (g := gb675) (o := .cells #[.int .i64 a1_0, .int .i64 a1_1, .int .i64 a1_2, .int .i64 a1_3, .int .i64 a1_4, .int .i64 a1_5] 34 (0, 0)) (by (with_reducible repeat (first | refine blk_drewN ?_ _ | refine blk_drew ?_ | refine blk_alloc ?_ _)); exact BK675.out)) : gb675 ≠ gb695)); have n14_ := Aside0.mk ((by rw [hg]; exact Nat.ne_of_gt (blk_lt (g := gb675) (o := .cells #[.int .i64 a1_0, .int .i64 a1_1, .int .i64 a1_2, .int .i64 a1_3, .int .i64 a1_4, .int .i64 a1_5] 34 (0, 0)) (by (with_reducible repeat (first | refine blk_drewN ?_ _ | refine blk_drew ?_ | refine blk_alloc ?_ _)); exact BK675.out)) : gb695 ≠ gb675)); have n15_ := Aside0.mk ((by rw [hg]; exact Nat.ne_of_lt (blk_lt (g := gb676) (o := .cells #[.slice none 0 0] 31 (0, 0)) (by (with_reducible repeat (first | refine blk_drewN ?_ _ | refine blk_drew ?_ | refine blk_alloc ?_ _)); exact BK676.out)) : gb676 ≠ gb695)); have n16_ := Aside0.mk ((by rw [hg]; exact Nat.ne_of_gt (blk_lt (g := gb676) (o := .cells #[.slice none 0 0] 31 (0, 0)) (by (with_reducible repeat (first | refine blk_drewN ?_ _ | refine blk_drew ?_ | refine blk_alloc ?_ _)); exact BK676.out)) : gb695 ≠ gb676)); have n17_ := Aside0.mk ((by rw [hg]; exact Nat.ne_of_lt (blk_lt (g := gb677) (o := .cells #[.int .i64 0, .int .i64 0, .int .i64 0, .int .i64 0, .int .i64 0, .int .i64 0] 34 (0, 0)) (by (with_reducible repeat (first | refine blk_drewN ?_ _ | refine blk_drew ?_ | refine blk_alloc ?_ _)); exact BK677.out)) : gb677 ≠ gb695)); have n18_ := Aside0.mk ((by rw [hg]; exact Nat.ne_of_gt (blk_lt (g := gb677) (o := .cells #[.int .i64 0, .int .i64 0, .int .i64 0, .int .i64 0, .int .i64 0, .int .i64 0] 34 (0, 0)) (by (with_reducible repeat (first | refine blk_drewN ?_ _ | refine blk_drew ?_ | refine blk_alloc ?_ _)); exact BK677.out)) : gb695 ≠ gb677)); have n19_ := Aside0.mk ((by rw [hg]; exact Nat.ne_of_lt (blk_lt (g := gb694) (o := .cells #[.slice none 0 0] 31 (0, 0)) (by (with_reducible repeat (first | refine blk_drewN ?_ _ | refine blk_drew ?_ | refine blk_alloc ?_ _)); exact BK694.out)) : gb694 ≠ gb695)); have n20_ := Aside0.mk ((by rw [hg]; exact Nat.ne_of_gt (blk_lt (g := gb694) (o := .cells #[.slice none 0 0] 31 (0, 0)) (by (with_reducible repeat (first | refine blk_drewN ?_ _ | refine blk_drew ?_ | refine blk_alloc ?_ _)); exact BK694.out)) : gb695 ≠ gb694)); clear HO_9; clear HO689; clear BK674; clear BK675; clear BK676; clear BK677; clear BK694; clear HB; have HO_9 := n0_; have HO689 := n1_; have BK674 := n2_; have BK675 := n3_; have BK676 := n4_; have BK677 := n5_; have BK694 := n6_; have HB := n7_; have BK695 := n8_; have GW695 := n9_; have GE695 := n10_; have NB674_695 := n11_; have NB695_674 := n12_; have NB675_695 := n13_; have NB695_675 := n14_; have NB676_695 := n15_; have NB695_676 := n16_; have NB677_695 := n17_; have NB695_677 := n18_; have NB694_695 := n19_; have NB695_694 := n20_; clear n0_ n1_ n2_ n3_ n4_ n5_ n6_ n7_ n8_ n9_ n10_ n11_ n12_ n13_ n14_ n15_ n16_ n17_ n18_ n19_ n20_; clear hb hbox hg; obtain ⟨Ao71, co71, eo71⟩ := Kd.S_slice HO689.out; subst eo71; have hnb72 := NB694_674.out; have hnc72 := NB674_694.out; have hnb73 := NB694_675.out; have hnc73 := NB675_694.out; have hnb74 := NB694_676.out; have hnc74 := NB676_694.out; have hnb75 := NB694_677.out; have hnc75 := NB677_694.out; have hnb76 := NB694_695.out; have hnc76 := NB695_694.out; have hcz77_0 : w70.cell? ⟨gb694, 0, none⟩ = some (.slice none 0 0) := (blk_cell BK694.out 0).trans rfl; have hfz77_0 := blk_frozen BK694.out 0; have hnb78 := NB695_674.out; have hnc78 := NB674_695.out; have hnb79 := NB695_675.out; have hnc79 := NB675_695.out; have hnb80 := NB695_676.out; have hnc80 := NB676_695.out; have hnb81 := NB695_677.out; have hnc81 := NB677_695.out; have hcz82_0 : w70.cell? ⟨gb695, 0, none⟩ = some (.int .i64 0) := (blk_cell BK695.out 0).trans rfl; have hcz82_1 : w70.cell? ⟨gb695, 1, none⟩ = some (.int .i64 0) := (blk_cell BK695.out 1).trans rfl; have hcz82_2 : w70.cell? ⟨gb695, 2, none⟩ = some (.int .i64 0) := (blk_cell BK695.out 2).trans rfl; have hcz82_3 : w70.cell? ⟨gb695, 3, none⟩ = some (.int .i64 0) := (blk_cell BK695.out 3).trans rfl; have hfz82_0 := blk_frozen BK695.out 0; have hfz82_1 := blk_frozen BK695.out 1; have hfz82_2 := blk_frozen BK695.out 2; have hfz82_3 := blk_frozen BK695.out 3))
              have n0_ : Aside0 (Kd.R (Kd.int .u8) 5 (((((w70.setCell ⟨gb694, 0, none⟩ (.slice Ao71 t687.length co71)).setCell ⟨gb695, 0, none⟩ (.int .i64 t690)).setCell ⟨gb695, 1, none⟩ (.int .i64 t691)).setCell ⟨gb695, 2, none⟩ (.int .i64 t692)).setCell ⟨gb695, 3, none⟩ (.int .i64 t693)) w.heap.size (fun _ => True) (.slice Ao63 x9_2.length co63) x9_2) := ⟨by (with_reducible repeat (first | apply Kd.R_alloc | apply Kd.R_drewN | apply Kd.R_drew)); exact Kd.R_mono (Kd.R_far (p := ⟨gb695, 3, none⟩) (Kd.R_far (p := ⟨gb695, 2, none⟩) (Kd.R_far (p := ⟨gb695, 1, none⟩) (Kd.R_far (p := ⟨gb695, 0, none⟩) (Kd.R_far (p := ⟨gb694, 0, none⟩) (Kd.R_types (Kd.R_types HO_9.out BK694.out (by decide)) BK695.out (by decide)) (fun _ hk => hk.1.2) (.slice Ao71 t687.length co71)) (fun _ hk => hk.2) (.int .i64 t690)) (fun _ hk => hk.2) (.int .i64 t691)) (fun _ hk => hk.2) (.int .i64 t692)) (fun _ hk => hk.2) (.int .i64 t693)) (fun _ hk => trivial)⟩
              have n1_ : Aside0 (Kd.S (Kd.slice 5 (Kd.int .u8)) 29 (((((w70.setCell ⟨gb694, 0, none⟩ (.slice Ao71 t687.length co71)).setCell ⟨gb695, 0, none⟩ (.int .i64 t690)).setCell ⟨gb695, 1, none⟩ (.int .i64 t691)).setCell ⟨gb695, 2, none⟩ (.int .i64 t692)).setCell ⟨gb695, 3, none⟩ (.int .i64 t693)) w.heap.size (fun k_ => some k_ ≠ (.slice Ao63 x9_2.length co63 : Value).ownBlock) (.slice Ao71 t687.length co71) t687) := ⟨by (with_reducible repeat (first | apply Kd.S_alloc | apply Kd.S_drewN | apply Kd.S_drew)); exact Kd.S_mono (Kd.S_far (p := ⟨gb695, 3, none⟩) (Kd.S_far (p := ⟨gb695, 2, none⟩) (Kd.S_far (p := ⟨gb695, 1, none⟩) (Kd.S_far (p := ⟨gb695, 0, none⟩) (Kd.S_far (p := ⟨gb694, 0, none⟩) (Kd.S_types (Kd.S_types HO689.out BK694.out (by decide)) BK695.out (by decide)) (fun _ hk => hk.1.2) (.slice Ao71 t687.length co71)) (fun _ hk => hk.2) (.int .i64 t690)) (fun _ hk => hk.2) (.int .i64 t691)) (fun _ hk => hk.2) (.int .i64 t692)) (fun _ hk => hk.2) (.int .i64 t693)) (fun _ hk => hk.1.1.2)⟩
              have n2_ : Aside0 ((((((w70.setCell ⟨gb694, 0, none⟩ (.slice Ao71 t687.length co71)).setCell ⟨gb695, 0, none⟩ (.int .i64 t690)).setCell ⟨gb695, 1, none⟩ (.int .i64 t691)).setCell ⟨gb695, 2, none⟩ (.int .i64 t692)).setCell ⟨gb695, 3, none⟩ (.int .i64 t693)).heap[gb674]? = some (.cells #[.slice A0_0 l0_0.length c0_0] 31 (0, 0))) := ⟨by (with_reducible repeat (first | refine blk_drewN ?_ _ | refine blk_drew ?_ | refine blk_alloc ?_ _)); refine blk_far ?_ NB674_695.out _; (with_reducible repeat (first | refine blk_drewN ?_ _ | refine blk_drew ?_ | refine blk_alloc ?_ _)); refine blk_far ?_ NB674_695.out _; (with_reducible repeat (first | refine blk_drewN ?_ _ | refine blk_drew ?_ | refine blk_alloc ?_ _)); refine blk_far ?_ NB674_695.out _; (with_reducible repeat (first | refine blk_drewN ?_ _ | refine blk_drew ?_ | refine blk_alloc ?_ _)); refine blk_far ?_ NB674_695.out _; (with_reducible repeat (first | refine blk_drewN ?_ _ | refine blk_drew ?_ | refine blk_alloc ?_ _)); refine blk_far ?_ NB674_694.out _; (with_reducible repeat (first | refine blk_drewN ?_ _ | refine blk_drew ?_ | refine blk_alloc ?_ _)); exact BK674.out⟩
              have n3_ : Aside0 ((((((w70.setCell ⟨gb694, 0, none⟩ (.slice Ao71 t687.length co71)).setCell ⟨gb695, 0, none⟩ (.int .i64 t690)).setCell ⟨gb695, 1, none⟩ (.int .i64 t691)).setCell ⟨gb695, 2, none⟩ (.int .i64 t692)).setCell ⟨gb695, 3, none⟩ (.int .i64 t693)).heap[gb675]? = some (.cells #[.int .i64 a1_0, .int .i64 a1_1, .int .i64 a1_2, .int .i64 a1_3, .int .i64 a1_4, .int .i64 a1_5] 34 (0, 0))) := ⟨by (with_reducible repeat (first | refine blk_drewN ?_ _ | refine blk_drew ?_ | refine blk_alloc ?_ _)); refine blk_far ?_ NB675_695.out _; (with_reducible repeat (first | refine blk_drewN ?_ _ | refine blk_drew ?_ | refine blk_alloc ?_ _)); refine blk_far ?_ NB675_695.out _; (with_reducible repeat (first | refine blk_drewN ?_ _ | refine blk_drew ?_ | refine blk_alloc ?_ _)); refine blk_far ?_ NB675_695.out _; (with_reducible repeat (first | refine blk_drewN ?_ _ | refine blk_drew ?_ | refine blk_alloc ?_ _)); refine blk_far ?_ NB675_695.out _; (with_reducible repeat (first | refine blk_drewN ?_ _ | refine blk_drew ?_ | refine blk_alloc ?_ _)); refine blk_far ?_ NB675_694.out _; (with_reducible repeat (first | refine blk_drewN ?_ _ | refine blk_drew ?_ | refine blk_alloc ?_ _)); exact BK675.out⟩
              have n4_ : Aside0 ((((((w70.setCell ⟨gb694, 0, none⟩ (.slice Ao71 t687.length co71)).setCell ⟨gb695, 0, none⟩ (.int .i64 t690)).setCell ⟨gb695, 1, none⟩ (.int .i64 t691)).setCell ⟨gb695, 2, none⟩ (.int .i64 t692)).setCell ⟨gb695, 3, none⟩ (.int .i64 t693)).heap[gb676]? = some (.cells #[.slice none 0 0] 31 (0, 0))) := ⟨by (with_reducible repeat (first | refine blk_drewN ?_ _ | refine blk_drew ?_ | refine blk_alloc ?_ _)); refine blk_far ?_ NB676_695.out _; (with_reducible repeat (first | refine blk_drewN ?_ _ | refine blk_drew ?_ | refine blk_alloc ?_ _)); refine blk_far ?_ NB676_695.out _; (with_reducible repeat (first | refine blk_drewN ?_ _ | refine blk_drew ?_ | refine blk_alloc ?_ _)); refine blk_far ?_ NB676_695.out _; (with_reducible repeat (first | refine blk_drewN ?_ _ | refine blk_drew ?_ | refine blk_alloc ?_ _)); refine blk_far ?_ NB676_695.out _; (with_reducible repeat (first | refine blk_drewN ?_ _ | refine blk_drew ?_ | refine blk_alloc ?_ _)); refine blk_far ?_ NB676_694.out _; (with_reducible repeat (first | refine blk_drewN ?_ _ | refine blk_drew ?_ | refine blk_alloc ?_ _)); exact BK676.out⟩
              have n5_ : Aside0 ((((((w70.setCell ⟨gb694, 0, none⟩ (.slice Ao71 t687.length co71)).setCell ⟨gb695, 0, none⟩ (.int .i64 t690)).setCell ⟨gb695, 1, none⟩ (.int .i64 t691)).setCell ⟨gb695, 2, none⟩ (.int .i64 t692)).setCell ⟨gb695, 3, none⟩ (.int .i64 t693)).heap[gb677]? = some (.cells #[.int .i64 0, .int .i64 0, .int .i64 0, .int .i64 0, .int .i64 0, .int .i64 0] 34 (0, 0))) := ⟨by (with_reducible repeat (first | refine blk_drewN ?_ _ | refine blk_drew ?_ | refine blk_alloc ?_ _)); refine blk_far ?_ NB677_695.out _; (with_reducible repeat (first | refine blk_drewN ?_ _ | refine blk_drew ?_ | refine blk_alloc ?_ _)); refine blk_far ?_ NB677_695.out _; (with_reducible repeat (first | refine blk_drewN ?_ _ | refine blk_drew ?_ | refine blk_alloc ?_ _)); refine blk_far ?_ NB677_695.out _; (with_reducible repeat (first | refine blk_drewN ?_ _ | refine blk_drew ?_ | refine blk_alloc ?_ _)); refine blk_far ?_ NB677_695.out _; (with_reducible repeat (first | refine blk_drewN ?_ _ | refine blk_drew ?_ | refine blk_alloc ?_ _)); refine blk_far ?_ NB677_694.out _; (with_reducible repeat (first | refine blk_drewN ?_ _ | refine blk_drew ?_ | refine blk_alloc ?_ _)); exact BK677.out⟩
              have n6_ : Aside0 ((((((w70.setCell ⟨gb694, 0, none⟩ (.slice Ao71 t687.length co71)).setCell ⟨gb695, 0, none⟩ (.int .i64 t690)).setCell ⟨gb695, 1, none⟩ (.int .i64 t691)).setCell ⟨gb695, 2, none⟩ (.int .i64 t692)).setCell ⟨gb695, 3, none⟩ (.int .i64 t693)).heap[gb694]? = some (.cells #[.slice Ao71 t687.length co71] 31 (0, 0))) := ⟨by (with_reducible repeat (first | refine blk_drewN ?_ _ | refine blk_drew ?_ | refine blk_alloc ?_ _)); refine blk_far ?_ NB694_695.out _; (with_reducible repeat (first | refine blk_drewN ?_ _ | refine blk_drew ?_ | refine blk_alloc ?_ _)); refine blk_far ?_ NB694_695.out _; (with_reducible repeat (first | refine blk_drewN ?_ _ | refine blk_drew ?_ | refine blk_alloc ?_ _)); refine blk_far ?_ NB694_695.out _; (with_reducible repeat (first | refine blk_drewN ?_ _ | refine blk_drew ?_ | refine blk_alloc ?_ _)); refine blk_far ?_ NB694_695.out _; (with_reducible repeat (first | refine blk_drewN ?_ _ | refine blk_drew ?_ | refine blk_alloc ?_ _)); refine blk_put (cs := #[.slice none 0 0]) ?_ 0 _ rfl; (with_reducible repeat (first | refine blk_drewN ?_ _ | refine blk_drew ?_ | refine blk_alloc ?_ _)); exact BK694.out⟩
              have n7_ : Aside0 ((((((w70.setCell ⟨gb694, 0, none⟩ (.slice Ao71 t687.length co71)).setCell ⟨gb695, 0, none⟩ (.int .i64 t690)).setCell ⟨gb695, 1, none⟩ (.int .i64 t691)).setCell ⟨gb695, 2, none⟩ (.int .i64 t692)).setCell ⟨gb695, 3, none⟩ (.int .i64 t693)).heap[gb695]? = some (.cells #[.int .i64 t690, .int .i64 t691, .int .i64 t692, .int .i64 t693] 32 (0, 0))) := ⟨by (with_reducible repeat (first | refine blk_drewN ?_ _ | refine blk_drew ?_ | refine blk_alloc ?_ _)); refine blk_put (cs := #[.int .i64 t690, .int .i64 t691, .int .i64 t692, .int .i64 0]) ?_ 3 _ rfl; (with_reducible repeat (first | refine blk_drewN ?_ _ | refine blk_drew ?_ | refine blk_alloc ?_ _)); refine blk_put (cs := #[.int .i64 t690, .int .i64 t691, .int .i64 0, .int .i64 0]) ?_ 2 _ rfl; (with_reducible repeat (first | refine blk_drewN ?_ _ | refine blk_drew ?_ | refine blk_alloc ?_ _)); refine blk_put (cs := #[.int .i64 t690, .int .i64 0, .int .i64 0, .int .i64 0]) ?_ 1 _ rfl; (with_reducible repeat (first | refine blk_drewN ?_ _ | refine blk_drew ?_ | refine blk_alloc ?_ _)); refine blk_put (cs := #[.int .i64 0, .int .i64 0, .int .i64 0, .int .i64 0]) ?_ 0 _ rfl; (with_reducible repeat (first | refine blk_drewN ?_ _ | refine blk_drew ?_ | refine blk_alloc ?_ _)); refine blk_far ?_ NB695_694.out _; (with_reducible repeat (first | refine blk_drewN ?_ _ | refine blk_drew ?_ | refine blk_alloc ?_ _)); exact BK695.out⟩
              have n8_ : Aside0 (Below w.heap.size w (((((w70.setCell ⟨gb694, 0, none⟩ (.slice Ao71 t687.length co71)).setCell ⟨gb695, 0, none⟩ (.int .i64 t690)).setCell ⟨gb695, 1, none⟩ (.int .i64 t691)).setCell ⟨gb695, 2, none⟩ (.int .i64 t692)).setCell ⟨gb695, 3, none⟩ (.int .i64 t693))) := ⟨by repeat (first | (with_reducible first | exact HB.out | apply below_alloc | apply pw_below_drewN | apply below_drew1 | refine below_set ?_ GE674.out | refine below_set ?_ GE675.out | refine below_set ?_ GE676.out | refine below_set ?_ GE677.out | refine below_set ?_ GE694.out | refine below_set ?_ GE695.out) | exact HB.out)⟩
              (try clear HO_9)
              (try clear HO689)
              (try clear BK674)
              (try clear BK675)
              (try clear BK676)
              (try clear BK677)
              (try clear BK694)
              (try clear BK695)
              (try clear HB)
              generalize (((((w70.setCell ⟨gb694, 0, none⟩ (.slice Ao71 t687.length co71)).setCell ⟨gb695, 0, none⟩ (.int .i64 t690)).setCell ⟨gb695, 1, none⟩ (.int .i64 t691)).setCell ⟨gb695, 2, none⟩ (.int .i64 t692)).setCell ⟨gb695, 3, none⟩ (.int .i64 t693)) = w83 at n0_ n1_ n2_ n3_ n4_ n5_ n6_ n7_ n8_ ⊢
              have HO_9 := n0_
              have HO689 := n1_
              have BK674 := n2_
              have BK675 := n3_
              have BK676 := n4_
              have BK677 := n5_
              have BK694 := n6_
              have BK695 := n7_
              have HB := n8_
              clear n0_ n1_ n2_ n3_ n4_ n5_ n6_ n7_ n8_
              have n0_ := Aside0.mk (Kd.R_drew HO_9.out)
              have n1_ := Aside0.mk (Kd.S_drew HO689.out)
              have n2_ := Aside0.mk (blk_drew BK674.out)
              have n3_ := Aside0.mk (blk_drew BK675.out)
              have n4_ := Aside0.mk (blk_drew BK676.out)
              have n5_ := Aside0.mk (blk_drew BK677.out)
              have n6_ := Aside0.mk (blk_drew BK694.out)
              have n7_ := Aside0.mk (blk_drew BK695.out)
              have n8_ := Aside0.mk (below_drew1 HB.out)
              clear HO_9
              clear HO689
              clear BK674
              clear BK675
              clear BK676
              clear BK677
              clear BK694
              clear BK695
              clear HB
              have HO_9 := n0_
              have HO689 := n1_
              have BK674 := n2_
              have BK675 := n3_
              have BK676 := n4_
              have BK677 := n5_
              have BK694 := n6_
              have BK695 := n7_
              have HB := n8_
              clear n0_ n1_ n2_ n3_ n4_ n5_ n6_ n7_ n8_
              refine start_ (n := 8) (S := fun w' => w'.cell? ⟨gb694, 0, none⟩ = some (.slice Ao71 t687.length co71) ∧ w'.cell? ⟨gb695, 0, none⟩ = some (.int .i64 t690) ∧ w'.cell? ⟨gb695, 1, none⟩ = some (.int .i64 t691) ∧ w'.cell? ⟨gb695, 2, none⟩ = some (.int .i64 t692) ∧ w'.cell? ⟨gb695, 3, none⟩ = some (.int .i64 t693) ∧ w'.cell? ⟨gb675, 0, none⟩ = some (.int .i64 a1_0) ∧ w'.cell? ⟨gb675, 1, none⟩ = some (.int .i64 a1_1) ∧ w'.cell? ⟨gb675, 2, none⟩ = some (.int .i64 a1_2) ∧ w'.cell? ⟨gb675, 3, none⟩ = some (.int .i64 a1_3) ∧ w'.cell? ⟨gb675, 4, none⟩ = some (.int .i64 a1_4) ∧ w'.cell? ⟨gb675, 5, none⟩ = some (.int .i64 a1_5)) (ds := []) #[false, false, false, false, false, false, false, false] (by kernel_rfl) rfl rfl ⟨(blk_cell BK694.out 0).trans rfl, (blk_cell BK695.out 0).trans rfl, (blk_cell BK695.out 1).trans rfl, (blk_cell BK695.out 2).trans rfl, (blk_cell BK695.out 3).trans rfl, (blk_cell BK675.out 0).trans rfl, (blk_cell BK675.out 1).trans rfl, (blk_cell BK675.out 2).trans rfl, (blk_cell BK675.out 3).trans rfl, (blk_cell BK675.out 4).trans rfl, (blk_cell BK675.out 5).trans rfl⟩ (fun hHeld => ?_); refine with_tabW spec_MoveRing.tab7 spec_MoveRing.bits7 (fun HT_ HW_ => ?_)
              generalize w83.drew = w84 at HO_9 HO689 BK674 BK675 BK676 BK677 BK694 BK695 HB hHeld ⊢
              refine pure_ (i := 2) (N := some 51) (v := ?_) (a' := ?_) #[false, false, true, false, false, false, false, false] rfl rfl (any_of HT_.out (by kernel_rfl)) (fun _ _ _ h => h) (Or.inl ⟨by rfl, ?_⟩) ?_ ?_
              rotate_left
              · intro w'
                go_simp
                with_reducible rfl
              rotate_left
              · simp only [Act.put, List.setIfInBounds_toArray, List.set_cons_zero, List.set_cons_succ, i64_w, i32_w]
                rfl
              refine take_ (i := 0) (N := some 49) (v := ?_) (a' := ?_) #[true, false, true, false, false, false, false, false] rfl rfl (take_ofW HT_.out HW_.out (by kernel_rfl)) (fun _ _ _ h => h) (Or.inl ⟨by rfl, ?_⟩) hHeld ?_ ?_
              rotate_left
              · rintro w' ⟨s0, s1, s2, s3, s4, s5, s6, s7, s8, s9, s10⟩
                go_simp
                with_reducible rfl
              rotate_left
              · simp only [Act.put, List.setIfInBounds_toArray, List.set_cons_zero, List.set_cons_succ, i64_w, i32_w]
                rfl
              refine take_ (i := 1) (N := some 50) (v := ?_) (a' := ?_) #[true, true, true, false, false, false, false, false] rfl rfl (take_ofW HT_.out HW_.out (by kernel_rfl)) (fun _ _ _ h => h) (Or.inl ⟨by rfl, ?_⟩) hHeld ?_ ?_
              rotate_left
              · rintro w' ⟨s0, s1, s2, s3, s4, s5, s6, s7, s8, s9, s10⟩
                go_simp
                with_reducible rfl
              rotate_left
              · simp only [Act.put, List.setIfInBounds_toArray, List.set_cons_zero, List.set_cons_succ, i64_w, i32_w]
                rfl
              refine take_ (i := 3) (N := some 52) (v := ?_) (a' := ?_) #[true, true, true, true, false, false, false, false] rfl rfl (take_ofW HT_.out HW_.out (by kernel_rfl)) (fun _ _ _ h => h) (Or.inl ⟨by rfl, ?_⟩) hHeld ?_ ?_
              rotate_left
              · rintro w' ⟨s0, s1, s2, s3, s4, s5, s6, s7, s8, s9, s10⟩
                go_simp
                with_reducible rfl
              rotate_left
              · simp only [Act.put, List.setIfInBounds_toArray, List.set_cons_zero, List.set_cons_succ, i64_w, i32_w]
                rfl
              refine pure_ (i := 4) (N := some 53) (v := ?_) (a' := ?_) #[true, true, true, true, true, false, false, false] rfl rfl (any_of HT_.out (by kernel_rfl)) (fun _ _ _ h => h) (Or.inl ⟨by rfl, ?_⟩) ?_ ?_
              rotate_left
              · intro w'
                go_simp
                with_reducible rfl
              rotate_left
              · simp only [Act.put, List.setIfInBounds_toArray, List.set_cons_zero, List.set_cons_succ, i64_w, i32_w]
                rfl
              refine one_ (i := 5) (N := none) #[true, true, true, true, true, true, false, false] rfl rfl (one_of HT_.out (by kernel_rfl)) (by decide) (fun K hK => ?_)
              have hs85 : w84.cell? ⟨gb676, 0, none⟩ = some (.slice none 0 0) := (blk_cell BK676.out 0).trans rfl
              have hfs85 := blk_frozen BK676.out 0
              have hns85_0 := NB674_676.out
              have hns85_1 := NB675_676.out
              have hns85_3 := NB677_676.out
              have hns85_4 := NB694_676.out
              have hns85_5 := NB695_676.out
              have hms85_0 := NB676_674.out
              have hms85_1 := NB676_675.out
              have hms85_3 := NB676_677.out
              have hms85_4 := NB676_694.out
              have hms85_5 := NB676_695.out
              refine skip_ (w1 := ?_) (by rfl) rfl ?_ ?_
              rotate_left
              · go_simp
                rfl
              refine hK.out _ _ ⟨((cell_far (p := ⟨gb676, _, none⟩) NB694_676.out _).trans (hHeld.1)), ((cell_far (p := ⟨gb676, _, none⟩) NB695_676.out _).trans (hHeld.2.1)), ((cell_far (p := ⟨gb676, _, none⟩) NB695_676.out _).trans (hHeld.2.2.1)), ((cell_far (p := ⟨gb676, _, none⟩) NB695_676.out _).trans (hHeld.2.2.2.1)), ((cell_far (p := ⟨gb676, _, none⟩) NB695_676.out _).trans (hHeld.2.2.2.2.1)), ((cell_far (p := ⟨gb676, _, none⟩) NB675_676.out _).trans (hHeld.2.2.2.2.2.1)), ((cell_far (p := ⟨gb676, _, none⟩) NB675_676.out _).trans (hHeld.2.2.2.2.2.2.1)), ((cell_far (p := ⟨gb676, _, none⟩) NB675_676.out _).trans (hHeld.2.2.2.2.2.2.2.1)), ((cell_far (p := ⟨gb676, _, none⟩) NB675_676.out _).trans (hHeld.2.2.2.2.2.2.2.2.1)), ((cell_far (p := ⟨gb676, _, none⟩) NB675_676.out _).trans (hHeld.2.2.2.2.2.2.2.2.2.1)), ((cell_far (p := ⟨gb676, _, none⟩) NB675_676.out _).trans (hHeld.2.2.2.2.2.2.2.2.2.2))⟩ (fun hHeld => ?_)
              clear hK K
              refine one_ (i := 6) (N := none) #[true, true, true, true, true, true, true, false] rfl rfl (one_of HT_.out (by kernel_rfl)) (by decide) (fun K hK => ?_)
              have hs86 : w84.cell? ⟨gb677, 0, none⟩ = some (.int .i64 0) := (blk_cell BK677.out 0).trans rfl
              have hfs86 := blk_frozen BK677.out 0
              have hns86_0 := NB674_677.out
              have hns86_1 := NB675_677.out
              have hns86_2 := NB676_677.out
              have hns86_4 := NB694_677.out
              have hns86_5 := NB695_677.out
              have hms86_0 := NB677_674.out
              have hms86_1 := NB677_675.out
              have hms86_2 := NB677_676.out
              have hms86_4 := NB677_694.out
              have hms86_5 := NB677_695.out
              have hs87 : w84.cell? ⟨gb677, 1, none⟩ = some (.int .i64 0) := (blk_cell BK677.out 1).trans rfl
              have hfs87 := blk_frozen BK677.out 1
              have hns87_0 := NB674_677.out
              have hns87_1 := NB675_677.out
              have hns87_2 := NB676_677.out
              have hns87_4 := NB694_677.out
              have hns87_5 := NB695_677.out
              have hms87_0 := NB677_674.out
              have hms87_1 := NB677_675.out
              have hms87_2 := NB677_676.out
              have hms87_4 := NB677_694.out
              have hms87_5 := NB677_695.out
              have hs88 : w84.cell? ⟨gb677, 2, none⟩ = some (.int .i64 0) := (blk_cell BK677.out 2).trans rfl
              have hfs88 := blk_frozen BK677.out 2
              have hns88_0 := NB674_677.out
              have hns88_1 := NB675_677.out
              have hns88_2 := NB676_677.out
              have hns88_4 := NB694_677.out
              have hns88_5 := NB695_677.out
              have hms88_0 := NB677_674.out
              have hms88_1 := NB677_675.out
              have hms88_2 := NB677_676.out
              have hms88_4 := NB677_694.out
              have hms88_5 := NB677_695.out
              have hs89 : w84.cell? ⟨gb677, 3, none⟩ = some (.int .i64 0) := (blk_cell BK677.out 3).trans rfl
              have hfs89 := blk_frozen BK677.out 3
              have hns89_0 := NB674_677.out
              have hns89_1 := NB675_677.out
              have hns89_2 := NB676_677.out
              have hns89_4 := NB694_677.out
              have hns89_5 := NB695_677.out
              have hms89_0 := NB677_674.out
              have hms89_1 := NB677_675.out
              have hms89_2 := NB677_676.out
              have hms89_4 := NB677_694.out
              have hms89_5 := NB677_695.out
              have hs90 : w84.cell? ⟨gb677, 4, none⟩ = some (.int .i64 0) := (blk_cell BK677.out 4).trans rfl
              have hfs90 := blk_frozen BK677.out 4
              have hns90_0 := NB674_677.out
              have hns90_1 := NB675_677.out
              have hns90_2 := NB676_677.out
              have hns90_4 := NB694_677.out
              have hns90_5 := NB695_677.out
              have hms90_0 := NB677_674.out
              have hms90_1 := NB677_675.out
              have hms90_2 := NB677_676.out
              have hms90_4 := NB677_694.out
              have hms90_5 := NB677_695.out
              have hs91 : w84.cell? ⟨gb677, 5, none⟩ = some (.int .i64 0) := (blk_cell BK677.out 5).trans rfl
              have hfs91 := blk_frozen BK677.out 5
              have hns91_0 := NB674_677.out
              have hns91_1 := NB675_677.out
              have hns91_2 := NB676_677.out
              have hns91_4 := NB694_677.out
              have hns91_5 := NB695_677.out
              have hms91_0 := NB677_674.out
              have hms91_1 := NB677_675.out
              have hms91_2 := NB677_676.out
              have hms91_4 := NB677_694.out
              have hms91_5 := NB677_695.out
              refine skip_ (w1 := ?_) (by rfl) rfl ?_ ?_
              rotate_left
              · go_simp
                rfl
              refine hK.out _ _ ⟨((cell_far (p := ⟨gb677, _, none⟩) NB694_677.out _).trans (((cell_far (p := ⟨gb677, _, none⟩) NB694_677.out _).trans (((cell_far (p := ⟨gb677, _, none⟩) NB694_677.out _).trans (((cell_far (p := ⟨gb677, _, none⟩) NB694_677.out _).trans (((cell_far (p := ⟨gb677, _, none⟩) NB694_677.out _).trans (((cell_far (p := ⟨gb677, _, none⟩) NB694_677.out _).trans (hHeld.1)))))))))))), ((cell_far (p := ⟨gb677, _, none⟩) NB695_677.out _).trans (((cell_far (p := ⟨gb677, _, none⟩) NB695_677.out _).trans (((cell_far (p := ⟨gb677, _, none⟩) NB695_677.out _).trans (((cell_far (p := ⟨gb677, _, none⟩) NB695_677.out _).trans (((cell_far (p := ⟨gb677, _, none⟩) NB695_677.out _).trans (((cell_far (p := ⟨gb677, _, none⟩) NB695_677.out _).trans (hHeld.2.1)))))))))))), ((cell_far (p := ⟨gb677, _, none⟩) NB695_677.out _).trans (((cell_far (p := ⟨gb677, _, none⟩) NB695_677.out _).trans (((cell_far (p := ⟨gb677, _, none⟩) NB695_677.out _).trans (((cell_far (p := ⟨gb677, _, none⟩) NB695_677.out _).trans (((cell_far (p := ⟨gb677, _, none⟩) NB695_677.out _).trans (((cell_far (p := ⟨gb677, _, none⟩) NB695_677.out _).trans (hHeld.2.2.1)))))))))))), ((cell_far (p := ⟨gb677, _, none⟩) NB695_677.out _).trans (((cell_far (p := ⟨gb677, _, none⟩) NB695_677.out _).trans (((cell_far (p := ⟨gb677, _, none⟩) NB695_677.out _).trans (((cell_far (p := ⟨gb677, _, none⟩) NB695_677.out _).trans (((cell_far (p := ⟨gb677, _, none⟩) NB695_677.out _).trans (((cell_far (p := ⟨gb677, _, none⟩) NB695_677.out _).trans (hHeld.2.2.2.1)))))))))))), ((cell_far (p := ⟨gb677, _, none⟩) NB695_677.out _).trans (((cell_far (p := ⟨gb677, _, none⟩) NB695_677.out _).trans (((cell_far (p := ⟨gb677, _, none⟩) NB695_677.out _).trans (((cell_far (p := ⟨gb677, _, none⟩) NB695_677.out _).trans (((cell_far (p := ⟨gb677, _, none⟩) NB695_677.out _).trans (((cell_far (p := ⟨gb677, _, none⟩) NB695_677.out _).trans (hHeld.2.2.2.2.1)))))))))))), ((cell_far (p := ⟨gb677, _, none⟩) NB675_677.out _).trans (((cell_far (p := ⟨gb677, _, none⟩) NB675_677.out _).trans (((cell_far (p := ⟨gb677, _, none⟩) NB675_677.out _).trans (((cell_far (p := ⟨gb677, _, none⟩) NB675_677.out _).trans (((cell_far (p := ⟨gb677, _, none⟩) NB675_677.out _).trans (((cell_far (p := ⟨gb677, _, none⟩) NB675_677.out _).trans (hHeld.2.2.2.2.2.1)))))))))))), ((cell_far (p := ⟨gb677, _, none⟩) NB675_677.out _).trans (((cell_far (p := ⟨gb677, _, none⟩) NB675_677.out _).trans (((cell_far (p := ⟨gb677, _, none⟩) NB675_677.out _).trans (((cell_far (p := ⟨gb677, _, none⟩) NB675_677.out _).trans (((cell_far (p := ⟨gb677, _, none⟩) NB675_677.out _).trans (((cell_far (p := ⟨gb677, _, none⟩) NB675_677.out _).trans (hHeld.2.2.2.2.2.2.1)))))))))))), ((cell_far (p := ⟨gb677, _, none⟩) NB675_677.out _).trans (((cell_far (p := ⟨gb677, _, none⟩) NB675_677.out _).trans (((cell_far (p := ⟨gb677, _, none⟩) NB675_677.out _).trans (((cell_far (p := ⟨gb677, _, none⟩) NB675_677.out _).trans (((cell_far (p := ⟨gb677, _, none⟩) NB675_677.out _).trans (((cell_far (p := ⟨gb677, _, none⟩) NB675_677.out _).trans (hHeld.2.2.2.2.2.2.2.1)))))))))))), ((cell_far (p := ⟨gb677, _, none⟩) NB675_677.out _).trans (((cell_far (p := ⟨gb677, _, none⟩) NB675_677.out _).trans (((cell_far (p := ⟨gb677, _, none⟩) NB675_677.out _).trans (((cell_far (p := ⟨gb677, _, none⟩) NB675_677.out _).trans (((cell_far (p := ⟨gb677, _, none⟩) NB675_677.out _).trans (((cell_far (p := ⟨gb677, _, none⟩) NB675_677.out _).trans (hHeld.2.2.2.2.2.2.2.2.1)))))))))))), ((cell_far (p := ⟨gb677, _, none⟩) NB675_677.out _).trans (((cell_far (p := ⟨gb677, _, none⟩) NB675_677.out _).trans (((cell_far (p := ⟨gb677, _, none⟩) NB675_677.out _).trans (((cell_far (p := ⟨gb677, _, none⟩) NB675_677.out _).trans (((cell_far (p := ⟨gb677, _, none⟩) NB675_677.out _).trans (((cell_far (p := ⟨gb677, _, none⟩) NB675_677.out _).trans (hHeld.2.2.2.2.2.2.2.2.2.1)))))))))))), ((cell_far (p := ⟨gb677, _, none⟩) NB675_677.out _).trans (((cell_far (p := ⟨gb677, _, none⟩) NB675_677.out _).trans (((cell_far (p := ⟨gb677, _, none⟩) NB675_677.out _).trans (((cell_far (p := ⟨gb677, _, none⟩) NB675_677.out _).trans (((cell_far (p := ⟨gb677, _, none⟩) NB675_677.out _).trans (((cell_far (p := ⟨gb677, _, none⟩) NB675_677.out _).trans (hHeld.2.2.2.2.2.2.2.2.2.2))))))))))))⟩ (fun hHeld => ?_)
              clear hK K
              refine pure_ (i := 7) (N := some 8) (v := ?_) (a' := ?_) #[true, true, true, true, true, true, true, true] rfl rfl (any_of HT_.out (by kernel_rfl)) (fun _ _ _ h => h) (Or.inl ⟨by rfl, ?_⟩) ?_ ?_
              rotate_left
              · intro w'
                go_simp
                with_reducible rfl
              rotate_left
              · simp only [Act.put, List.setIfInBounds_toArray, List.set_cons_zero, List.set_cons_succ, i64_w, i32_w]
                rfl
              refine done_ (done_of HT_.out (by kernel_rfl)) ?_
              try go_wp2
              refine bodyPost_ret (results_list (rs := [.cell 6 31, .cell 7 34, .tmp 8]) rfl (by simp) (.cell gb676 31 #[.slice Ao71 t687.length co71] (0, 0) _ rfl (by (with_reducible repeat (first | refine blk_drewN ?_ _ | refine blk_drew ?_ | refine blk_alloc ?_ _)); refine blk_far ?_ NB676_677.out _; (with_reducible repeat (first | refine blk_drewN ?_ _ | refine blk_drew ?_ | refine blk_alloc ?_ _)); refine blk_far ?_ NB676_677.out _; (with_reducible repeat (first | refine blk_drewN ?_ _ | refine blk_drew ?_ | refine blk_alloc ?_ _)); refine blk_far ?_ NB676_677.out _; (with_reducible repeat (first | refine blk_drewN ?_ _ | refine blk_drew ?_ | refine blk_alloc ?_ _)); refine blk_far ?_ NB676_677.out _; (with_reducible repeat (first | refine blk_drewN ?_ _ | refine blk_drew ?_ | refine blk_alloc ?_ _)); refine blk_far ?_ NB676_677.out _; (with_reducible repeat (first | refine blk_drewN ?_ _ | refine blk_drew ?_ | refine blk_alloc ?_ _)); refine blk_far ?_ NB676_677.out _; (with_reducible repeat (first | refine blk_drewN ?_ _ | refine blk_drew ?_ | refine blk_alloc ?_ _)); refine blk_put (cs := #[.slice none 0 0]) ?_ 0 _ rfl; (with_reducible repeat (first | refine blk_drewN ?_ _ | refine blk_drew ?_ | refine blk_alloc ?_ _)); exact BK676.out) Try.underlying31 rfl (by kernel_rfl) (.cell gb677 34 #[.int .i64 t690, .int .i64 t691, .int .i64 t692, .int .i64 t693, .int .i64 0, .int .i64 a1_5] (0, 0) _ rfl (by (with_reducible repeat (first | refine blk_drewN ?_ _ | refine blk_drew ?_ | refine blk_alloc ?_ _)); refine blk_put (cs := #[.int .i64 t690, .int .i64 t691, .int .i64 t692, .int .i64 t693, .int .i64 0, .int .i64 0]) ?_ 5 _ rfl; (with_reducible repeat (first | refine blk_drewN ?_ _ | refine blk_drew ?_ | refine blk_alloc ?_ _)); refine blk_put (cs := #[.int .i64 t690, .int .i64 t691, .int .i64 t692, .int .i64 t693, .int .i64 0, .int .i64 0]) ?_ 4 _ rfl; (with_reducible repeat (first | refine blk_drewN ?_ _ | refine blk_drew ?_ | refine blk_alloc ?_ _)); refine blk_put (cs := #[.int .i64 t690, .int .i64 t691, .int .i64 t692, .int .i64 0, .int .i64 0, .int .i64 0]) ?_ 3 _ rfl; (with_reducible repeat (first | refine blk_drewN ?_ _ | refine blk_drew ?_ | refine blk_alloc ?_ _)); refine blk_put (cs := #[.int .i64 t690, .int .i64 t691, .int .i64 0, .int .i64 0, .int .i64 0, .int .i64 0]) ?_ 2 _ rfl; (with_reducible repeat (first | refine blk_drewN ?_ _ | refine blk_drew ?_ | refine blk_alloc ?_ _)); refine blk_put (cs := #[.int .i64 t690, .int .i64 0, .int .i64 0, .int .i64 0, .int .i64 0, .int .i64 0]) ?_ 1 _ rfl; (with_reducible repeat (first | refine blk_drewN ?_ _ | refine blk_drew ?_ | refine blk_alloc ?_ _)); refine blk_put (cs := #[.int .i64 0, .int .i64 0, .int .i64 0, .int .i64 0, .int .i64 0, .int .i64 0]) ?_ 0 _ rfl; (with_reducible repeat (first | refine blk_drewN ?_ _ | refine blk_drew ?_ | refine blk_alloc ?_ _)); refine blk_far ?_ NB677_676.out _; (with_reducible repeat (first | refine blk_drewN ?_ _ | refine blk_drew ?_ | refine blk_alloc ?_ _)); exact BK677.out) Try.underlying34 rfl (by kernel_rfl) (.tmp .nil)))) rfl ?_
              exact ⟨_, by first | rfl | (simp [errW_none, errW_some] <;> rfl) | (simp [*, errW_none, errW_some] <;> rfl), by (with_reducible repeat (first | apply Kd.S_alloc | apply Kd.S_drewN | apply Kd.S_drew)); exact Kd.S_mono (Kd.S_far (p := ⟨gb677, 5, none⟩) (Kd.S_far (p := ⟨gb677, 4, none⟩) (Kd.S_far (p := ⟨gb677, 3, none⟩) (Kd.S_far (p := ⟨gb677, 2, none⟩) (Kd.S_far (p := ⟨gb677, 1, none⟩) (Kd.S_far (p := ⟨gb677, 0, none⟩) (Kd.S_far (p := ⟨gb676, 0, none⟩) (Kd.S_types (Kd.S_types HO689.out BK676.out (by decide)) BK677.out (by decide)) (fun _ hk => hk.1.2) (.slice Ao71 t687.length co71)) (fun _ hk => hk.2) (.int .i64 t690)) (fun _ hk => hk.2) (.int .i64 t691)) (fun _ hk => hk.2) (.int .i64 t692)) (fun _ hk => hk.2) (.int .i64 t693)) (fun _ hk => hk.2) (.int .i64 0)) (fun _ hk => hk.2) (.int .i64 a1_5)) (fun _ hk => trivial), by repeat (first | (with_reducible first | exact HB.out | apply below_alloc | apply pw_below_drewN | apply below_drew1 | refine below_set ?_ GE674.out | refine below_set ?_ GE675.out | refine below_set ?_ GE676.out | refine below_set ?_ GE677.out | refine below_set ?_ GE694.out | refine below_set ?_ GE695.out) | exact HB.out)⟩

end Go.Proofs.Ytaieobidkmihkaa.P


/- MoveRing: the program's and the reference's. -/
namespace Go.Proofs.Ytaieobidkmihkaa.P
open Go.RowKit Go.Proofs.YtaieobidkmihkaaW.PrintWords
set_option linter.unusedVariables false
set_option linter.unusedSimpArgs false
/-- The first i elements. -/
def elemsN (m : List (List Int)) (a s n f : Int) (i : Nat) : List Int := (List.range i).map (fun (j : Nat) => (seeB m a s n).getD (slotOf f n (j : Int)).toNat 0)
theorem elemsN_length (m : List (List Int)) (a s n f : Int) (i : Nat) : (elemsN m a s n f i).length = i := by simp [elemsN]
theorem elemsN_succ (m : List (List Int)) (a s n f : Int) (i : Nat) : elemsN m a s n f (i + 1) = elemsN m a s n f i ++ [(seeB m a s n).getD (slotOf f n (i : Int)).toNat 0] := by simp [elemsN, List.range_succ]
theorem seen_f {m : List (List Int)} {a s n c : Int} (hw : WinOk m a s n c) : impl_Memory_seen.f m a s n c = some (seeB m a s n) := by
  have := hw.n0; have := hw.n1; have := hw.s0; have := hw.s1; have := hw.r1
  have he : rd_Lsu8 m a = rowB m a := rfl
  unfold impl_Memory_seen.f
  rw [wrap_ok (by omega) (by omega), if_pos hw.a0, if_pos hw.a1, if_pos hw.s0, if_pos (by omega), he, if_pos (by omega)]
  congr 1
  unfold seeB
  rw [List.drop_take]
  congr 1
  omega
theorem elements_ev {m : List (List Int)} {a s n c f k : Int} (h : RingOk m a s n c f k) : ∀ (j i : Nat), i + j = k.toNat → Ev (fun q => impl_Memory_elements.l0 q (elemsN m a s n f i) (seeB m a s n) k (i : Int) a s n c f k) (elemsN m a s n f k.toNat) := by
  have hk0 := h.k0; have hk1 := h.k1; have hn1 := h.n1; have hc1 := h.c1
  have hsl := seeB_length h.toWinOk
  intro j
  induction j with
  | zero =>
    intro i hi
    refine Ev.step (fun q => ?_) (Ev.now _)
    simp only [impl_Memory_elements.l0]
    rw [if_neg (by omega), show i = k.toNat by omega]
  | succ j ih =>
    intro i hi
    obtain ⟨e1, _, e3, e4⟩ := slot_f h (i : Int) (by omega) (by omega)
    refine Ev.step (f := fun q => impl_Memory_elements.l0 q (elemsN m a s n f (i + 1)) (seeB m a s n) k ((i + 1 : Nat) : Int) a s n c f k) (fun q => ?_) (ih (i + 1) (by omega))
    simp only [impl_Memory_elements.l0]
    rw [if_pos (by omega), e1, Option.bind_some, if_pos e3, if_pos (by omega), if_pos (by rw [elemsN_length]; omega), wrap_ok (by omega) (by omega), elemsN_succ]
    simp [rd]
theorem elements_f {m : List (List Int)} {a s n c f k : Int} (h : RingOk m a s n c f k) : Ev (fun q => impl_Memory_elements.f q m a s n c f k) (elemsN m a s n f k.toNat) := by
  unfold impl_Memory_elements.f
  simp only [seen_f h.toWinOk, Option.bind_some]
  have := elements_ev h k.toNat 0 (by omega)
  simpa [elemsN] using this
theorem l5Bytes_ev {m : List (List Int)} {a s n c f k : Int} (h : RingOk m a s n c f k) : ∀ (j i : Nat), i + j = k.toNat → Ev (fun q => spec_l5Bytes.l0 q (elemsN m a s n f i) (i : Int) m a s n c f k) (elemsN m a s n f k.toNat) := by
  have hk0 := h.k0; have hk1 := h.k1; have hn1 := h.n1; have hc1 := h.c1
  intro j
  induction j with
  | zero =>
    intro i hi
    refine Ev.step (fun q => ?_) (Ev.now _)
    simp only [spec_l5Bytes.l0]
    rw [if_neg (by omega), show i = k.toNat by omega]
  | succ j ih =>
    intro i hi
    obtain ⟨_, e2, e3, e4⟩ := slot_f h (i : Int) (by omega) (by omega)
    refine Ev.step (f := fun q => spec_l5Bytes.l0 q (elemsN m a s n f (i + 1)) ((i + 1 : Nat) : Int) m a s n c f k) (fun q => ?_) (ih (i + 1) (by omega))
    simp only [spec_l5Bytes.l0]
    have hat := l2At_f h.toWinOk (slotOf f n (i : Int)).toNat (by omega)
    rw [show (((slotOf f n (i : Int)).toNat : Nat) : Int) = slotOf f n (i : Int) by omega] at hat
    rw [if_pos (by omega), e2, Option.bind_some, hat, Option.bind_some, if_pos (by rw [elemsN_length]; omega), wrap_ok (by omega) (by omega), elemsN_succ]
    simp
theorem l5Bytes_f {m : List (List Int)} {a s n c f k : Int} (h : RingOk m a s n c f k) : Ev (fun q => spec_l5Bytes.f q m a s n c f k) (elemsN m a s n f k.toNat) := by
  have := l5Bytes_ev h k.toNat 0 (by omega)
  simpa [elemsN, spec_l5Bytes.f] using this
def moveRing (m : List (List Int)) (a s n c f k x : Int) : List (List Int) × Int × Int × Int × Int × Int × Int × Bool :=
  if ringB m a s n c f k = true ∧ (k ≤ x ∧ 1 ≤ x ∧ x ≤ 64) ∧ m.length ≠ 16 then (m ++ [elemsN m a s n f k.toNat ++ List.replicate (x.toNat - k.toNat) 0], (m.length : Int), 0, x, x, 0, k, true) else ([], 0, 0, 0, 0, 0, 0, false)
theorem moveRing_ok (m : List (List Int)) (a s n c f k x : Int) : okM (moveRing m a s n c f k x).1 := by
  unfold moveRing
  split
  · rename_i h
    have hw := RingOk.of h.1
    have hk0 := hw.k0
    have h1 := memB_len hw.mem
    have h2 := memB_rows hw.mem
    exact okM_append (by omega) (fun y hy => (h2 y hy).2) (by simp [elemsN_length]; omega)
  · exact okM_nil
def impl_MoveRing.f (m : List (List Int)) (a s n c f k x : Int) : Option (List (List Int) × Int × Int × Int × Int × Int × Int × Bool) := if okMb m = true then some (moveRing m a s n c f k x) else none
theorem impl_MoveRing.calls (A0_0 : Option Addr) (c0_0 : Nat) (l0_0 : List (List Int)) (a1_0 a1_1 a1_2 a1_3 a1_4 a1_5 : Int) (a2_0 : Int) (r1 : List (List Int)) (r2 r3 r4 r5 r6 r7 : Int) (r8 : Bool) (w : World) (hr0_0 : Kd.C (Kd.slice 5 (Kd.int .u8)) w A0_0 l0_0.length l0_0) (hc0_0 : l0_0.length ≤ c0_0) (h : impl_MoveRing.f l0_0 a1_0 a1_1 a1_2 a1_3 a1_4 a1_5 a2_0 = some (r1, r2, r3, r4, r5, r6, r7, r8)) :
    Calls Try.prog 39 #[.agg #[.slice A0_0 l0_0.length c0_0], .agg #[.int .i64 a1_0, .int .i64 a1_1, .int .i64 a1_2, .int .i64 a1_3, .int .i64 a1_4, .int .i64 a1_5], .int .i64 a2_0] w fun e w' => ∃ v0_ : Value, e = .returned (.tuple #[.agg #[v0_], .agg #[.int .i64 r2, .int .i64 r3, .int .i64 r4, .int .i64 r5, .int .i64 r6, .int .i64 r7], .bool r8]) ∧ Kd.S (Kd.slice 5 (Kd.int .u8)) 29 w' w.heap.size (fun _ => True) v0_ r1 ∧ Below w.heap.size w w' := by
  unfold impl_MoveRing.f at h
  split at h
  next hh =>
    have hm := okM_of hh
    have hr := (isRing_f l0_0 a1_0 a1_1 a1_2 a1_3 a1_4 a1_5 hm.len hm.rows).rounds
    have h := Option.some.inj h
    unfold moveRing at h
    by_cases h1 : ringB l0_0 a1_0 a1_1 a1_2 a1_3 a1_4 a1_5 = true
    · rw [h1] at hr
      have hw := RingOk.of h1
      have hk0 := hw.k0; have hk1 := hw.k1
      by_cases h2 : a2_0 < a1_5
      · rw [if_neg (fun hh => by have := hh.2.1.1; omega)] at h
        cases h
        exact impl_MoveRing_w1 A0_0 c0_0 l0_0 a1_0 a1_1 a1_2 a1_3 a1_4 a1_5 a2_0 w hr0_0 hc0_0 hr (decide_eq_true h2)
      · have hnew := implNewArray_f l0_0 a2_0 hm
        unfold newArr at hnew
        by_cases h3 : (1 ≤ a2_0 ∧ a2_0 ≤ 64) ∧ l0_0.length ≠ 16
        · rw [if_pos ⟨h1, ⟨by omega, h3.1⟩, h3.2⟩] at h
          rw [if_pos ⟨hw.mem, h3.1, h3.2⟩] at hnew
          cases h
          have hrow : (l0_0 ++ [List.replicate a2_0.toNat (0 : Int)]).getD ((l0_0.length : Int)).toNat [] = List.replicate a2_0.toNat 0 := by simp
          have hx := impl_MoveRing_w3 A0_0 c0_0 l0_0 a1_0 a1_1 a1_2 a1_3 a1_4 a1_5 a2_0 _ _ _ _ _ _ w hr0_0 hc0_0 hr hnew.rounds (elements_f hw).rounds (decide_eq_false h2) (List.replicate a2_0.toNat 0) hrow (by omega) (by simp only [List.length_append, List.length_singleton]; omega) (by omega) (by omega) (by simp; omega) (by simp; omega) (by simp; omega)
          have he : (l0_0 ++ [List.replicate a2_0.toNat (0 : Int)]).set ((l0_0.length : Int)).toNat (spl (List.replicate a2_0.toNat 0) (0 : Int).toNat ((elemsN l0_0 a1_0 a1_1 a1_2 a1_4 a1_5.toNat).take a2_0.toNat)) = l0_0 ++ [elemsN l0_0 a1_0 a1_1 a1_2 a1_4 a1_5.toNat ++ List.replicate (a2_0.toNat - a1_5.toNat) 0] := by
            rw [List.take_of_length_le (by rw [elemsN_length]; omega)]
            simp [spl, elemsN_length]
          rw [he] at hx
          exact hx
        · rw [if_neg (fun hh => h3 ⟨hh.2.1.2, hh.2.2⟩)] at h
          rw [if_neg (fun hh => h3 hh.2)] at hnew
          cases h
          exact impl_MoveRing_w2 A0_0 c0_0 l0_0 a1_0 a1_1 a1_2 a1_3 a1_4 a1_5 a2_0 _ _ _ _ _ w hr0_0 hc0_0 hr hnew.rounds (decide_eq_false h2)
    · rw [Bool.eq_false_iff.2 h1] at hr
      rw [if_neg (fun hh => h1 hh.1)] at h
      cases h
      exact impl_MoveRing_w0 A0_0 c0_0 l0_0 a1_0 a1_1 a1_2 a1_3 a1_4 a1_5 a2_0 w hr0_0 hc0_0 hr
  next => cases h
theorem implMoveRing_f (m : List (List Int)) (a s n c f k x : Int) (h : okM m) : impl_MoveRing.f m a s n c f k x = some (moveRing m a s n c f k x) := if_pos (okMb_of h)
theorem pad_ev (m : List (List Int)) (a s n c f k x : Int) (h : okM m) (hx : x ≤ 64) (E : List Int) : ∀ (j i : Nat), E.length + i + j = x.toNat →
    Ev (fun q => spec_MoveRing.l0 q x (E ++ List.replicate i 0) m a s n c f k) (m ++ [E ++ List.replicate (x.toNat - E.length) 0], (m.length : Int), 0, x, ((E ++ List.replicate (x.toNat - E.length) (0 : Int)).length : Int), 0, k, true) := by
  intro j
  induction j with
  | zero =>
    intro i hi
    have e1 : i = x.toNat - E.length := by omega
    subst e1
    have hn := l2New_f m (E ++ List.replicate (x.toNat - E.length) 0) x h (by simp; omega)
    refine Ev.step (f := fun q => (spec_l2New.f q m (E ++ List.replicate (x.toNat - E.length) 0) x).bind fun t => some (t.1, t.2.1, t.2.2.1, t.2.2.2.1, t.2.2.2.2, 0, k, true)) (fun q => ?_) (Ev.bind hn (Ev.now _))
    simp only [spec_MoveRing.l0]
    rw [if_neg (by simp; omega)]
  | succ j ih =>
    intro i hi
    refine Ev.step (f := fun q => spec_MoveRing.l0 q x (E ++ List.replicate (i + 1) 0) m a s n c f k) (fun q => ?_) (ih (i + 1) (by omega))
    simp only [spec_MoveRing.l0]
    rw [if_pos (by simp; omega), if_pos (by simp; omega), List.append_assoc, ← List.replicate_succ']
theorem specMoveRing_f (m : List (List Int)) (a s n c f k x : Int) (h : okM m) (hs : -9223372036854775808 ≤ s ∧ s ≤ 9223372036854775807) : Ev (fun q => spec_MoveRing.f q m a s n c f k x) (moveRing m a s n c f k x) := by
  refine Ev.bind (l5Ring_f m a s n c f k h.len h.rows hs) ?_
  unfold moveRing
  by_cases h1 : ringB m a s n c f k = true
  · have hw := RingOk.of h1
    have hk0 := hw.k0; have hk1 := hw.k1; have hn1 := hw.n1; have hc1 := hw.c1
    obtain ⟨q0, hq⟩ : ∃ q, q = if (1 : Int) > k then 1 else k := ⟨_, rfl⟩
    have hl : spec_l1Most.f 1 k = some q0 := by
      unfold spec_l1Most.f
      rw [hq]
      split <;> rfl
    have hq0 : (q0 ≤ x ∧ x ≤ 64) ↔ (k ≤ x ∧ 1 ≤ x ∧ x ≤ 64) := by
      rw [hq]
      split <;> omega
    simp only [h1, if_true, hl, l1In_f, Option.bind_some, true_and]
    by_cases h2 : q0 ≤ x ∧ x ≤ 64
    · have h2' := hq0.1 h2
      simp only [h2, decide_true, and_self, if_true, h2', true_and]
      by_cases h3 : m.length = 16
      · have h4 : ((m.length : Int) == 16) = true := by rw [h3]; rfl
        rw [h4]
        refine Ev.step (f := fun q => some (([] : List (List Int)), 0, 0, 0, 0, 0, 0, false)) (fun q => ?_) ?_
        · simp only [spec_MoveRing.j0]
          rfl
        · rw [if_neg (by simp [h3])]
          exact Ev.now _
      · have h4 : ((m.length : Int) == 16) = false := by rw [beq_eq_false_iff_ne]; omega
        rw [h4, if_pos (by exact h3)]
        have hE := l5Bytes_f hw
        have hp := pad_ev m a s n c f k x h h2.2 (elemsN m a s n f k.toNat) (x.toNat - k.toNat) 0 (by rw [elemsN_length]; omega)
        rw [elemsN_length] at hp
        have hlen : ((elemsN m a s n f k.toNat ++ List.replicate (x.toNat - k.toNat) (0 : Int)).length : Int) = x := by simp [elemsN_length]; omega
        rw [hlen] at hp
        simp only [List.replicate_zero, List.append_nil] at hp
        refine Ev.step (f := fun q => (spec_l5Bytes.f q m a s n c f k).bind fun t => spec_MoveRing.l0 q x t m a s n c f k) (fun q => ?_) (Ev.bind hE hp)
        simp only [spec_MoveRing.j0]
        rfl
    · have h2' : ¬ (k ≤ x ∧ 1 ≤ x ∧ x ≤ 64) := fun hh => h2 (hq0.2 hh)
      rw [if_neg (fun hh => h2' hh.1)]
      simp only [h2, decide_false, Bool.false_eq_true, if_false]
      refine Ev.step (f := fun q => some (([] : List (List Int)), 0, 0, 0, 0, 0, 0, false)) (fun q => ?_) (Ev.now _)
      simp only [spec_MoveRing.j0]
      rfl
  · simp only [h1, Bool.false_eq_true, if_false, false_and]
    refine Ev.step (f := fun q => some (([] : List (List Int)), 0, 0, 0, 0, 0, 0, false)) (fun q => ?_) (Ev.now _)
    simp only [spec_MoveRing.j0]
    rfl
end Go.Proofs.Ytaieobidkmihkaa.P


/- From a row's reading of an argument to what the print's kinds say of it. -/
namespace Go.Proofs.YtaieobidkmihkaaW.Mine
open Go.RowKit Go.Proofs.YtaieobidkmihkaaW.PrintWords
set_option linter.unusedVariables false
/-- Whatever reads as data of type T is of the kind d, and ok. -/
def ReadsK {α : Type} (P : Program) (T : TypeId) (d : Kd α) (ok : α → Prop) : Prop :=
  ∀ {H : Type} {enc : TypeId × Value → H} {w : World} {base : Nat} {spare : Nat → Bool} {held : Bool} {fuel : Nat} {cs : List Value} {x : DataW H × List MemPlace}, DataW.trod enc P w base spare held fuel T cs = some x → ∃ a : α, d.K w a cs ∧ ok a
theorem ReadsK.int {P : Program} {T : TypeId} {k : IntKind} (hT : P.underlying T = some (.int k)) : ReadsK P T (Kd.int k) (fun n => (Lit.int k n).wf = true) := by
  intro H enc w base spare held fuel cs x h
  obtain ⟨n, rfl, _, hw⟩ := DataW.trod_int hT h
  exact ⟨n, rfl, hw⟩
theorem ReadsK.bool {P : Program} {T : TypeId} (hT : P.underlying T = some .bool) : ReadsK P T Kd.bool (fun _ => True) := by
  intro H enc w base spare held fuel cs x h
  obtain ⟨b, rfl, _⟩ := DataW.trod_bool hT h
  exact ⟨b, rfl, trivial⟩
theorem exists_list {α : Type} {n : Nat} {p : Nat → α → Prop} (h : ∀ i, i < n → ∃ a, p i a) : ∃ l : List α, l.length = n ∧ ∀ i a, l[i]? = some a → p i a := by
  induction n with
  | zero => exact ⟨[], rfl, fun i a hi => by simp at hi⟩
  | succ n ih =>
    obtain ⟨l, hl, hp⟩ := ih (fun i hi => h i (by omega))
    obtain ⟨a, ha⟩ := h n (by omega)
    refine ⟨l ++ [a], by simp [hl], fun i b hb => ?_⟩
    rcases Nat.lt_or_ge i n with hi | hi
    · rw [List.getElem?_append_left (by omega)] at hb
      exact hp i b hb
    · have hi2 : i = n := by
        have := (List.getElem?_eq_some_iff.1 hb).1
        simp [hl] at this
        omega
      subst hi2
      rw [← hl, List.getElem?_append_right (Nat.le_refl _)] at hb
      simp at hb
      rw [← hb]
      exact ha
theorem ReadsK.slice {α : Type} {P : Program} {T e : TypeId} {d : Kd α} {ok : α → Prop} (hT : P.underlying T = some (.slice e)) (hc : P.cellsOf e = d.sz) (h1 : ReadsK P e d ok) : ReadsK P T (Kd.slice e d) (fun xs => ∀ x ∈ xs, ok x) := by
  intro H enc w base spare held fuel cs x h
  rcases Deep.open_slice hT h with ⟨rfl, _⟩ | ⟨a, len, cap, m, n, D, Pl, rfl, hb, hl, hm, hmm, _, hx⟩
  · exact ⟨[], ⟨none, 0, rfl, Nat.le_refl _, rfl, by simp, fun h => absurd h (by simp)⟩, fun x hx => by simp at hx⟩
  · have hlm : len ≤ m := by rw [hmm]; split <;> omega
    obtain ⟨l, hll, hp⟩ := exists_list (n := len) (p := fun i y => ∃ cs', w.cells? base (a.add (i * P.cellsOf e)) (P.cellsOf e) = some cs' ∧ d.K w y cs' ∧ ok y) (fun i hi => by
      obtain ⟨cs', h2, h3⟩ := hx i (by omega)
      obtain ⟨y, hy, hok⟩ := h1 h3
      exact ⟨y, cs', h2, hy, hok⟩)
    refine ⟨l, ⟨some a, cap, by rw [hll], by omega, rfl, ?_, fun hn => ⟨a, rfl, fun j p hj => ?_⟩⟩, fun y hy => ?_⟩
    · rw [hll]; unfold maxLen at hm; omega
    · obtain ⟨cs', h2, h3, _⟩ := hp j p hj
      obtain ⟨_, hlen, hcell⟩ := World.cells?_some h2
      refine ⟨cs', by rw [hlen, hc], h3, fun i u hu => ?_⟩
      have hi : i < P.cellsOf e := by
        have := (List.getElem?_eq_some_iff.1 hu).1
        omega
      have h4 := hcell i hi
      rw [hu] at h4
      rw [← h4, ← hc]
      congr 1
      unfold Addr.add
      by_cases z1 : j * P.cellsOf e = 0 <;> by_cases z2 : i = 0 <;> simp [z1, z2, Nat.add_assoc]
    · obtain ⟨j, hj, rfl⟩ := List.mem_iff_getElem.1 hy
      obtain ⟨_, _, _, hok⟩ := hp j _ (List.getElem?_eq_getElem hj)
      exact hok
/-- The fields from offset o on. -/
def ReadsF {α : Type} (P : Program) (o : Nat) (fs : List Field) (d : Kd α) (ok : α → Prop) : Prop :=
  ∀ {H : Type} {enc : TypeId × Value → H} {w : World} {base : Nat} {spare : Nat → Bool} {held : Bool} {n : Nat} {cs : List Value}, (∀ f ∈ fs, ∃ x, DataW.trod enc P w base spare held n f.type ((cs.drop f.offset).take (P.cellsOf f.type)) = some x) → ∃ a : α, d.K w a ((cs.drop o).take d.sz) ∧ ok a
theorem ReadsF.last {α : Type} {P : Program} {o : Nat} {f : Field} {d : Kd α} {ok : α → Prop} (ho : f.offset = o) (h : ReadsK P f.type d ok) (hc : P.cellsOf f.type = d.sz) : ReadsF P o [f] d ok := by
  intro H enc w base spare held n cs hh
  obtain ⟨x, hx⟩ := hh f (by simp)
  rw [ho, hc] at hx
  exact h hx
theorem ReadsF.cons {α β : Type} {P : Program} {o : Nat} {f : Field} {fs : List Field} {d : Kd α} {d2 : Kd β} {ok : α → Prop} {ok2 : β → Prop} (ho : f.offset = o) (h : ReadsK P f.type d ok) (hc : P.cellsOf f.type = d.sz) (h2 : ReadsF P (o + d.sz) fs d2 ok2) : ReadsF P o (f :: fs) (Kd.pair d d2) (fun p => ok p.1 ∧ ok2 p.2) := by
  intro H enc w base spare held n cs hh
  obtain ⟨x, hx⟩ := hh f (by simp)
  rw [ho, hc] at hx
  obtain ⟨a, ha, hok⟩ := h hx
  obtain ⟨b, hb, hok2⟩ := h2 (fun g hg => hh g (by simp [hg]))
  refine ⟨(a, b), ⟨_, _, ?_, ha, hb⟩, hok, hok2⟩
  show (cs.drop o).take (d.sz + d2.sz) = _
  rw [List.take_add, List.drop_drop]
theorem ReadsK.struct {α : Type} {P : Program} {T : TypeId} {fs : Array Field} {d : Kd α} {ok : α → Prop} (hT : P.underlying T = some (.struct fs)) (hc : P.cellsOf T = d.sz) (h : ReadsF P 0 fs.toList d ok) : ReadsK P T d ok := by
  intro H enc w base spare held fuel cs x hx
  obtain ⟨xs, n, _, _, hl, hlen, hf⟩ := DataW.trod_struct hT hx
  obtain ⟨a, ha, hok⟩ := h (n := n) (cs := cs) (enc := enc) (w := w) (base := base) (spare := spare) (held := held) (fun f hf2 => by
    obtain ⟨i, hi, rfl⟩ := List.mem_iff_getElem.1 hf2
    have h1 := hf i fs[i] (by simp at hi; exact Array.getElem?_eq_getElem hi)
    have hi2 : i < xs.length := by simp at hi; omega
    rw [List.getElem?_eq_getElem hi2] at h1
    exact ⟨_, by simpa using h1⟩)
  refine ⟨a, ?_, hok⟩
  rwa [List.drop_zero, ← hc, ← hl, List.take_length] at ha
theorem agg_of {cs : Array Value} {L : List Value} (h : cs.toList = L) : cs = L.toArray := by rw [← h]
end Go.Proofs.YtaieobidkmihkaaW.Mine


-- written by wip/gen_law.py
namespace Go.Proofs.Ytaieobidkmihkaa.P
open Go.RowKit Go.Proofs.YtaieobidkmihkaaW.PrintWords Go.Proofs.YtaieobidkmihkaaW.PrintLast Go.Proofs.YtaieobidkmihkaaW.PrintMore Go.Proofs.YtaieobidkmihkaaW.Mine
open List (setIfInBounds_toArray set_cons_zero set_cons_succ)
attribute [local go_sem] max2_int min2_int max_two min_two max_three min_three max_four min_four
set_option linter.unusedVariables false
set_option linter.unusedSimpArgs false
set_option maxHeartbeats 8000000 in
set_option maxRecDepth 100000 in
theorem FnExactMoveRing_run0 (A0_0 : Option Addr) (c0_0 : Nat) (l0_0 : List (List Int)) (a1_0 : Int) (a1_1 : Int) (a1_2 : Int) (a1_3 : Int) (a1_4 : Int) (a1_5 : Int) (a2_0 : Int) (r1_0 : Int) (w : World) (hr0_0 : Kd.C (Kd.slice 5 (Kd.int .u8)) w A0_0 l0_0.length l0_0) (hc0_0 : l0_0.length ≤ c0_0) (H1 : ∃ k, laws_szMemory.f k l0_0 1048576 = some r1_0) (P_ : r1_0 < 0) :
    Calls Try.prog 7 #[.agg #[.slice A0_0 l0_0.length c0_0], .agg #[.int .i64 a1_0, .int .i64 a1_1, .int .i64 a1_2, .int .i64 a1_3, .int .i64 a1_4, .int .i64 a1_5], .int .i64 a2_0] w fun e w' => e = .returned (.bool true) ∧ Below w.heap.size w w' := by
  have HR0_0 := Aside0.mk hr0_0; have HC0_0 := Aside0.mk hc0_0; clear hr0_0 hc0_0
  obtain ⟨k, H1_⟩ := H1; have H1 := Aside0.mk H1_; clear H1_
  have Pb_ : decide (r1_0 < 0) = true := decide_eq_true P_; clear P_
  have HS0 : Aside0 (Stk w [] w) := ⟨Stk.nil w⟩
  go_enter Try.func7, Try.ntmps7
  refine reg (aF := ?_) (nw := ?_) [evB 0 3 [] 24 (fun s => #[.slice A0_0 l0_0.length c0_0]) 9999 [] (fun s => #[.slice A0_0 l0_0.length c0_0]), evB 1 4 [] 28 (fun s => #[.int .i64 a1_0, .int .i64 a1_1, .int .i64 a1_2, .int .i64 a1_3, .int .i64 a1_4, .int .i64 a1_5]) 9999 [] (fun s => #[.int .i64 a1_0, .int .i64 a1_1, .int .i64 a1_2, .int .i64 a1_3, .int .i64 a1_4, .int .i64 a1_5]), evP 2 6 [] (fun s => .bool false)] [] [] false 3 rfl rfl (by kernel_rfl) rfl (mf0) ?aF ?nw HS0.out ?hs ?_
  rotate_left 2
  case aF => intro s; simp only [putE, EvT.val, Act.put, setIfInBounds_toArray, set_cons_zero, set_cons_succ]; rfl
  case nw => intro s; simp only [thA, bsA, List.nil_append, List.cons_append, List.append_nil, if_true, if_false, Nat.reduceLT, set_cons_zero, set_cons_succ]; rfl
  case hs => exact ⟨bv rfl (fun s w => by go_simp; try rfl), bv rfl (fun s w => by go_simp; try rfl), pu rfl, trivial⟩
  intro s1 w1 h; have HS1 := Aside0.mk h; clear h HS0
  refine tl0 ?_
  refine reg0 (aF := ?_) [] [0] false 1 rfl rfl (by kernel_rfl) rfl (fun _ => rfl) ?aF HS1.out ?hs ?_
  rotate_left 1
  case aF => intro s; simp only [putE, EvT.val, Act.put, setIfInBounds_toArray, set_cons_zero, set_cons_succ]; rfl
  case hs => exact trivial
  intro s2 w2 h; have HS2 := Aside0.mk h; clear h HS1
  refine tlP (v := .int .i64 1048576) 7 rfl ?_
  refine tl0 ?_
  refine reg0 (aF := ?_) [evL 0 21 [] (fun s => .agg #[.slice A0_0 l0_0.length c0_0]), evP 1 22 [] (fun s => .int .i64 1048576), evC 2 (some 23) [] (fun s x => .int .i64 r1_0) (fun s x => [])] [3] false 4 rfl rfl (by kernel_rfl) rfl (fun _ => rfl) ?aF HS2.out ?hs ?_
  rotate_left 1
  case aF => intro s; simp only [putE, EvT.val, Act.put, setIfInBounds_toArray, set_cons_zero, set_cons_succ]; rfl
  case hs => exact ⟨ld rfl 0 (fun s => rfl) (fun s w h => by have h0 := h 0 _ rfl; clear h; go_simp; try rfl), pu rfl, cl rfl (fun s => #[.agg #[.slice A0_0 l0_0.length c0_0], .int .i64 1048576]) Try.func15 (fun s w1 h => (laws_szMemory.calls _ _ _ _ _ _ _ (Kd.C_below HR0_0.out h.hb) HC0_0.out H1.out).mono (by rintro e w2 ⟨rfl, hb⟩; exact fin0 hb)), trivial⟩
  intro s3 w3 h; have HS3 := Aside0.mk h; clear h HS2
  refine tlP (v := .int .i64 r1_0) 7 rfl ?_
  refine tl0 ?_
  refine wp_seq ?_
  refine reg0 (aF := ?_) [evP 0 24 [] (fun s => .int .i64 r1_0), evP 1 25 [] (fun s => .bool true)] [] false 2 rfl rfl (by kernel_rfl) rfl (fun _ => rfl) ?aF HS3.out ?hs ?_
  rotate_left 1
  case aF => intro s; simp only [putE, EvT.val, Act.put, setIfInBounds_toArray, set_cons_zero, set_cons_succ]; rfl
  case hs => exact ⟨pu rfl, pb (q := .lss) Pb_ rfl, trivial⟩
  intro s4 w4 h; have HS4 := Aside0.mk h; clear h HS3
  refine tl0 ?_
  refine wp_cond_true rfl ?_
  refine reg0 (aF := ?_) [] [0] false 1 rfl rfl (by kernel_rfl) rfl (fun _ => rfl) ?aF HS4.out ?hs ?_
  rotate_left 1
  case aF => intro s; simp only [putE, EvT.val, Act.put, setIfInBounds_toArray, set_cons_zero, set_cons_succ]; rfl
  case hs => exact trivial
  intro s5 w5 h; have HS5 := Aside0.mk h; clear h HS4
  refine tlP (v := .bool true) 6 rfl ?_
  refine tl0 ?_
  refine wp_ret ?_
  go_ret
  exact ⟨by first | rfl | simp, HS5.out.hb⟩
set_option maxHeartbeats 8000000 in
set_option maxRecDepth 100000 in
theorem FnExactMoveRing_run (A0_0 : Option Addr) (c0_0 : Nat) (l0_0 : List (List Int)) (a1_0 : Int) (a1_1 : Int) (a1_2 : Int) (a1_3 : Int) (a1_4 : Int) (a1_5 : Int) (a2_0 : Int) (r1_0 : Int) (r2_0 : List (List Int)) (r3_0 : Int) (r3_1 : Int) (r3_2 : Int) (r3_3 : Int) (r3_4 : Int) (r3_5 : Int) (r4_0 : List (List Int)) (r4_1 : Int) (r4_2 : Int) (r4_3 : Int) (r4_4 : Int) (r4_5 : Int) (r4_6 : Int) (r4_7 : Bool) (r9_0 : Int) (r9_1 : List (List Int)) (r10_0 : Int) (r10_1 : List (List Int)) (w : World) (hr0_0 : Kd.C (Kd.slice 5 (Kd.int .u8)) w A0_0 l0_0.length l0_0) (hc0_0 : l0_0.length ≤ c0_0) (H1 : ∃ k, laws_szMemory.f k l0_0 1048576 = some r1_0) (H2 : laws_toMemory.f l0_0 = some r2_0) (H3 : laws_toRing.f a1_0 a1_1 a1_2 a1_3 a1_4 a1_5 = some (r3_0, r3_1, r3_2, r3_3, r3_4, r3_5)) (H4 : ∃ k, spec_MoveRing.f k r2_0 r3_0 r3_1 r3_2 r3_3 r3_4 r3_5 a2_0 = some (r4_0, r4_1, r4_2, r4_3, r4_4, r4_5, r4_6, r4_7)) (H5 : impl_MoveRing.f r2_0 r3_0 r3_1 r3_2 r3_3 r3_4 r3_5 a2_0 = some (r4_0, r4_1, r4_2, r4_3, r4_4, r4_5, r4_6, r4_7)) (H6 : ∃ k, laws_eqMemory.f k r4_0 r4_0 = some true) (H7 : laws_eqRing.f r4_1 r4_2 r4_3 r4_4 r4_5 r4_6 r4_1 r4_2 r4_3 r4_4 r4_5 r4_6 = some true) (H8 : ∃ k, laws_eqMemory.f k r2_0 r2_0 = some true) (H9 : laws_markMemory.f r2_0 1 = some (r9_0, r9_1)) (H10 : laws_markMemory.f r4_0 1 = some (r10_0, r10_1)) (H11 : ∃ k, laws_heldMemory.f k r10_1 1 = some r10_0) (N_r10_0 : ¬ r10_0 < 0) (N_r1_0 : ¬ r1_0 < 0) (N_r9_0 : ¬ r9_0 < 0) :
    Calls Try.prog 7 #[.agg #[.slice A0_0 l0_0.length c0_0], .agg #[.int .i64 a1_0, .int .i64 a1_1, .int .i64 a1_2, .int .i64 a1_3, .int .i64 a1_4, .int .i64 a1_5], .int .i64 a2_0] w fun e w' => e = .returned (.bool true) ∧ Below w.heap.size w w' := by
  have HR0_0 := Aside0.mk hr0_0; have HC0_0 := Aside0.mk hc0_0; clear hr0_0 hc0_0
  obtain ⟨k, H1_⟩ := H1; have H1 := Aside0.mk H1_; clear H1_
  have H2_ := Aside0.mk H2; clear H2; have H2 := H2_; clear H2_
  have H3_ := Aside0.mk H3; clear H3; have H3 := H3_; clear H3_
  obtain ⟨k, H4_⟩ := H4; have H4 := Aside0.mk H4_; clear H4_
  have H5_ := Aside0.mk H5; clear H5; have H5 := H5_; clear H5_
  obtain ⟨k, H6_⟩ := H6; have H6 := Aside0.mk H6_; clear H6_
  have H7_ := Aside0.mk H7; clear H7; have H7 := H7_; clear H7_
  obtain ⟨k, H8_⟩ := H8; have H8 := Aside0.mk H8_; clear H8_
  have H9_ := Aside0.mk H9; clear H9; have H9 := H9_; clear H9_
  have H10_ := Aside0.mk H10; clear H10; have H10 := H10_; clear H10_
  obtain ⟨k, H11_⟩ := H11; have H11 := Aside0.mk H11_; clear H11_
  have Nb_r10_0 : decide (r10_0 < 0) = false := decide_eq_false N_r10_0; clear N_r10_0
  have Nb_r1_0 : decide (r1_0 < 0) = false := decide_eq_false N_r1_0; clear N_r1_0
  have Nb_r9_0 : decide (r9_0 < 0) = false := decide_eq_false N_r9_0; clear N_r9_0
  have HS0 : Aside0 (Stk w [] w) := ⟨Stk.nil w⟩
  go_enter Try.func7, Try.ntmps7
  refine reg (aF := ?_) (nw := ?_) [evB 0 3 [] 24 (fun s => #[.slice A0_0 l0_0.length c0_0]) 9999 [] (fun s => #[.slice A0_0 l0_0.length c0_0]), evB 1 4 [] 28 (fun s => #[.int .i64 a1_0, .int .i64 a1_1, .int .i64 a1_2, .int .i64 a1_3, .int .i64 a1_4, .int .i64 a1_5]) 9999 [] (fun s => #[.int .i64 a1_0, .int .i64 a1_1, .int .i64 a1_2, .int .i64 a1_3, .int .i64 a1_4, .int .i64 a1_5]), evP 2 6 [] (fun s => .bool false)] [] [] false 3 rfl rfl (by kernel_rfl) rfl (mf0) ?aF ?nw HS0.out ?hs ?_
  rotate_left 2
  case aF => intro s; simp only [putE, EvT.val, Act.put, setIfInBounds_toArray, set_cons_zero, set_cons_succ]; rfl
  case nw => intro s; simp only [thA, bsA, List.nil_append, List.cons_append, List.append_nil, if_true, if_false, Nat.reduceLT, set_cons_zero, set_cons_succ]; rfl
  case hs => exact ⟨bv rfl (fun s w => by go_simp; try rfl), bv rfl (fun s w => by go_simp; try rfl), pu rfl, trivial⟩
  intro s1 w1 h; have HS1 := Aside0.mk h; clear h HS0
  refine tl0 ?_
  refine reg0 (aF := ?_) [] [0] false 1 rfl rfl (by kernel_rfl) rfl (fun _ => rfl) ?aF HS1.out ?hs ?_
  rotate_left 1
  case aF => intro s; simp only [putE, EvT.val, Act.put, setIfInBounds_toArray, set_cons_zero, set_cons_succ]; rfl
  case hs => exact trivial
  intro s2 w2 h; have HS2 := Aside0.mk h; clear h HS1
  refine tlP (v := .int .i64 1048576) 7 rfl ?_
  refine tl0 ?_
  refine reg0 (aF := ?_) [evL 0 21 [] (fun s => .agg #[.slice A0_0 l0_0.length c0_0]), evP 1 22 [] (fun s => .int .i64 1048576), evC 2 (some 23) [] (fun s x => .int .i64 r1_0) (fun s x => [])] [3] false 4 rfl rfl (by kernel_rfl) rfl (fun _ => rfl) ?aF HS2.out ?hs ?_
  rotate_left 1
  case aF => intro s; simp only [putE, EvT.val, Act.put, setIfInBounds_toArray, set_cons_zero, set_cons_succ]; rfl
  case hs => exact ⟨ld rfl 0 (fun s => rfl) (fun s w h => by have h0 := h 0 _ rfl; clear h; go_simp; try rfl), pu rfl, cl rfl (fun s => #[.agg #[.slice A0_0 l0_0.length c0_0], .int .i64 1048576]) Try.func15 (fun s w1 h => (laws_szMemory.calls _ _ _ _ _ _ _ (Kd.C_below HR0_0.out h.hb) HC0_0.out H1.out).mono (by rintro e w2 ⟨rfl, hb⟩; exact fin0 hb)), trivial⟩
  intro s3 w3 h; have HS3 := Aside0.mk h; clear h HS2
  refine tlP (v := .int .i64 r1_0) 7 rfl ?_
  refine tl0 ?_
  refine wp_seq ?_
  refine reg0 (aF := ?_) [evP 0 24 [] (fun s => .int .i64 r1_0), evP 1 25 [] (fun s => .bool false)] [] false 2 rfl rfl (by kernel_rfl) rfl (fun _ => rfl) ?aF HS3.out ?hs ?_
  rotate_left 1
  case aF => intro s; simp only [putE, EvT.val, Act.put, setIfInBounds_toArray, set_cons_zero, set_cons_succ]; rfl
  case hs => exact ⟨pu rfl, pb (q := .lss) Nb_r1_0 rfl, trivial⟩
  intro s4 w4 h; have HS4 := Aside0.mk h; clear h HS3
  refine tl0 ?_
  refine wp_cond_false rfl ?_
  refine wp_skip ?_
  refine thN ?_
  refine reg (aF := ?_) (nw := ?_) [evL 0 27 [] (fun s => .agg #[.slice A0_0 l0_0.length c0_0]), evC 1 (some 28) [] (fun s x => .agg #[.slice x.A r2_0.length x.c]) (fun s x => [rowS (Kd.slice 5 (Kd.int .u8)) 29 w x.lo x.hi x.A x.c r2_0]), evL 2 29 [] (fun s => .agg #[.int .i64 a1_0, .int .i64 a1_1, .int .i64 a1_2, .int .i64 a1_3, .int .i64 a1_4, .int .i64 a1_5]), evC 3 (some 30) [] (fun s x => .agg #[.int .i64 r3_0, .int .i64 r3_1, .int .i64 r3_2, .int .i64 r3_3, .int .i64 r3_4, .int .i64 r3_5]) (fun s x => []), evP 4 31 [] (fun s => .int .i64 a2_0), evC 5 (some 32) [1] (fun s x => .tuple #[.agg #[.slice x.A r4_0.length x.c], .agg #[.int .i64 r4_1, .int .i64 r4_2, .int .i64 r4_3, .int .i64 r4_4, .int .i64 r4_5, .int .i64 r4_6], .bool r4_7]) (fun s x => [rowS (Kd.slice 5 (Kd.int .u8)) 29 w x.lo x.hi x.A x.c r4_0]), evP 6 26 [5] (fun s => .tuple #[.agg #[.slice (s 5).A r4_0.length (s 5).c], .agg #[.int .i64 r4_1, .int .i64 r4_2, .int .i64 r4_3, .int .i64 r4_4, .int .i64 r4_5, .int .i64 r4_6], .bool r4_7]), evP 7 33 [5] (fun s => .agg #[.slice (s 5).A r4_0.length (s 5).c]), evP 8 34 [] (fun s => .agg #[.int .i64 r4_1, .int .i64 r4_2, .int .i64 r4_3, .int .i64 r4_4, .int .i64 r4_5, .int .i64 r4_6]), evP 9 35 [] (fun s => .bool r4_7), evB 10 8 [] 31 (fun s => #[.slice none 0 0]) 12 [5] (fun s => #[.slice (s 5).A r4_0.length (s 5).c]), evB 11 9 [] 34 (fun s => #[.int .i64 0, .int .i64 0, .int .i64 0, .int .i64 0, .int .i64 0, .int .i64 0]) 13 [] (fun s => #[.int .i64 r4_1, .int .i64 r4_2, .int .i64 r4_3, .int .i64 r4_4, .int .i64 r4_5, .int .i64 r4_6]), evS 12, evS 13] [14] [] true 15 rfl rfl (by kernel_rfl) rfl (mf0) ?aF ?nw HS4.out ?hs ?_
  rotate_left 2
  case aF => intro s; simp only [putE, EvT.val, Act.put, setIfInBounds_toArray, set_cons_zero, set_cons_succ]; rfl
  case nw => intro s; simp only [thA, bsA, List.nil_append, List.cons_append, List.append_nil, if_true, if_false, Nat.reduceLT, set_cons_zero, set_cons_succ]; rfl
  case hs => exact ⟨ld rfl 0 (fun s => rfl) (fun s w h => by have h0 := h 0 _ rfl; clear h; go_simp; try rfl), cl rfl (fun s => #[.agg #[.slice A0_0 l0_0.length c0_0]]) Try.func17 (fun s w1 h => (laws_toMemory.calls _ _ _ _ _ (Kd.C_below HR0_0.out h.hb) HC0_0.out H2.out).mono (by rintro e w2 ⟨v0_, rfl, ho0, hb⟩; obtain ⟨x, rfl, hx⟩ := fin_S ho0 hb h.hb.size; exact ⟨x, rfl, hx⟩)), ld rfl 1 (fun s => rfl) (fun s w h => by have h0 := h 0 _ rfl; have h1 := h 1 _ rfl; have h2 := h 2 _ rfl; have h3 := h 3 _ rfl; have h4 := h 4 _ rfl; have h5 := h 5 _ rfl; clear h; go_simp; try rfl), cl rfl (fun s => #[.agg #[.int .i64 a1_0, .int .i64 a1_1, .int .i64 a1_2, .int .i64 a1_3, .int .i64 a1_4, .int .i64 a1_5]]) Try.func18 (fun s w1 h => (laws_toRing.calls _ _ _ _ _ _ _ _ _ _ _ _ _ H3.out).mono (by rintro e w2 ⟨rfl, hb⟩; exact fin0 hb)), pu rfl, cl rfl (fun s => #[.agg #[.slice (s 1).A r2_0.length (s 1).c], .agg #[.int .i64 r3_0, .int .i64 r3_1, .int .i64 r3_2, .int .i64 r3_3, .int .i64 r3_4, .int .i64 r3_5], .int .i64 a2_0]) Try.func38 (fun s w1 h => (spec_MoveRing.calls _ _ _ _ _ _ _ _ _ _ _ _ _ _ _ _ _ _ _ _ (Kd.S_reads' (h.get 0 rfl)).2.2 (Kd.S_reads' (h.get 0 rfl)).2.1 H4.out).mono (by rintro e w2 ⟨v0_, rfl, ho0, hb⟩; obtain ⟨x, rfl, hx⟩ := fin_S ho0 hb h.hb.size; exact ⟨x, rfl, hx⟩)), pu rfl, pu rfl, pu rfl, pu rfl, bv rfl (fun s w => by go_simp; try rfl), bv rfl (fun s w => by go_simp; try rfl), st rfl 10 0 (fun s => [.slice (s 5).A r4_0.length (s 5).c]) rfl (fun s w h hf => by have h0 := h 0 _ rfl; have f0 := hf 0; clear h hf; go_simp; try rfl), st rfl 11 0 (fun s => [.int .i64 r4_1, .int .i64 r4_2, .int .i64 r4_3, .int .i64 r4_4, .int .i64 r4_5, .int .i64 r4_6]) rfl (fun s w h hf => by have h0 := h 0 _ rfl; have f0 := hf 0; have h1 := h 1 _ rfl; have f1 := hf 1; have h2 := h 2 _ rfl; have f2 := hf 2; have h3 := h 3 _ rfl; have f3 := hf 3; have h4 := h 4 _ rfl; have f4 := hf 4; have h5 := h 5 _ rfl; have f5 := hf 5; clear h hf; go_simp; try rfl), trivial⟩
  intro s5 w5 h; have HS5 := Aside0.mk h; clear h HS4
  refine tlP (v := .bool r4_7) 10 rfl ?_
  refine tl0 ?_
  refine reg (aF := ?_) (nw := ?_) [evL 0 36 [] (fun s => .agg #[.slice A0_0 l0_0.length c0_0]), evC 1 (some 37) [] (fun s x => .agg #[.slice x.A r2_0.length x.c]) (fun s x => [rowS (Kd.slice 5 (Kd.int .u8)) 29 w x.lo x.hi x.A x.c r2_0]), evB 2 11 [] 31 (fun s => #[.slice none 0 0]) 3 [1] (fun s => #[.slice (s 1).A r2_0.length (s 1).c]), evS 3] [] [] false 4 rfl rfl (by kernel_rfl) rfl (mf0) ?aF ?nw HS5.out ?hs ?_
  rotate_left 2
  case aF => intro s; simp only [putE, EvT.val, Act.put, setIfInBounds_toArray, set_cons_zero, set_cons_succ]; rfl
  case nw => intro s; simp only [thA, bsA, List.nil_append, List.cons_append, List.append_nil, if_true, if_false, Nat.reduceLT, set_cons_zero, set_cons_succ]; rfl
  case hs => exact ⟨ld rfl 4 (fun s => rfl) (fun s w h => by have h0 := h 0 _ rfl; clear h; go_simp; try rfl), cl rfl (fun s => #[.agg #[.slice A0_0 l0_0.length c0_0]]) Try.func17 (fun s w1 h => (laws_toMemory.calls _ _ _ _ _ (Kd.C_below HR0_0.out h.hb) HC0_0.out H2.out).mono (by rintro e w2 ⟨v0_, rfl, ho0, hb⟩; obtain ⟨x, rfl, hx⟩ := fin_S ho0 hb h.hb.size; exact ⟨x, rfl, hx⟩)), bv rfl (fun s w => by go_simp; try rfl), st rfl 2 0 (fun s => [.slice (s 1).A r2_0.length (s 1).c]) rfl (fun s w h hf => by have h0 := h 0 _ rfl; have f0 := hf 0; clear h hf; go_simp; try rfl), trivial⟩
  intro s6 w6 h; have HS6 := Aside0.mk h; clear h HS5
  refine tl0 ?_
  refine reg (aF := ?_) (nw := ?_) [evR 0 39 1 (fun s => .agg #[.slice (s6 1).A r2_0.length (s6 1).c]), evL 1 40 [] (fun s => .agg #[.int .i64 a1_0, .int .i64 a1_1, .int .i64 a1_2, .int .i64 a1_3, .int .i64 a1_4, .int .i64 a1_5]), evC 2 (some 41) [] (fun s x => .agg #[.int .i64 r3_0, .int .i64 r3_1, .int .i64 r3_2, .int .i64 r3_3, .int .i64 r3_4, .int .i64 r3_5]) (fun s x => []), evP 3 42 [] (fun s => .int .i64 a2_0), evC 4 (some 43) [] (fun s x => .tuple #[.agg #[.slice x.A r4_0.length x.c], .agg #[.int .i64 r4_1, .int .i64 r4_2, .int .i64 r4_3, .int .i64 r4_4, .int .i64 r4_5, .int .i64 r4_6], .bool r4_7]) (fun s x => [rowS (Kd.slice 5 (Kd.int .u8)) 29 w x.lo x.hi x.A x.c r4_0]), evP 5 38 [4] (fun s => .tuple #[.agg #[.slice (s 4).A r4_0.length (s 4).c], .agg #[.int .i64 r4_1, .int .i64 r4_2, .int .i64 r4_3, .int .i64 r4_4, .int .i64 r4_5, .int .i64 r4_6], .bool r4_7]), evP 6 44 [4] (fun s => .agg #[.slice (s 4).A r4_0.length (s 4).c]), evP 7 45 [] (fun s => .agg #[.int .i64 r4_1, .int .i64 r4_2, .int .i64 r4_3, .int .i64 r4_4, .int .i64 r4_5, .int .i64 r4_6]), evP 8 46 [] (fun s => .bool r4_7), evB 9 12 [] 31 (fun s => #[.slice none 0 0]) 11 [4] (fun s => #[.slice (s 4).A r4_0.length (s 4).c]), evB 10 13 [] 34 (fun s => #[.int .i64 0, .int .i64 0, .int .i64 0, .int .i64 0, .int .i64 0, .int .i64 0]) 12 [] (fun s => #[.int .i64 r4_1, .int .i64 r4_2, .int .i64 r4_3, .int .i64 r4_4, .int .i64 r4_5, .int .i64 r4_6]), evS 11, evS 12] [13] [] true 14 rfl rfl (by kernel_rfl) rfl (mf0) ?aF ?nw HS6.out ?hs ?_
  rotate_left 2
  case aF => intro s; simp only [putE, EvT.val, Act.put, setIfInBounds_toArray, set_cons_zero, set_cons_succ]; rfl
  case nw => intro s; simp only [thA, bsA, List.nil_append, List.cons_append, List.append_nil, if_true, if_false, Nat.reduceLT, set_cons_zero, set_cons_succ]; rfl
  case hs => exact ⟨lr rfl 1 rfl (fun s w h => by have h0 := h 0 _ rfl; clear h; go_simp; try rfl), ld rfl 7 (fun s => rfl) (fun s w h => by have h0 := h 0 _ rfl; have h1 := h 1 _ rfl; have h2 := h 2 _ rfl; have h3 := h 3 _ rfl; have h4 := h 4 _ rfl; have h5 := h 5 _ rfl; clear h; go_simp; try rfl), cl rfl (fun s => #[.agg #[.int .i64 a1_0, .int .i64 a1_1, .int .i64 a1_2, .int .i64 a1_3, .int .i64 a1_4, .int .i64 a1_5]]) Try.func18 (fun s w1 h => (laws_toRing.calls _ _ _ _ _ _ _ _ _ _ _ _ _ H3.out).mono (by rintro e w2 ⟨rfl, hb⟩; exact fin0 hb)), pu rfl, cl rfl (fun s => #[.agg #[.slice (s6 1).A r2_0.length (s6 1).c], .agg #[.int .i64 r3_0, .int .i64 r3_1, .int .i64 r3_2, .int .i64 r3_3, .int .i64 r3_4, .int .i64 r3_5], .int .i64 a2_0]) Try.func39 (fun s w1 h => (impl_MoveRing.calls _ _ _ _ _ _ _ _ _ _ _ _ _ _ _ _ _ _ _ (Kd.S_reads' (h.get 0 rfl)).2.2 (Kd.S_reads' (h.get 0 rfl)).2.1 H5.out).mono (by rintro e w2 ⟨v0_, rfl, ho0, hb⟩; obtain ⟨x, rfl, hx⟩ := fin_S ho0 hb h.hb.size; exact ⟨x, rfl, hx⟩)), pu rfl, pu rfl, pu rfl, pu rfl, bv rfl (fun s w => by go_simp; try rfl), bv rfl (fun s w => by go_simp; try rfl), st rfl 9 0 (fun s => [.slice (s 4).A r4_0.length (s 4).c]) rfl (fun s w h hf => by have h0 := h 0 _ rfl; have f0 := hf 0; clear h hf; go_simp; try rfl), st rfl 10 0 (fun s => [.int .i64 r4_1, .int .i64 r4_2, .int .i64 r4_3, .int .i64 r4_4, .int .i64 r4_5, .int .i64 r4_6]) rfl (fun s w h hf => by have h0 := h 0 _ rfl; have f0 := hf 0; have h1 := h 1 _ rfl; have f1 := hf 1; have h2 := h 2 _ rfl; have f2 := hf 2; have h3 := h 3 _ rfl; have f3 := hf 3; have h4 := h 4 _ rfl; have f4 := hf 4; have h5 := h 5 _ rfl; have f5 := hf 5; clear h hf; go_simp; try rfl), trivial⟩
  intro s7 w7 h; have HS7 := Aside0.mk h; clear h HS6
  refine tlP (v := .bool r4_7) 14 rfl ?_
  refine tl0 ?_
  refine wp_seq ?_
  refine reg0 (aF := ?_) [evL 0 47 [] (fun s => .agg #[.slice (s7 4).A r4_0.length (s7 4).c]), evL 1 48 [] (fun s => .agg #[.slice (s5 5).A r4_0.length (s5 5).c]), evC 2 (some 49) [] (fun s x => .bool true) (fun s x => []), evP 3 50 [] (fun s => .bool false), evP 4 51 [] (fun s => .bool false), evL 5 52 [] (fun s => .agg #[.int .i64 r4_1, .int .i64 r4_2, .int .i64 r4_3, .int .i64 r4_4, .int .i64 r4_5, .int .i64 r4_6]), evL 6 53 [] (fun s => .agg #[.int .i64 r4_1, .int .i64 r4_2, .int .i64 r4_3, .int .i64 r4_4, .int .i64 r4_5, .int .i64 r4_6]), evC 7 (some 54) [] (fun s x => .bool true) (fun s x => []), evP 8 55 [] (fun s => .bool false), evP 9 56 [] (fun s => .bool false), evP 10 57 [] (fun s => .bool false), evP 11 58 [] (fun s => .bool r4_7), evP 12 59 [] (fun s => .bool r4_7), evP 13 60 [] (fun s => .bool false), evP 14 61 [] (fun s => .bool false)] [] false 15 rfl rfl (by kernel_rfl) rfl (fun _ => rfl) ?aF HS7.out ?hs ?_
  rotate_left 1
  case aF => intro s; simp only [putE, EvT.val, Act.put, setIfInBounds_toArray, set_cons_zero, set_cons_succ]; rfl
  case hs => exact ⟨ld rfl 1 (fun s => rfl) (fun s w h => by have h0 := h 0 _ rfl; clear h; go_simp; try rfl), ld rfl 7 (fun s => rfl) (fun s w h => by have h0 := h 0 _ rfl; clear h; go_simp; try rfl), cl rfl (fun s => #[.agg #[.slice (s7 4).A r4_0.length (s7 4).c], .agg #[.slice (s5 5).A r4_0.length (s5 5).c]]) Try.func21 (fun s w1 h => (laws_eqMemory.calls _ _ _ _ _ _ _ _ _ (Kd.S_reads' (h.get 0 rfl)).2.2 (Kd.S_reads' (h.get 0 rfl)).2.1 (Kd.S_reads' (h.get 6 rfl)).2.2 (Kd.S_reads' (h.get 6 rfl)).2.1 H6.out).mono (by rintro e w2 ⟨rfl, hb⟩; exact fin0 hb)), pu rfl, pu rfl, ld rfl 2 (fun s => rfl) (fun s w h => by have h0 := h 0 _ rfl; have h1 := h 1 _ rfl; have h2 := h 2 _ rfl; have h3 := h 3 _ rfl; have h4 := h 4 _ rfl; have h5 := h 5 _ rfl; clear h; go_simp; try rfl), ld rfl 8 (fun s => rfl) (fun s w h => by have h0 := h 0 _ rfl; have h1 := h 1 _ rfl; have h2 := h 2 _ rfl; have h3 := h 3 _ rfl; have h4 := h 4 _ rfl; have h5 := h 5 _ rfl; clear h; go_simp; try rfl), cl rfl (fun s => #[.agg #[.int .i64 r4_1, .int .i64 r4_2, .int .i64 r4_3, .int .i64 r4_4, .int .i64 r4_5, .int .i64 r4_6], .agg #[.int .i64 r4_1, .int .i64 r4_2, .int .i64 r4_3, .int .i64 r4_4, .int .i64 r4_5, .int .i64 r4_6]]) Try.func22 (fun s w1 h => (laws_eqRing.calls _ _ _ _ _ _ _ _ _ _ _ _ _ _ H7.out).mono (by rintro e w2 ⟨rfl, hb⟩; exact fin0 hb)), pu rfl, pu rfl, pu rfl, pu rfl, pu rfl, pn Try.underlying4 rfl, pu rfl, trivial⟩
  intro s8 w8 h; have HS8 := Aside0.mk h; clear h HS7
  refine tl0 ?_
  refine wp_cond_false rfl ?_
  refine wp_skip ?_
  refine thN ?_
  refine wp_seq ?_
  refine reg (aF := ?_) (nw := ?_) [evR 0 62 4 (fun s => .agg #[.slice (s6 1).A r2_0.length (s6 1).c]), evL 1 63 [] (fun s => .agg #[.slice A0_0 l0_0.length c0_0]), evC 2 (some 64) [] (fun s x => .agg #[.slice x.A r2_0.length x.c]) (fun s x => [rowS (Kd.slice 5 (Kd.int .u8)) 29 w x.lo x.hi x.A x.c r2_0]), evC 3 (some 65) [2] (fun s x => .bool true) (fun s x => []), evP 4 66 [] (fun s => .bool false)] [] [] true 5 rfl rfl (by kernel_rfl) rfl (mf0) ?aF ?nw HS8.out ?hs ?_
  rotate_left 2
  case aF => intro s; simp only [putE, EvT.val, Act.put, setIfInBounds_toArray, set_cons_zero, set_cons_succ]; rfl
  case nw => intro s; simp only [thA, bsA, List.nil_append, List.cons_append, List.append_nil, if_true, if_false, Nat.reduceLT, set_cons_zero, set_cons_succ]; rfl
  case hs => exact ⟨lr rfl 4 rfl (fun s w h => by have h0 := h 0 _ rfl; clear h; go_simp; try rfl), ld rfl 9 (fun s => rfl) (fun s w h => by have h0 := h 0 _ rfl; clear h; go_simp; try rfl), cl rfl (fun s => #[.agg #[.slice A0_0 l0_0.length c0_0]]) Try.func17 (fun s w1 h => (laws_toMemory.calls _ _ _ _ _ (Kd.C_below HR0_0.out h.hb) HC0_0.out H2.out).mono (by rintro e w2 ⟨v0_, rfl, ho0, hb⟩; obtain ⟨x, rfl, hx⟩ := fin_S ho0 hb h.hb.size; exact ⟨x, rfl, hx⟩)), cl rfl (fun s => #[.agg #[.slice (s6 1).A r2_0.length (s6 1).c], .agg #[.slice (s 2).A r2_0.length (s 2).c]]) Try.func21 (fun s w1 h => (laws_eqMemory.calls _ _ _ _ _ _ _ _ _ (Kd.S_reads' (h.get 4 rfl)).2.2 (Kd.S_reads' (h.get 4 rfl)).2.1 (Kd.S_reads' (h.get 0 rfl)).2.2 (Kd.S_reads' (h.get 0 rfl)).2.1 H8.out).mono (by rintro e w2 ⟨rfl, hb⟩; exact fin0 hb)), pu rfl, trivial⟩
  intro s9 w9 h; have HS9 := Aside0.mk h; clear h HS8
  refine tl0 ?_
  refine wp_cond_false rfl ?_
  refine wp_skip ?_
  refine thN ?_
  refine reg0 (aF := ?_) [] [0] false 1 rfl rfl (by kernel_rfl) rfl (fun _ => rfl) ?aF HS9.out ?hs ?_
  rotate_left 1
  case aF => intro s; simp only [putE, EvT.val, Act.put, setIfInBounds_toArray, set_cons_zero, set_cons_succ]; rfl
  case hs => exact trivial
  intro s10 w10 h; have HS10 := Aside0.mk h; clear h HS9
  refine tlP (v := .int .i64 1) 15 rfl ?_
  refine tl0 ?_
  refine reg (aF := ?_) (nw := ?_) [evL 0 67 [] (fun s => .agg #[.slice (s6 1).A r2_0.length (s6 1).c]), evP 1 68 [] (fun s => .int .i64 1), evW 2 (some 69) [] (fun s => .int .i64 r9_0)] [3] [⟨4, 2, [], fun s => ⟨(s6 1).lo, (s6 1).hi, fun w_ => Kd.S (Kd.slice 5 (Kd.int .u8)) 29 w_ w.heap.size (fun k_ => (s6 1).lo ≤ k_ ∧ k_ < (s6 1).hi) (.slice (s6 1).A r2_0.length (s6 1).c) r9_1⟩⟩] false 4 rfl rfl (by kernel_rfl) rfl ((mf1 mf0)) ?aF ?nw HS10.out ?hs ?_
  rotate_left 2
  case aF => intro s; simp only [putE, EvT.val, Act.put, setIfInBounds_toArray, set_cons_zero, set_cons_succ]; rfl
  case nw => intro s; simp only [thA, bsA, List.nil_append, List.cons_append, List.append_nil, if_true, if_false, Nat.reduceLT, set_cons_zero, set_cons_succ]; rfl
  case hs => exact ⟨ld rfl 5 (fun s => rfl) (fun s w h => by have h0 := h 0 _ rfl; clear h; go_simp; try rfl), pu rfl, cw rfl 0 4 rfl rfl (fun s => #[.agg #[.slice (s6 1).A r2_0.length (s6 1).c], .int .i64 1]) Try.func24 (fun s w1 h => (laws_markMemory.calls (fun k_ => (s6 1).lo ≤ k_ ∧ k_ < (s6 1).hi) _ _ _ _ _ w _ h.hb (h.get 0 rfl) H9.out).mono (by rintro e w2 ⟨rfl, ho0, hb, hk⟩; exact ⟨rfl, Wrote.of 0 h rfl hb hk (fun w_ ha => S_again ho0 ha)⟩)), trivial⟩
  intro s11 w11 h; have HS11 := Aside0.mk h; clear h HS10
  refine tlP (v := .int .i64 r9_0) 15 rfl ?_
  refine tl0 ?_
  refine wp_seq ?_
  refine reg0 (aF := ?_) [evP 0 70 [] (fun s => .int .i64 r9_0), evP 1 71 [] (fun s => .bool false), evP 2 72 [] (fun s => .bool false), evL 3 73 [] (fun s => .agg #[.slice (s7 4).A r4_0.length (s7 4).c]), evL 4 74 [] (fun s => .agg #[.slice (s5 5).A r4_0.length (s5 5).c]), evC 5 (some 75) [] (fun s x => .bool true) (fun s x => []), evP 6 76 [] (fun s => .bool false), evP 7 77 [] (fun s => .bool false), evP 8 78 [] (fun s => .bool false), evL 9 79 [] (fun s => .agg #[.int .i64 r4_1, .int .i64 r4_2, .int .i64 r4_3, .int .i64 r4_4, .int .i64 r4_5, .int .i64 r4_6]), evL 10 80 [] (fun s => .agg #[.int .i64 r4_1, .int .i64 r4_2, .int .i64 r4_3, .int .i64 r4_4, .int .i64 r4_5, .int .i64 r4_6]), evC 11 (some 81) [] (fun s x => .bool true) (fun s x => []), evP 12 82 [] (fun s => .bool false), evP 13 83 [] (fun s => .bool false), evP 14 84 [] (fun s => .bool false), evP 15 85 [] (fun s => .bool r4_7), evP 16 86 [] (fun s => .bool r4_7), evP 17 87 [] (fun s => .bool false), evP 18 88 [] (fun s => .bool false)] [] false 19 rfl rfl (by kernel_rfl) rfl (fun _ => rfl) ?aF HS11.out ?hs ?_
  rotate_left 1
  case aF => intro s; simp only [putE, EvT.val, Act.put, setIfInBounds_toArray, set_cons_zero, set_cons_succ]; rfl
  case hs => exact ⟨pu rfl, pb (q := .lss) Nb_r9_0 rfl, pu rfl, ld rfl 2 (fun s => rfl) (fun s w h => by have h0 := h 0 _ rfl; clear h; go_simp; try rfl), ld rfl 8 (fun s => rfl) (fun s w h => by have h0 := h 0 _ rfl; clear h; go_simp; try rfl), cl rfl (fun s => #[.agg #[.slice (s7 4).A r4_0.length (s7 4).c], .agg #[.slice (s5 5).A r4_0.length (s5 5).c]]) Try.func21 (fun s w1 h => (laws_eqMemory.calls _ _ _ _ _ _ _ _ _ (Kd.S_reads' (h.get 1 rfl)).2.2 (Kd.S_reads' (h.get 1 rfl)).2.1 (Kd.S_reads' (h.get 7 rfl)).2.2 (Kd.S_reads' (h.get 7 rfl)).2.1 H6.out).mono (by rintro e w2 ⟨rfl, hb⟩; exact fin0 hb)), pu rfl, pu rfl, pu rfl, ld rfl 3 (fun s => rfl) (fun s w h => by have h0 := h 0 _ rfl; have h1 := h 1 _ rfl; have h2 := h 2 _ rfl; have h3 := h 3 _ rfl; have h4 := h 4 _ rfl; have h5 := h 5 _ rfl; clear h; go_simp; try rfl), ld rfl 9 (fun s => rfl) (fun s w h => by have h0 := h 0 _ rfl; have h1 := h 1 _ rfl; have h2 := h 2 _ rfl; have h3 := h 3 _ rfl; have h4 := h 4 _ rfl; have h5 := h 5 _ rfl; clear h; go_simp; try rfl), cl rfl (fun s => #[.agg #[.int .i64 r4_1, .int .i64 r4_2, .int .i64 r4_3, .int .i64 r4_4, .int .i64 r4_5, .int .i64 r4_6], .agg #[.int .i64 r4_1, .int .i64 r4_2, .int .i64 r4_3, .int .i64 r4_4, .int .i64 r4_5, .int .i64 r4_6]]) Try.func22 (fun s w1 h => (laws_eqRing.calls _ _ _ _ _ _ _ _ _ _ _ _ _ _ H7.out).mono (by rintro e w2 ⟨rfl, hb⟩; exact fin0 hb)), pu rfl, pu rfl, pu rfl, pu rfl, pu rfl, pn Try.underlying4 rfl, pu rfl, trivial⟩
  intro s12 w12 h; have HS12 := Aside0.mk h; clear h HS11
  refine tl0 ?_
  refine wp_cond_false rfl ?_
  refine wp_skip ?_
  refine thN ?_
  refine reg0 (aF := ?_) [] [0] false 1 rfl rfl (by kernel_rfl) rfl (fun _ => rfl) ?aF HS12.out ?hs ?_
  rotate_left 1
  case aF => intro s; simp only [putE, EvT.val, Act.put, setIfInBounds_toArray, set_cons_zero, set_cons_succ]; rfl
  case hs => exact trivial
  intro s13 w13 h; have HS13 := Aside0.mk h; clear h HS12
  refine tlP (v := .int .i64 1) 16 rfl ?_
  refine tl0 ?_
  refine reg (aF := ?_) (nw := ?_) [evL 0 89 [] (fun s => .agg #[.slice (s7 4).A r4_0.length (s7 4).c]), evP 1 90 [] (fun s => .int .i64 1), evW 2 (some 91) [] (fun s => .int .i64 r10_0)] [3] [⟨1, 2, [], fun s => ⟨(s7 4).lo, (s7 4).hi, fun w_ => Kd.S (Kd.slice 5 (Kd.int .u8)) 29 w_ w.heap.size (fun k_ => (s7 4).lo ≤ k_ ∧ k_ < (s7 4).hi) (.slice (s7 4).A r4_0.length (s7 4).c) r10_1⟩⟩] false 4 rfl rfl (by kernel_rfl) rfl ((mf1 mf0)) ?aF ?nw HS13.out ?hs ?_
  rotate_left 2
  case aF => intro s; simp only [putE, EvT.val, Act.put, setIfInBounds_toArray, set_cons_zero, set_cons_succ]; rfl
  case nw => intro s; simp only [thA, bsA, List.nil_append, List.cons_append, List.append_nil, if_true, if_false, Nat.reduceLT, set_cons_zero, set_cons_succ]; rfl
  case hs => exact ⟨ld rfl 2 (fun s => rfl) (fun s w h => by have h0 := h 0 _ rfl; clear h; go_simp; try rfl), pu rfl, cw rfl 0 1 rfl rfl (fun s => #[.agg #[.slice (s7 4).A r4_0.length (s7 4).c], .int .i64 1]) Try.func24 (fun s w1 h => (laws_markMemory.calls (fun k_ => (s7 4).lo ≤ k_ ∧ k_ < (s7 4).hi) _ _ _ _ _ w _ h.hb (h.get 0 rfl) H10.out).mono (by rintro e w2 ⟨rfl, ho0, hb, hk⟩; exact ⟨rfl, Wrote.of 0 h rfl hb hk (fun w_ ha => S_again ho0 ha)⟩)), trivial⟩
  intro s14 w14 h; have HS14 := Aside0.mk h; clear h HS13
  refine tlP (v := .int .i64 r10_0) 16 rfl ?_
  refine tl0 ?_
  refine reg0 (aF := ?_) [] [0] false 1 rfl rfl (by kernel_rfl) rfl (fun _ => rfl) ?aF HS14.out ?hs ?_
  rotate_left 1
  case aF => intro s; simp only [putE, EvT.val, Act.put, setIfInBounds_toArray, set_cons_zero, set_cons_succ]; rfl
  case hs => exact trivial
  intro s15 w15 h; have HS15 := Aside0.mk h; clear h HS14
  refine tlP (v := .int .i64 1) 17 rfl ?_
  refine tl0 ?_
  refine reg0 (aF := ?_) [evL 0 92 [] (fun s => .agg #[.slice (s7 4).A r4_0.length (s7 4).c]), evP 1 93 [] (fun s => .int .i64 1), evC 2 (some 94) [] (fun s x => .int .i64 r10_0) (fun s x => [])] [3] false 4 rfl rfl (by kernel_rfl) rfl (fun _ => rfl) ?aF HS15.out ?hs ?_
  rotate_left 1
  case aF => intro s; simp only [putE, EvT.val, Act.put, setIfInBounds_toArray, set_cons_zero, set_cons_succ]; rfl
  case hs => exact ⟨ld rfl 2 (fun s => rfl) (fun s w h => by have h0 := h 0 _ rfl; clear h; go_simp; try rfl), pu rfl, cl rfl (fun s => #[.agg #[.slice (s7 4).A r4_0.length (s7 4).c], .int .i64 1]) Try.func26 (fun s w1 h => by rw [show r4_0.length = r10_1.length from (Kd.S_reads' (h.get 1 rfl)).1]; exact (laws_heldMemory.calls _ _ _ _ _ _ _ ((Kd.S_reads' (h.get 1 rfl)).1 ▸ (Kd.S_reads' (h.get 1 rfl)).2.2) ((Kd.S_reads' (h.get 1 rfl)).1 ▸ (Kd.S_reads' (h.get 1 rfl)).2.1) H11.out).mono (by rintro e w2 ⟨rfl, hb⟩; exact fin0 hb)), trivial⟩
  intro s16 w16 h; have HS16 := Aside0.mk h; clear h HS15
  refine tlP (v := .int .i64 r10_0) 17 rfl ?_
  refine tl0 ?_
  refine wp_seq ?_
  refine reg0 (aF := ?_) [evP 0 95 [] (fun s => .int .i64 r10_0), evP 1 96 [] (fun s => .bool false)] [] false 2 rfl rfl (by kernel_rfl) rfl (fun _ => rfl) ?aF HS16.out ?hs ?_
  rotate_left 1
  case aF => intro s; simp only [putE, EvT.val, Act.put, setIfInBounds_toArray, set_cons_zero, set_cons_succ]; rfl
  case hs => exact ⟨pu rfl, pb (q := .lss) Nb_r10_0 rfl, trivial⟩
  intro s17 w17 h; have HS17 := Aside0.mk h; clear h HS16
  refine tl0 ?_
  refine wp_cond_false rfl ?_
  refine wp_skip ?_
  refine thN ?_
  refine wp_seq ?_
  refine reg0 (aF := ?_) [evP 0 97 [] (fun s => .int .i64 r10_0), evP 1 98 [] (fun s => .int .i64 r10_0), evP 2 99 [] (fun s => .bool false)] [] false 3 rfl rfl (by kernel_rfl) rfl (fun _ => rfl) ?aF HS17.out ?hs ?_
  rotate_left 1
  case aF => intro s; simp only [putE, EvT.val, Act.put, setIfInBounds_toArray, set_cons_zero, set_cons_succ]; rfl
  case hs => exact ⟨pu rfl, pu rfl, pb (q := .neq) (bne_self_eq_false _) rfl, trivial⟩
  intro s18 w18 h; have HS18 := Aside0.mk h; clear h HS17
  refine tl0 ?_
  refine wp_cond_false rfl ?_
  refine wp_skip ?_
  refine thN ?_
  refine reg (aF := ?_) (nw := ?_) [evL 0 101 [] (fun s => .agg #[.slice A0_0 l0_0.length c0_0]), evC 1 (some 102) [] (fun s x => .agg #[.slice x.A r2_0.length x.c]) (fun s x => [rowS (Kd.slice 5 (Kd.int .u8)) 29 w x.lo x.hi x.A x.c r2_0]), evL 2 103 [] (fun s => .agg #[.int .i64 a1_0, .int .i64 a1_1, .int .i64 a1_2, .int .i64 a1_3, .int .i64 a1_4, .int .i64 a1_5]), evC 3 (some 104) [] (fun s x => .agg #[.int .i64 r3_0, .int .i64 r3_1, .int .i64 r3_2, .int .i64 r3_3, .int .i64 r3_4, .int .i64 r3_5]) (fun s x => []), evP 4 105 [] (fun s => .int .i64 a2_0), evC 5 (some 106) [1] (fun s x => .tuple #[.agg #[.slice x.A r4_0.length x.c], .agg #[.int .i64 r4_1, .int .i64 r4_2, .int .i64 r4_3, .int .i64 r4_4, .int .i64 r4_5, .int .i64 r4_6], .bool r4_7]) (fun s x => [rowS (Kd.slice 5 (Kd.int .u8)) 29 w x.lo x.hi x.A x.c r4_0]), evP 6 100 [5] (fun s => .tuple #[.agg #[.slice (s 5).A r4_0.length (s 5).c], .agg #[.int .i64 r4_1, .int .i64 r4_2, .int .i64 r4_3, .int .i64 r4_4, .int .i64 r4_5, .int .i64 r4_6], .bool r4_7]), evP 7 107 [5] (fun s => .agg #[.slice (s 5).A r4_0.length (s 5).c]), evP 8 108 [] (fun s => .agg #[.int .i64 r4_1, .int .i64 r4_2, .int .i64 r4_3, .int .i64 r4_4, .int .i64 r4_5, .int .i64 r4_6]), evP 9 109 [] (fun s => .bool r4_7), evB 10 18 [] 31 (fun s => #[.slice none 0 0]) 12 [5] (fun s => #[.slice (s 5).A r4_0.length (s 5).c]), evB 11 19 [] 34 (fun s => #[.int .i64 0, .int .i64 0, .int .i64 0, .int .i64 0, .int .i64 0, .int .i64 0]) 13 [] (fun s => #[.int .i64 r4_1, .int .i64 r4_2, .int .i64 r4_3, .int .i64 r4_4, .int .i64 r4_5, .int .i64 r4_6]), evS 12, evS 13] [14] [] true 15 rfl rfl (by kernel_rfl) rfl (mf0) ?aF ?nw HS18.out ?hs ?_
  rotate_left 2
  case aF => intro s; simp only [putE, EvT.val, Act.put, setIfInBounds_toArray, set_cons_zero, set_cons_succ]; rfl
  case nw => intro s; simp only [thA, bsA, List.nil_append, List.cons_append, List.append_nil, if_true, if_false, Nat.reduceLT, set_cons_zero, set_cons_succ]; rfl
  case hs => exact ⟨ld rfl 10 (fun s => rfl) (fun s w h => by have h0 := h 0 _ rfl; clear h; go_simp; try rfl), cl rfl (fun s => #[.agg #[.slice A0_0 l0_0.length c0_0]]) Try.func17 (fun s w1 h => (laws_toMemory.calls _ _ _ _ _ (Kd.C_below HR0_0.out h.hb) HC0_0.out H2.out).mono (by rintro e w2 ⟨v0_, rfl, ho0, hb⟩; obtain ⟨x, rfl, hx⟩ := fin_S ho0 hb h.hb.size; exact ⟨x, rfl, hx⟩)), ld rfl 11 (fun s => rfl) (fun s w h => by have h0 := h 0 _ rfl; have h1 := h 1 _ rfl; have h2 := h 2 _ rfl; have h3 := h 3 _ rfl; have h4 := h 4 _ rfl; have h5 := h 5 _ rfl; clear h; go_simp; try rfl), cl rfl (fun s => #[.agg #[.int .i64 a1_0, .int .i64 a1_1, .int .i64 a1_2, .int .i64 a1_3, .int .i64 a1_4, .int .i64 a1_5]]) Try.func18 (fun s w1 h => (laws_toRing.calls _ _ _ _ _ _ _ _ _ _ _ _ _ H3.out).mono (by rintro e w2 ⟨rfl, hb⟩; exact fin0 hb)), pu rfl, cl rfl (fun s => #[.agg #[.slice (s 1).A r2_0.length (s 1).c], .agg #[.int .i64 r3_0, .int .i64 r3_1, .int .i64 r3_2, .int .i64 r3_3, .int .i64 r3_4, .int .i64 r3_5], .int .i64 a2_0]) Try.func39 (fun s w1 h => (impl_MoveRing.calls _ _ _ _ _ _ _ _ _ _ _ _ _ _ _ _ _ _ _ (Kd.S_reads' (h.get 0 rfl)).2.2 (Kd.S_reads' (h.get 0 rfl)).2.1 H5.out).mono (by rintro e w2 ⟨v0_, rfl, ho0, hb⟩; obtain ⟨x, rfl, hx⟩ := fin_S ho0 hb h.hb.size; exact ⟨x, rfl, hx⟩)), pu rfl, pu rfl, pu rfl, pu rfl, bv rfl (fun s w => by go_simp; try rfl), bv rfl (fun s w => by go_simp; try rfl), st rfl 10 0 (fun s => [.slice (s 5).A r4_0.length (s 5).c]) rfl (fun s w h hf => by have h0 := h 0 _ rfl; have f0 := hf 0; clear h hf; go_simp; try rfl), st rfl 11 0 (fun s => [.int .i64 r4_1, .int .i64 r4_2, .int .i64 r4_3, .int .i64 r4_4, .int .i64 r4_5, .int .i64 r4_6]) rfl (fun s w h hf => by have h0 := h 0 _ rfl; have f0 := hf 0; have h1 := h 1 _ rfl; have f1 := hf 1; have h2 := h 2 _ rfl; have f2 := hf 2; have h3 := h 3 _ rfl; have f3 := hf 3; have h4 := h 4 _ rfl; have f4 := hf 4; have h5 := h 5 _ rfl; have f5 := hf 5; clear h hf; go_simp; try rfl), trivial⟩
  intro s19 w19 h; have HS19 := Aside0.mk h; clear h HS18
  refine tlP (v := .bool r4_7) 20 rfl ?_
  refine tl0 ?_
  refine wp_seq ?_
  refine reg0 (aF := ?_) [evL 0 110 [] (fun s => .agg #[.slice (s19 5).A r4_0.length (s19 5).c]), evL 1 111 [] (fun s => .agg #[.slice (s5 5).A r4_0.length (s5 5).c]), evC 2 (some 112) [] (fun s x => .bool true) (fun s x => []), evP 3 113 [] (fun s => .bool false), evP 4 114 [] (fun s => .bool false), evL 5 115 [] (fun s => .agg #[.int .i64 r4_1, .int .i64 r4_2, .int .i64 r4_3, .int .i64 r4_4, .int .i64 r4_5, .int .i64 r4_6]), evL 6 116 [] (fun s => .agg #[.int .i64 r4_1, .int .i64 r4_2, .int .i64 r4_3, .int .i64 r4_4, .int .i64 r4_5, .int .i64 r4_6]), evC 7 (some 117) [] (fun s x => .bool true) (fun s x => []), evP 8 118 [] (fun s => .bool false), evP 9 119 [] (fun s => .bool false), evP 10 120 [] (fun s => .bool false), evP 11 121 [] (fun s => .bool r4_7), evP 12 122 [] (fun s => .bool r4_7), evP 13 123 [] (fun s => .bool false), evP 14 124 [] (fun s => .bool false)] [] false 15 rfl rfl (by kernel_rfl) rfl (fun _ => rfl) ?aF HS19.out ?hs ?_
  rotate_left 1
  case aF => intro s; simp only [putE, EvT.val, Act.put, setIfInBounds_toArray, set_cons_zero, set_cons_succ]; rfl
  case hs => exact ⟨ld rfl 2 (fun s => rfl) (fun s w h => by have h0 := h 0 _ rfl; clear h; go_simp; try rfl), ld rfl 12 (fun s => rfl) (fun s w h => by have h0 := h 0 _ rfl; clear h; go_simp; try rfl), cl rfl (fun s => #[.agg #[.slice (s19 5).A r4_0.length (s19 5).c], .agg #[.slice (s5 5).A r4_0.length (s5 5).c]]) Try.func21 (fun s w1 h => (laws_eqMemory.calls _ _ _ _ _ _ _ _ _ (Kd.S_reads' (h.get 1 rfl)).2.2 (Kd.S_reads' (h.get 1 rfl)).2.1 (Kd.S_reads' (h.get 11 rfl)).2.2 (Kd.S_reads' (h.get 11 rfl)).2.1 H6.out).mono (by rintro e w2 ⟨rfl, hb⟩; exact fin0 hb)), pu rfl, pu rfl, ld rfl 3 (fun s => rfl) (fun s w h => by have h0 := h 0 _ rfl; have h1 := h 1 _ rfl; have h2 := h 2 _ rfl; have h3 := h 3 _ rfl; have h4 := h 4 _ rfl; have h5 := h 5 _ rfl; clear h; go_simp; try rfl), ld rfl 13 (fun s => rfl) (fun s w h => by have h0 := h 0 _ rfl; have h1 := h 1 _ rfl; have h2 := h 2 _ rfl; have h3 := h 3 _ rfl; have h4 := h 4 _ rfl; have h5 := h 5 _ rfl; clear h; go_simp; try rfl), cl rfl (fun s => #[.agg #[.int .i64 r4_1, .int .i64 r4_2, .int .i64 r4_3, .int .i64 r4_4, .int .i64 r4_5, .int .i64 r4_6], .agg #[.int .i64 r4_1, .int .i64 r4_2, .int .i64 r4_3, .int .i64 r4_4, .int .i64 r4_5, .int .i64 r4_6]]) Try.func22 (fun s w1 h => (laws_eqRing.calls _ _ _ _ _ _ _ _ _ _ _ _ _ _ H7.out).mono (by rintro e w2 ⟨rfl, hb⟩; exact fin0 hb)), pu rfl, pu rfl, pu rfl, pu rfl, pu rfl, pn Try.underlying4 rfl, pu rfl, trivial⟩
  intro s20 w20 h; have HS20 := Aside0.mk h; clear h HS19
  refine tl0 ?_
  refine wp_cond_false rfl ?_
  refine wp_skip ?_
  refine thN ?_
  refine reg0 (aF := ?_) [] [0] false 1 rfl rfl (by kernel_rfl) rfl (fun _ => rfl) ?aF HS20.out ?hs ?_
  rotate_left 1
  case aF => intro s; simp only [putE, EvT.val, Act.put, setIfInBounds_toArray, set_cons_zero, set_cons_succ]; rfl
  case hs => exact trivial
  intro s21 w21 h; have HS21 := Aside0.mk h; clear h HS20
  refine tlP (v := .int .i64 1) 17 rfl ?_
  refine tl0 ?_
  refine reg0 (aF := ?_) [evL 0 125 [] (fun s => .agg #[.slice (s7 4).A r4_0.length (s7 4).c]), evP 1 126 [] (fun s => .int .i64 1), evC 2 (some 127) [] (fun s x => .int .i64 r10_0) (fun s x => [])] [3] false 4 rfl rfl (by kernel_rfl) rfl (fun _ => rfl) ?aF HS21.out ?hs ?_
  rotate_left 1
  case aF => intro s; simp only [putE, EvT.val, Act.put, setIfInBounds_toArray, set_cons_zero, set_cons_succ]; rfl
  case hs => exact ⟨ld rfl 6 (fun s => rfl) (fun s w h => by have h0 := h 0 _ rfl; clear h; go_simp; try rfl), pu rfl, cl rfl (fun s => #[.agg #[.slice (s7 4).A r4_0.length (s7 4).c], .int .i64 1]) Try.func26 (fun s w1 h => by rw [show r4_0.length = r10_1.length from (Kd.S_reads' (h.get 5 rfl)).1]; exact (laws_heldMemory.calls _ _ _ _ _ _ _ ((Kd.S_reads' (h.get 5 rfl)).1 ▸ (Kd.S_reads' (h.get 5 rfl)).2.2) ((Kd.S_reads' (h.get 5 rfl)).1 ▸ (Kd.S_reads' (h.get 5 rfl)).2.1) H11.out).mono (by rintro e w2 ⟨rfl, hb⟩; exact fin0 hb)), trivial⟩
  intro s22 w22 h; have HS22 := Aside0.mk h; clear h HS21
  refine tlP (v := .int .i64 r10_0) 17 rfl ?_
  refine tl0 ?_
  refine wp_seq ?_
  refine reg0 (aF := ?_) [evP 0 128 [] (fun s => .int .i64 r10_0), evP 1 129 [] (fun s => .bool false)] [] false 2 rfl rfl (by kernel_rfl) rfl (fun _ => rfl) ?aF HS22.out ?hs ?_
  rotate_left 1
  case aF => intro s; simp only [putE, EvT.val, Act.put, setIfInBounds_toArray, set_cons_zero, set_cons_succ]; rfl
  case hs => exact ⟨pu rfl, pb (q := .lss) Nb_r10_0 rfl, trivial⟩
  intro s23 w23 h; have HS23 := Aside0.mk h; clear h HS22
  refine tl0 ?_
  refine wp_cond_false rfl ?_
  refine wp_skip ?_
  refine thN ?_
  refine wp_seq ?_
  refine reg0 (aF := ?_) [evP 0 130 [] (fun s => .int .i64 r10_0), evP 1 131 [] (fun s => .int .i64 r10_0), evP 2 132 [] (fun s => .bool false)] [] false 3 rfl rfl (by kernel_rfl) rfl (fun _ => rfl) ?aF HS23.out ?hs ?_
  rotate_left 1
  case aF => intro s; simp only [putE, EvT.val, Act.put, setIfInBounds_toArray, set_cons_zero, set_cons_succ]; rfl
  case hs => exact ⟨pu rfl, pu rfl, pb (q := .neq) (bne_self_eq_false _) rfl, trivial⟩
  intro s24 w24 h; have HS24 := Aside0.mk h; clear h HS23
  refine tl0 ?_
  refine wp_cond_false rfl ?_
  refine wp_skip ?_
  refine thN ?_
  refine reg0 (aF := ?_) [] [0] false 1 rfl rfl (by kernel_rfl) rfl (fun _ => rfl) ?aF HS24.out ?hs ?_
  rotate_left 1
  case aF => intro s; simp only [putE, EvT.val, Act.put, setIfInBounds_toArray, set_cons_zero, set_cons_succ]; rfl
  case hs => exact trivial
  intro s25 w25 h; have HS25 := Aside0.mk h; clear h HS24
  refine tlP (v := .bool true) 6 rfl ?_
  refine tl0 ?_
  refine wp_ret ?_
  go_ret
  exact ⟨by first | rfl | simp, HS25.out.hb⟩
end Go.Proofs.Ytaieobidkmihkaa.P


/- The law FnExactMoveRing. -/
namespace Go.Proofs.Ytaieobidkmihkaa.P
open Go.RowKit Go.Proofs.YtaieobidkmihkaaW.PrintWords Go.Proofs.YtaieobidkmihkaaW.Mine
set_option linter.unusedVariables false
theorem FnExactMoveRing_walk (w : World) (cs0 : Array Value) (a0 : (List (List Int))) (hK0 : (Kd.slice 29 (Kd.slice 5 (Kd.int .u8))).K w a0 cs0.toList) (ok0 : (∀ y1 ∈ a0, (∀ y2 ∈ y1, (Lit.int .u8 y2).wf = true))) (cs1 : Array Value) (a1 : ((Int × (Int × (Int × Int))) × (Int × Int))) (hK1 : (Kd.pair (Kd.pair (Kd.int .i64) (Kd.pair (Kd.int .i64) (Kd.pair (Kd.int .i64) (Kd.int .i64)))) (Kd.pair (Kd.int .i64) (Kd.int .i64))).K w a1 cs1.toList) (ok1 : (((Lit.int .i64 a1.1.1).wf = true ∧ ((Lit.int .i64 a1.1.2.1).wf = true ∧ ((Lit.int .i64 a1.1.2.2.1).wf = true ∧ (Lit.int .i64 a1.1.2.2.2).wf = true))) ∧ ((Lit.int .i64 a1.2.1).wf = true ∧ (Lit.int .i64 a1.2.2).wf = true))) (a2 : Int) (w2 : (Lit.int .i64 a2).wf = true) :
    Calls Try.prog 7 #[.agg cs0, .agg cs1, .int .i64 a2] w fun e w' => e = .returned (.bool true) ∧ Below w.heap.size w w' := by
  obtain ⟨A0, c0, hcs0, hc0, hr0⟩ := hK0
  obtain rfl := agg_of hcs0
  obtain ⟨⟨x10, x11, x12, x13⟩, x14, x15⟩ := a1
  obtain ⟨_, _, hcs1, ⟨_, _, rfl, rfl, ⟨_, _, rfl, rfl, ⟨_, _, rfl, rfl, rfl⟩⟩⟩, ⟨_, _, rfl, rfl, rfl⟩⟩ := hK1
  obtain rfl := agg_of hcs1
  obtain ⟨r, hz, hh⟩ := szMemory_f a0 1048576 (by omega) (by omega) hr0.2.1 (C_inner_len hr0)
  rcases hh with ⟨hm, h5⟩ | rfl
  · have hs : -9223372036854775808 ≤ x11 ∧ x11 ≤ 9223372036854775807 := wf_i64 ok1.1.2.1
    have h6 := moveRing_ok a0 x10 x11 x12 x13 x14 x15 a2
    exact FnExactMoveRing_run A0 c0 a0 x10 x11 x12 x13 x14 x15 a2 _ _ _ _ _ _ _ _ _ _ _ _ _ _ _ _ _ _ _ _ w hr0 hc0 hz.rounds (toMemory_f a0 hm) (toRing_f _ _ _ _ _ _) (specMoveRing_f a0 x10 x11 x12 x13 x14 x15 a2 hm hs).rounds (implMoveRing_f a0 x10 x11 x12 x13 x14 x15 a2 hm) (eqM _ h6).rounds (eqRing_f _ _ _ _ _ _) (eqM _ hm).rounds (markM _ hm) (markM _ h6) (heldMemory_f _ h6).rounds (markM_pos _) (by omega) (markM_pos _)
  · exact FnExactMoveRing_run0 A0 c0 a0 x10 x11 x12 x13 x14 x15 a2 _ w hr0 hc0 hz.rounds (by omega)
end Go.Proofs.Ytaieobidkmihkaa.P


namespace Go.Proofs.Ytaieobidkmihkaa.fnExactMoveRing
open Go.ChangeShapes Go.WideShapes Go.ChangeAt Go.RowKit Go.Proofs.YtaieobidkmihkaaW.PrintWords Go.Proofs.YtaieobidkmihkaaW.Mine Go.Proofs.Ytaieobidkmihkaa.P
open Go.ChangeMaps (open_string shut_string)
set_option linter.unusedVariables false
theorem own : ownKnob Try.prog.godebug = none := by kernel_rfl
theorem laidOut : laidOutB Try.prog = true := by kernel_rfl
set_option maxRecDepth 100000 in
theorem lifted (os : Os) (started : os.Started) (H : Type) (enc : TypeId × Value → H) :
    ReturnsInHanded {} Try.checked os 7 .any (Rows.fnExactMoveRingSpec.pre6 enc Try.prog Try.f7 Rows.fnExactMoveRingRow.domain false) (Rows.fnExactMoveRingSpec.post enc Try.prog Try.f7 false true false false) := by
  refine returnsInHanded_of_change_sized (C := Try.checked) own started (by kernel_rfl) Try.func7
    (ChangeSpec.witness6 (enc := enc) (C := Try.checked) false ⟨#[], #[.agg #[.slice none 0 0], .agg #[.int .i64 0, .int .i64 0, .int .i64 0, .int .i64 0, .int .i64 0, .int .i64 0], .int .i64 0], []⟩ 8 (by kernel_rfl) (by kernel_rfl) (by kernel_rfl) (by kernel_rfl)) ?_
  intro W base args ds gs before hval0 hW hcnd hsz0 _
  have hval : ∀ (j : Nat) t v, Try.f7.params[j]? = some t → args[j]? = some v → Value.okWide Try.prog W .any base t v := hval0
  have hW' := hW
  obtain ⟨p, q, hA0, hV, rfl, hfz, hnd⟩ := hW
  have hA : DataW.TrodAll enc Try.prog W 0 (fun _ => true) true Try.f7.params.toList args.toList ds p := hA0
  rw [Try.params7] at hA hval
  obtain ⟨v0, vs0, d0, ds0, p0, q0, hargs, rfl, rfl, h0, r0⟩ := trodAll_cons hA
  obtain ⟨v1, vs1, d1, ds1, p1, q1, rfl, rfl, rfl, h1, r1⟩ := trodAll_cons r0
  obtain ⟨v2, vs2, d2, ds2, p2, q2, rfl, rfl, rfl, h2, r2⟩ := trodAll_cons r1
  obtain ⟨rfl, rfl, rfl⟩ := trodAll_nil r2
  obtain rfl : args = #[v0, v1, v2] := by cases args; simp_all
  obtain ⟨rfl, rfl⟩ := trodVars_none hV
  have k0 := h0
  have lt0 : ∀ x ∈ p0, x.block < W.heap.size := by obtain ⟨m, hm⟩ := k0; exact DataW.trod_lt m _ _ _ hm
  obtain ⟨cs0, rfl, _⟩ := okWide_struct Try.underlying24 (hval 0 24 v0 rfl rfl)
  obtain ⟨a0, hK0, ok0⟩ : ∃ a : (List (List Int)), (Kd.slice 29 (Kd.slice 5 (Kd.int .u8))).K W a cs0.toList ∧ (∀ y1 ∈ a, (∀ y2 ∈ y1, (Lit.int .u8 y2).wf = true)) := by obtain ⟨fuel, hf⟩ := h0; exact (ReadsK.struct Try.underlying24 (by kernel_rfl) (ReadsF.last rfl (ReadsK.slice Try.underlying22 (by kernel_rfl) (ReadsK.slice Try.underlying29 (by kernel_rfl) (ReadsK.int Try.underlying5))) (by kernel_rfl))) hf
  have k1 := h1
  have lt1 : ∀ x ∈ p1, x.block < W.heap.size := by obtain ⟨m, hm⟩ := k1; exact DataW.trod_lt m _ _ _ hm
  obtain ⟨cs1, rfl, _⟩ := okWide_struct Try.underlying28 (hval 1 28 v1 rfl rfl)
  obtain ⟨a1, hK1, ok1⟩ : ∃ a : ((Int × (Int × (Int × Int))) × (Int × Int)), (Kd.pair (Kd.pair (Kd.int .i64) (Kd.pair (Kd.int .i64) (Kd.pair (Kd.int .i64) (Kd.int .i64)))) (Kd.pair (Kd.int .i64) (Kd.int .i64))).K W a cs1.toList ∧ (((Lit.int .i64 a.1.1).wf = true ∧ ((Lit.int .i64 a.1.2.1).wf = true ∧ ((Lit.int .i64 a.1.2.2.1).wf = true ∧ (Lit.int .i64 a.1.2.2.2).wf = true))) ∧ ((Lit.int .i64 a.2.1).wf = true ∧ (Lit.int .i64 a.2.2).wf = true)) := by obtain ⟨fuel, hf⟩ := h1; exact (ReadsK.struct Try.underlying28 (by kernel_rfl) (ReadsF.cons rfl (ReadsK.struct Try.underlying26 (by kernel_rfl) (ReadsF.cons rfl (ReadsK.int Try.underlying3) (by kernel_rfl) (ReadsF.cons rfl (ReadsK.int Try.underlying3) (by kernel_rfl) (ReadsF.cons rfl (ReadsK.int Try.underlying3) (by kernel_rfl) (ReadsF.last rfl (ReadsK.int Try.underlying3) (by kernel_rfl)))))) (by kernel_rfl) (ReadsF.cons rfl (ReadsK.int Try.underlying3) (by kernel_rfl) (ReadsF.last rfl (ReadsK.int Try.underlying3) (by kernel_rfl))))) hf
  obtain ⟨a2, rfl, rfl, rfl, w2⟩ := open_int Try.underlying3 (hval 2 3 v2 rfl rfl) h2
  clear hA0 hval0 hsz0
  refine (FnExactMoveRing_walk W cs0 a0 hK0 ok0 cs1 a1 hK1 ok1 a2 w2).mono fun e W' ⟨he, bel⟩ => ?_
  subst he
  exact ⟨_, rfl, _, _, _, [], _, [], hW', trodAll_mk1 (shut_bool Try.underlying4 _), (trodAll_cons_mk (Below.trod laidOut (by kernel_rfl) (of_decide_eq_true (by kernel_rfl)) k0 bel lt0) (trodAll_cons_mk (Below.trod laidOut (by kernel_rfl) (of_decide_eq_true (by kernel_rfl)) k1 bel lt1) (trodAll_cons_mk (shut_int Try.underlying3 w2) trodAll_mk0))), rfl, bel.frame _, fun h => by cases h⟩
theorem over : Rows.fnExactMoveRingRow.holds Try.pinned (OpenSpec.ofChange Rows.fnExactMoveRingSpec) :=
  OpenClaim.holds_of_wide 7 Try.f7 rfl rfl rfl rfl rfl rfl rfl ⟨rfl, rfl, rfl, rfl, rfl⟩ rfl rfl rfl rfl rfl (by kernel_rfl) Try.func7 (by kernel_rfl)
    (of_decide_eq_true (by kernel_rfl)) (by unfold Func.isWrapper; first | (rw [if_pos (by decide +kernel)]; kernel_rfl) | (rw [if_neg (by decide +kernel)]; exact ⟨rfl, rfl⟩))
    (fun os started H enc _ => lifted os started H enc)
theorem proved : Rows.FnExactMoveRingSaid := over
end Go.Proofs.Ytaieobidkmihkaa.fnExactMoveRing
namespace Go.Proofs.Ytaieobidkmihkaa
theorem fnExactMoveRing_holds : Rows.FnExactMoveRingSaid := fnExactMoveRing.proved
#print axioms fnExactMoveRing_holds
end Go.Proofs.Ytaieobidkmihkaa


