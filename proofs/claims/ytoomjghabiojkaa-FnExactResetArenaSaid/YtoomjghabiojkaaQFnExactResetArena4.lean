/- Part 4 of the proof of the law FnExactResetArena: contracts of the functions that it reaches. -/
import Derived.Test.YtoomjghabiojkaaQFnExactResetArena3
namespace Go.Proofs.Ytoomjghabiojkaa.P
open Go.RowKit Go.Proofs.YtoomjghabiojkaaW.PrintWords Go.Proofs.YtoomjghabiojkaaW.PrintLast Go.Proofs.YtoomjghabiojkaaW.PrintMore
attribute [local go_sem] max2_int min2_int max_two min_two max_three min_three max_four min_four   -- for this text's walks alone
set_option linter.unusedVariables false
set_option linter.unusedSimpArgs false

mutual
def spec_l8Arena.j0 : Nat → Bool → List (List Int) → Int → Int → Int → Int → Int → List Int → Option (Bool)
  | 0, _, _, _, _, _, _, _, _ => none
  | k + 1, x24, x882000, x882001, x882002, x882003, x882004, x882005, x882006 => if x24 = true then (some false) else (spec_l8Arena.l0 k 0 x882000 x882001 x882002 x882003 x882004 x882005 x882006)
def spec_l8Arena.l0 : Nat → Int → List (List Int) → Int → Int → Int → Int → Int → List Int → Option (Bool)
  | 0, _, _, _, _, _, _, _, _ => none
  | k + 1, x3, x882000, x882001, x882002, x882003, x882004, x882005, x882006 => if x3 < (x882006.length : Int) then (if 0 ≤ x3 then ((spec_l1In.f (rd x882006 x3) 0 x882005).bind fun t885 => (if t885 = true then (if x3 > 0 then (if 0 ≤ (wrap64 (x3 - 1)) then (if (wrap64 (x3 - 1)) < (x882006.length : Int) then (if (rd x882006 (wrap64 (x3 - 1))) > (rd x882006 x3) then (some false) else (spec_l8Arena.l0 k (wrap64 (x3 + 1)) x882000 x882001 x882002 x882003 x882004 x882005 x882006)) else (none)) else (none)) else (spec_l8Arena.l0 k (wrap64 (x3 + 1)) x882000 x882001 x882002 x882003 x882004 x882005 x882006)) else (some false))) else (none)) else (some true)
end
def spec_l8Arena.f (k : Nat) (l0_0 : List (List Int)) (a0_1 : Int) (a0_2 : Int) (a0_3 : Int) (a0_4 : Int) (a0_5 : Int) (l0_6 : List Int) : Option (Bool) := (spec_l2Window.f k l0_0 a0_1 a0_2 a0_3 a0_4).bind fun t882 => (if t882 = true then ((spec_l1In.f a0_5 0 a0_3).bind fun t883 => (if t883 = true then (spec_l8Arena.j0 k (decide ((l0_6.length : Int) > 8)) l0_0 a0_1 a0_2 a0_3 a0_4 a0_5 l0_6) else (spec_l8Arena.j0 k true l0_0 a0_1 a0_2 a0_3 a0_4 a0_5 l0_6))) else (spec_l8Arena.j0 k true l0_0 a0_1 a0_2 a0_3 a0_4 a0_5 l0_6))
set_option maxHeartbeats 8000000 in
set_option maxRecDepth 100000 in
theorem spec_l8Arena.calls (k : Nat) (A0_0 : Option Addr) (c0_0 : Nat) (l0_0 : List (List Int)) (a0_1 : Int) (a0_2 : Int) (a0_3 : Int) (a0_4 : Int) (a0_5 : Int) (A0_6 : Option Addr) (c0_6 : Nat) (l0_6 : List Int) (r : Bool) (w : World) (hr0_0 : Kd.C (Kd.slice 5 (Kd.int .u8)) w A0_0 l0_0.length l0_0) (hc0_0 : l0_0.length ≤ c0_0) (hr0_6 : Kd.C (Kd.int .i64) w A0_6 l0_6.length l0_6) (hc0_6 : l0_6.length ≤ c0_6) (h : spec_l8Arena.f k l0_0 a0_1 a0_2 a0_3 a0_4 a0_5 l0_6 = some r) :
    Calls Try.prog 117 #[.agg #[.slice A0_0 l0_0.length c0_0, .int .i64 a0_1, .int .i64 a0_2, .int .i64 a0_3, .int .i64 a0_4, .int .i64 a0_5, .slice A0_6 l0_6.length c0_6]] w fun e w' => e = .returned (.bool r) ∧ Below w.heap.size w w' := by
  have hu51 := Try.underlying51
  have hu26 := Try.underlying26
  have hu48 := Try.underlying48
  have HR0_0 := Aside0.mk hr0_0
  have HC0_0 := Aside0.mk hc0_0
  clear hr0_0 hc0_0
  have HR0_6 := Aside0.mk hr0_6
  have HC0_6 := Aside0.mk hc0_6
  clear hr0_6 hc0_6
  have HB := Aside0.mk (Below.refl w.heap.size w)
  have H : ((spec_l2Window.f k l0_0 a0_1 a0_2 a0_3 a0_4).bind fun t882 => (if t882 = true then ((spec_l1In.f a0_5 0 a0_3).bind fun t883 => (if t883 = true then (spec_l8Arena.j0 k (decide ((l0_6.length : Int) > 8)) l0_0 a0_1 a0_2 a0_3 a0_4 a0_5 l0_6) else (spec_l8Arena.j0 k true l0_0 a0_1 a0_2 a0_3 a0_4 a0_5 l0_6))) else (spec_l8Arena.j0 k true l0_0 a0_1 a0_2 a0_3 a0_4 a0_5 l0_6))) = some r := h
  clear h
  have HC2 := Aside0.mk H
  clear H
  go_enter Try.func117, Try.ntmps117
  go_upto_region 1 with (first | ((with_reducible refine gate_dst (N := 1) rfl ?_); (try (refine gate_guard (by rfl) ?_; dsimp only)); refine box_event ?hg (N := 1) ?hd (cs := #[.slice A0_0 l0_0.length c0_0, .int .i64 a0_1, .int .i64 a0_2, .int .i64 a0_3, .int .i64 a0_4, .int .i64 a0_5, .slice A0_6 l0_6.length c0_6]) (t := 51) ?hr ?_; (case hd => rfl); (case hg => rfl); (case hr => first | (go_simp; done) | (go_simp; rfl)); intro gb881 hg w3 hbox hb; have n0_ := Aside0.mk (below_step (by repeat (first | (with_reducible first | exact HB.out | apply below_alloc | apply pw_below_drewN | apply below_drew1) | exact HB.out)) hb); have n1_ := Aside0.mk (hbox); have n2_ := Aside0.mk ((by rw [hg]; exact (below_size (by repeat (first | (with_reducible first | exact HB.out | apply below_alloc | apply pw_below_drewN | apply below_drew1) | exact HB.out))) : w.heap.size ≤ gb881)); have n3_ := Aside0.mk ((by rw [hg]; exact (below_size (by repeat (first | (with_reducible first | exact HB.out | apply below_alloc | apply pw_below_drewN | apply below_drew1) | exact HB.out))) : w.heap.size ≤ gb881)); clear HB; have HB := n0_; have BK881 := n1_; have GW881 := n2_; have GE881 := n3_; clear n0_ n1_ n2_ n3_; clear hb hbox hg))
  repeat (go_quiet (first | ((with_reducible refine gate_dst (N := 1) rfl ?_); (try (refine gate_guard (by rfl) ?_; dsimp only)); refine box_event ?hg (N := 1) ?hd (cs := #[.slice A0_0 l0_0.length c0_0, .int .i64 a0_1, .int .i64 a0_2, .int .i64 a0_3, .int .i64 a0_4, .int .i64 a0_5, .slice A0_6 l0_6.length c0_6]) (t := 51) ?hr ?_; (case hd => rfl); (case hg => rfl); (case hr => first | (go_simp; done) | (go_simp; rfl)); intro gb881 hg w3 hbox hb; have n0_ := Aside0.mk (below_step (by repeat (first | (with_reducible first | exact HB.out | apply below_alloc | apply pw_below_drewN | apply below_drew1) | exact HB.out)) hb); have n1_ := Aside0.mk (hbox); have n2_ := Aside0.mk ((by rw [hg]; exact (below_size (by repeat (first | (with_reducible first | exact HB.out | apply below_alloc | apply pw_below_drewN | apply below_drew1) | exact HB.out))) : w.heap.size ≤ gb881)); have n3_ := Aside0.mk ((by rw [hg]; exact (below_size (by repeat (first | (with_reducible first | exact HB.out | apply below_alloc | apply pw_below_drewN | apply below_drew1) | exact HB.out))) : w.heap.size ≤ gb881)); clear HB; have HB := n0_; have BK881 := n1_; have GW881 := n2_; have GE881 := n3_; clear n0_ n1_ n2_ n3_; clear hb hbox hg)); go_upto_region 1 with (first | ((with_reducible refine gate_dst (N := 1) rfl ?_); (try (refine gate_guard (by rfl) ?_; dsimp only)); refine box_event ?hg (N := 1) ?hd (cs := #[.slice A0_0 l0_0.length c0_0, .int .i64 a0_1, .int .i64 a0_2, .int .i64 a0_3, .int .i64 a0_4, .int .i64 a0_5, .slice A0_6 l0_6.length c0_6]) (t := 51) ?hr ?_; (case hd => rfl); (case hg => rfl); (case hr => first | (go_simp; done) | (go_simp; rfl)); intro gb881 hg w3 hbox hb; have n0_ := Aside0.mk (below_step (by repeat (first | (with_reducible first | exact HB.out | apply below_alloc | apply pw_below_drewN | apply below_drew1) | exact HB.out)) hb); have n1_ := Aside0.mk (hbox); have n2_ := Aside0.mk ((by rw [hg]; exact (below_size (by repeat (first | (with_reducible first | exact HB.out | apply below_alloc | apply pw_below_drewN | apply below_drew1) | exact HB.out))) : w.heap.size ≤ gb881)); have n3_ := Aside0.mk ((by rw [hg]; exact (below_size (by repeat (first | (with_reducible first | exact HB.out | apply below_alloc | apply pw_below_drewN | apply below_drew1) | exact HB.out))) : w.heap.size ≤ gb881)); clear HB; have HB := n0_; have BK881 := n1_; have GW881 := n2_; have GE881 := n3_; clear n0_ n1_ n2_ n3_; clear hb hbox hg)))
  (try simp only [Act.put, List.setIfInBounds_toArray, List.set_cons_zero, List.set_cons_succ])
  go_cut [24] (fun v24 wc => ∃ (kq : Nat) (x24_1 : Bool), v24 = .bool x24_1 ∧ Aside0 (spec_l8Arena.j0 kq x24_1 l0_0 a0_1 a0_2 a0_3 a0_4 a0_5 l0_6 = some r) ∧ Aside0 (kq ≤ k) ∧ Aside0 (wc.heap[gb881]? = some (.cells #[(.slice A0_0 l0_0.length c0_0), .int .i64 a0_1, .int .i64 a0_2, .int .i64 a0_3, .int .i64 a0_4, .int .i64 a0_5, (.slice A0_6 l0_6.length c0_6)] 51 (0, 0))) ∧ Aside0 (Below w.heap.size w wc))
  case first =>
    have H := HC2.out
    clear HC2
    replace H := Option.bind_eq_some_iff.mp H
    obtain ⟨t882, A40, H⟩ := H
    replace H : (if t882 = true then ((spec_l1In.f a0_5 0 a0_3).bind fun t883 => (if t883 = true then (spec_l8Arena.j0 k (decide ((l0_6.length : Int) > 8)) l0_0 a0_1 a0_2 a0_3 a0_4 a0_5 l0_6) else (spec_l8Arena.j0 k true l0_0 a0_1 a0_2 a0_3 a0_4 a0_5 l0_6))) else (spec_l8Arena.j0 k true l0_0 a0_1 a0_2 a0_3 a0_4 a0_5 l0_6)) = some r := H
    have A4 := Aside0.mk A40
    clear A40
    by_cases c5 : t882 = true
    · subst c5
      have H1 : ((spec_l1In.f a0_5 0 a0_3).bind fun t883 => (if t883 = true then (spec_l8Arena.j0 k (decide ((l0_6.length : Int) > 8)) l0_0 a0_1 a0_2 a0_3 a0_4 a0_5 l0_6) else (spec_l8Arena.j0 k true l0_0 a0_1 a0_2 a0_3 a0_4 a0_5 l0_6))) = some r := by rw [if_pos rfl] at H; exact H
      clear H
      have H := H1
      clear H1
      replace H := Option.bind_eq_some_iff.mp H
      obtain ⟨t883, A60, H⟩ := H
      replace H : (if t883 = true then (spec_l8Arena.j0 k (decide ((l0_6.length : Int) > 8)) l0_0 a0_1 a0_2 a0_3 a0_4 a0_5 l0_6) else (spec_l8Arena.j0 k true l0_0 a0_1 a0_2 a0_3 a0_4 a0_5 l0_6)) = some r := H
      have A6 := Aside0.mk A60
      clear A60
      by_cases c7 : t883 = true
      · subst c7
        have H1 : (spec_l8Arena.j0 k (decide ((l0_6.length : Int) > 8)) l0_0 a0_1 a0_2 a0_3 a0_4 a0_5 l0_6) = some r := by rw [if_pos rfl] at H; exact H
        clear H
        have H := H1
        clear H1
        have H' := Aside0.mk H
        clear H
        have hcz8_0 : w3.cell? ⟨gb881, 0, none⟩ = some (.slice A0_0 l0_0.length c0_0) := (blk_cell BK881.out 0).trans rfl
        have hcz8_1 : w3.cell? ⟨gb881, 1, none⟩ = some (.int .i64 a0_1) := (blk_cell BK881.out 1).trans rfl
        have hcz8_2 : w3.cell? ⟨gb881, 2, none⟩ = some (.int .i64 a0_2) := (blk_cell BK881.out 2).trans rfl
        have hcz8_3 : w3.cell? ⟨gb881, 3, none⟩ = some (.int .i64 a0_3) := (blk_cell BK881.out 3).trans rfl
        have hcz8_4 : w3.cell? ⟨gb881, 4, none⟩ = some (.int .i64 a0_4) := (blk_cell BK881.out 4).trans rfl
        have hcz8_5 : w3.cell? ⟨gb881, 5, none⟩ = some (.int .i64 a0_5) := (blk_cell BK881.out 5).trans rfl
        have hcz8_6 : w3.cell? ⟨gb881, 6, none⟩ = some (.slice A0_6 l0_6.length c0_6) := (blk_cell BK881.out 6).trans rfl
        have hfz8_0 := blk_frozen BK881.out 0
        have hfz8_1 := blk_frozen BK881.out 1
        have hfz8_2 := blk_frozen BK881.out 2
        have hfz8_3 := blk_frozen BK881.out 3
        have hfz8_4 := blk_frozen BK881.out 4
        have hfz8_5 := blk_frozen BK881.out 5
        have hfz8_6 := blk_frozen BK881.out 6
        go_wp2_with (first | (go_at_call 88; (with_reducible refine (spec_l2Window.calls k _ _ l0_0 a0_1 a0_2 a0_3 a0_4 true _ ?side1 ?side2 A4.out).mono ?_); (case side1 => repeat (first | exact (Kd.C_below HR0_0.out HB.out) | (with_reducible refine Kd.C_alloc ?_ _) | (with_reducible refine Kd.C_drewN ?_ _) | (with_reducible refine Kd.C_drew ?_))); (case side2 => exact HC0_0.out); rintro e w9 ⟨rfl, hb⟩; have n0_ := Aside0.mk (blk_below (g := gb881) (o := .cells #[.slice A0_0 l0_0.length c0_0, .int .i64 a0_1, .int .i64 a0_2, .int .i64 a0_3, .int .i64 a0_4, .int .i64 a0_5, .slice A0_6 l0_6.length c0_6] 51 (0, 0)) (by (with_reducible repeat (first | refine blk_drewN ?_ _ | refine blk_drew ?_ | refine blk_alloc ?_ _)); exact BK881.out) hb); have n1_ := Aside0.mk (below_step (by repeat (first | (with_reducible first | exact HB.out | apply below_alloc | apply pw_below_drewN | apply below_drew1 | refine below_set ?_ GE881.out) | exact HB.out)) hb); clear BK881; clear HB; have BK881 := n0_; have HB := n1_; clear n0_ n1_; (try clear hb); (try clear hb2); (try clear hk); (try clear hi); have hcz10_0 : w9.cell? ⟨gb881, 0, none⟩ = some (.slice A0_0 l0_0.length c0_0) := (blk_cell BK881.out 0).trans rfl; have hcz10_1 : w9.cell? ⟨gb881, 1, none⟩ = some (.int .i64 a0_1) := (blk_cell BK881.out 1).trans rfl; have hcz10_2 : w9.cell? ⟨gb881, 2, none⟩ = some (.int .i64 a0_2) := (blk_cell BK881.out 2).trans rfl; have hcz10_3 : w9.cell? ⟨gb881, 3, none⟩ = some (.int .i64 a0_3) := (blk_cell BK881.out 3).trans rfl; have hcz10_4 : w9.cell? ⟨gb881, 4, none⟩ = some (.int .i64 a0_4) := (blk_cell BK881.out 4).trans rfl; have hcz10_5 : w9.cell? ⟨gb881, 5, none⟩ = some (.int .i64 a0_5) := (blk_cell BK881.out 5).trans rfl; have hcz10_6 : w9.cell? ⟨gb881, 6, none⟩ = some (.slice A0_6 l0_6.length c0_6) := (blk_cell BK881.out 6).trans rfl; have hfz10_0 := blk_frozen BK881.out 0; have hfz10_1 := blk_frozen BK881.out 1; have hfz10_2 := blk_frozen BK881.out 2; have hfz10_3 := blk_frozen BK881.out 3; have hfz10_4 := blk_frozen BK881.out 4; have hfz10_5 := blk_frozen BK881.out 5; have hfz10_6 := blk_frozen BK881.out 6) | (go_at_call 133; (with_reducible refine (spec_l1In.calls a0_5 0 a0_3 true _ A6.out).mono ?_); rintro e w' ⟨rfl, ⟨nd, rfl⟩⟩; (try first | exact ⟨rfl, _, World.drewN_drewN _ _ _⟩ | exact ⟨rfl, _, Eq.trans (World.drewN_drewN _ _ _) (congrArg (World.drewN _) (Nat.add_assoc _ _ _))⟩)))
        repeat (go_quiet (first | (go_at_call 88; (with_reducible refine (spec_l2Window.calls k _ _ l0_0 a0_1 a0_2 a0_3 a0_4 true _ ?side1 ?side2 A4.out).mono ?_); (case side1 => repeat (first | exact (Kd.C_below HR0_0.out HB.out) | (with_reducible refine Kd.C_alloc ?_ _) | (with_reducible refine Kd.C_drewN ?_ _) | (with_reducible refine Kd.C_drew ?_))); (case side2 => exact HC0_0.out); rintro e w9 ⟨rfl, hb⟩; have n0_ := Aside0.mk (blk_below (g := gb881) (o := .cells #[.slice A0_0 l0_0.length c0_0, .int .i64 a0_1, .int .i64 a0_2, .int .i64 a0_3, .int .i64 a0_4, .int .i64 a0_5, .slice A0_6 l0_6.length c0_6] 51 (0, 0)) (by (with_reducible repeat (first | refine blk_drewN ?_ _ | refine blk_drew ?_ | refine blk_alloc ?_ _)); exact BK881.out) hb); have n1_ := Aside0.mk (below_step (by repeat (first | (with_reducible first | exact HB.out | apply below_alloc | apply pw_below_drewN | apply below_drew1 | refine below_set ?_ GE881.out) | exact HB.out)) hb); clear BK881; clear HB; have BK881 := n0_; have HB := n1_; clear n0_ n1_; (try clear hb); (try clear hb2); (try clear hk); (try clear hi); have hcz10_0 : w9.cell? ⟨gb881, 0, none⟩ = some (.slice A0_0 l0_0.length c0_0) := (blk_cell BK881.out 0).trans rfl; have hcz10_1 : w9.cell? ⟨gb881, 1, none⟩ = some (.int .i64 a0_1) := (blk_cell BK881.out 1).trans rfl; have hcz10_2 : w9.cell? ⟨gb881, 2, none⟩ = some (.int .i64 a0_2) := (blk_cell BK881.out 2).trans rfl; have hcz10_3 : w9.cell? ⟨gb881, 3, none⟩ = some (.int .i64 a0_3) := (blk_cell BK881.out 3).trans rfl; have hcz10_4 : w9.cell? ⟨gb881, 4, none⟩ = some (.int .i64 a0_4) := (blk_cell BK881.out 4).trans rfl; have hcz10_5 : w9.cell? ⟨gb881, 5, none⟩ = some (.int .i64 a0_5) := (blk_cell BK881.out 5).trans rfl; have hcz10_6 : w9.cell? ⟨gb881, 6, none⟩ = some (.slice A0_6 l0_6.length c0_6) := (blk_cell BK881.out 6).trans rfl; have hfz10_0 := blk_frozen BK881.out 0; have hfz10_1 := blk_frozen BK881.out 1; have hfz10_2 := blk_frozen BK881.out 2; have hfz10_3 := blk_frozen BK881.out 3; have hfz10_4 := blk_frozen BK881.out 4; have hfz10_5 := blk_frozen BK881.out 5; have hfz10_6 := blk_frozen BK881.out 6) | (go_at_call 133; (with_reducible refine (spec_l1In.calls a0_5 0 a0_3 true _ A6.out).mono ?_); rintro e w' ⟨rfl, ⟨nd, rfl⟩⟩; (try first | exact ⟨rfl, _, World.drewN_drewN _ _ _⟩ | exact ⟨rfl, _, Eq.trans (World.drewN_drewN _ _ _) (congrArg (World.drewN _) (Nat.add_assoc _ _ _))⟩))); try go_wp2_with (first | (go_at_call 88; (with_reducible refine (spec_l2Window.calls k _ _ l0_0 a0_1 a0_2 a0_3 a0_4 true _ ?side1 ?side2 A4.out).mono ?_); (case side1 => repeat (first | exact (Kd.C_below HR0_0.out HB.out) | (with_reducible refine Kd.C_alloc ?_ _) | (with_reducible refine Kd.C_drewN ?_ _) | (with_reducible refine Kd.C_drew ?_))); (case side2 => exact HC0_0.out); rintro e w9 ⟨rfl, hb⟩; have n0_ := Aside0.mk (blk_below (g := gb881) (o := .cells #[.slice A0_0 l0_0.length c0_0, .int .i64 a0_1, .int .i64 a0_2, .int .i64 a0_3, .int .i64 a0_4, .int .i64 a0_5, .slice A0_6 l0_6.length c0_6] 51 (0, 0)) (by (with_reducible repeat (first | refine blk_drewN ?_ _ | refine blk_drew ?_ | refine blk_alloc ?_ _)); exact BK881.out) hb); have n1_ := Aside0.mk (below_step (by repeat (first | (with_reducible first | exact HB.out | apply below_alloc | apply pw_below_drewN | apply below_drew1 | refine below_set ?_ GE881.out) | exact HB.out)) hb); clear BK881; clear HB; have BK881 := n0_; have HB := n1_; clear n0_ n1_; (try clear hb); (try clear hb2); (try clear hk); (try clear hi); have hcz10_0 : w9.cell? ⟨gb881, 0, none⟩ = some (.slice A0_0 l0_0.length c0_0) := (blk_cell BK881.out 0).trans rfl; have hcz10_1 : w9.cell? ⟨gb881, 1, none⟩ = some (.int .i64 a0_1) := (blk_cell BK881.out 1).trans rfl; have hcz10_2 : w9.cell? ⟨gb881, 2, none⟩ = some (.int .i64 a0_2) := (blk_cell BK881.out 2).trans rfl; have hcz10_3 : w9.cell? ⟨gb881, 3, none⟩ = some (.int .i64 a0_3) := (blk_cell BK881.out 3).trans rfl; have hcz10_4 : w9.cell? ⟨gb881, 4, none⟩ = some (.int .i64 a0_4) := (blk_cell BK881.out 4).trans rfl; have hcz10_5 : w9.cell? ⟨gb881, 5, none⟩ = some (.int .i64 a0_5) := (blk_cell BK881.out 5).trans rfl; have hcz10_6 : w9.cell? ⟨gb881, 6, none⟩ = some (.slice A0_6 l0_6.length c0_6) := (blk_cell BK881.out 6).trans rfl; have hfz10_0 := blk_frozen BK881.out 0; have hfz10_1 := blk_frozen BK881.out 1; have hfz10_2 := blk_frozen BK881.out 2; have hfz10_3 := blk_frozen BK881.out 3; have hfz10_4 := blk_frozen BK881.out 4; have hfz10_5 := blk_frozen BK881.out 5; have hfz10_6 := blk_frozen BK881.out 6) | (go_at_call 133; (with_reducible refine (spec_l1In.calls a0_5 0 a0_3 true _ A6.out).mono ?_); rintro e w' ⟨rfl, ⟨nd, rfl⟩⟩; (try first | exact ⟨rfl, _, World.drewN_drewN _ _ _⟩ | exact ⟨rfl, _, Eq.trans (World.drewN_drewN _ _ _) (congrArg (World.drewN _) (Nat.add_assoc _ _ _))⟩))))
        go_meet
        case rel => exact ⟨_, (decide ((l0_6.length : Int) > 8)), (by first | rfl | (simp; done) | (simp [*]; done)), H', ⟨by first | omega | exact Nat.le_refl _⟩, ⟨by (with_reducible repeat (first | refine blk_drewN ?_ _ | refine blk_drew ?_ | refine blk_alloc ?_ _)); exact BK881.out⟩, ⟨by repeat (first | (with_reducible first | exact HB.out | apply below_alloc | apply pw_below_drewN | apply below_drew1 | refine below_set ?_ GE881.out) | exact HB.out)⟩⟩
      · replace c7 := Bool.eq_false_iff.mpr c7
        subst c7
        have H1 : (spec_l8Arena.j0 k true l0_0 a0_1 a0_2 a0_3 a0_4 a0_5 l0_6) = some r := by rw [if_neg (show ¬ (false = true) by decide)] at H; exact H
        clear H
        have H := H1
        clear H1
        have H' := Aside0.mk H
        clear H
        have hcz11_0 : w3.cell? ⟨gb881, 0, none⟩ = some (.slice A0_0 l0_0.length c0_0) := (blk_cell BK881.out 0).trans rfl
        have hcz11_1 : w3.cell? ⟨gb881, 1, none⟩ = some (.int .i64 a0_1) := (blk_cell BK881.out 1).trans rfl
        have hcz11_2 : w3.cell? ⟨gb881, 2, none⟩ = some (.int .i64 a0_2) := (blk_cell BK881.out 2).trans rfl
        have hcz11_3 : w3.cell? ⟨gb881, 3, none⟩ = some (.int .i64 a0_3) := (blk_cell BK881.out 3).trans rfl
        have hcz11_4 : w3.cell? ⟨gb881, 4, none⟩ = some (.int .i64 a0_4) := (blk_cell BK881.out 4).trans rfl
        have hcz11_5 : w3.cell? ⟨gb881, 5, none⟩ = some (.int .i64 a0_5) := (blk_cell BK881.out 5).trans rfl
        have hcz11_6 : w3.cell? ⟨gb881, 6, none⟩ = some (.slice A0_6 l0_6.length c0_6) := (blk_cell BK881.out 6).trans rfl
        have hfz11_0 := blk_frozen BK881.out 0
        have hfz11_1 := blk_frozen BK881.out 1
        have hfz11_2 := blk_frozen BK881.out 2
        have hfz11_3 := blk_frozen BK881.out 3
        have hfz11_4 := blk_frozen BK881.out 4
        have hfz11_5 := blk_frozen BK881.out 5
        have hfz11_6 := blk_frozen BK881.out 6
        go_wp2_with (first | (go_at_call 88; (with_reducible refine (spec_l2Window.calls k _ _ l0_0 a0_1 a0_2 a0_3 a0_4 true _ ?side1 ?side2 A4.out).mono ?_); (case side1 => repeat (first | exact (Kd.C_below HR0_0.out HB.out) | (with_reducible refine Kd.C_alloc ?_ _) | (with_reducible refine Kd.C_drewN ?_ _) | (with_reducible refine Kd.C_drew ?_))); (case side2 => exact HC0_0.out); rintro e w12 ⟨rfl, hb⟩; have n0_ := Aside0.mk (blk_below (g := gb881) (o := .cells #[.slice A0_0 l0_0.length c0_0, .int .i64 a0_1, .int .i64 a0_2, .int .i64 a0_3, .int .i64 a0_4, .int .i64 a0_5, .slice A0_6 l0_6.length c0_6] 51 (0, 0)) (by (with_reducible repeat (first | refine blk_drewN ?_ _ | refine blk_drew ?_ | refine blk_alloc ?_ _)); exact BK881.out) hb); have n1_ := Aside0.mk (below_step (by repeat (first | (with_reducible first | exact HB.out | apply below_alloc | apply pw_below_drewN | apply below_drew1 | refine below_set ?_ GE881.out) | exact HB.out)) hb); clear BK881; clear HB; have BK881 := n0_; have HB := n1_; clear n0_ n1_; (try clear hb); (try clear hb2); (try clear hk); (try clear hi); have hcz13_0 : w12.cell? ⟨gb881, 0, none⟩ = some (.slice A0_0 l0_0.length c0_0) := (blk_cell BK881.out 0).trans rfl; have hcz13_1 : w12.cell? ⟨gb881, 1, none⟩ = some (.int .i64 a0_1) := (blk_cell BK881.out 1).trans rfl; have hcz13_2 : w12.cell? ⟨gb881, 2, none⟩ = some (.int .i64 a0_2) := (blk_cell BK881.out 2).trans rfl; have hcz13_3 : w12.cell? ⟨gb881, 3, none⟩ = some (.int .i64 a0_3) := (blk_cell BK881.out 3).trans rfl; have hcz13_4 : w12.cell? ⟨gb881, 4, none⟩ = some (.int .i64 a0_4) := (blk_cell BK881.out 4).trans rfl; have hcz13_5 : w12.cell? ⟨gb881, 5, none⟩ = some (.int .i64 a0_5) := (blk_cell BK881.out 5).trans rfl; have hcz13_6 : w12.cell? ⟨gb881, 6, none⟩ = some (.slice A0_6 l0_6.length c0_6) := (blk_cell BK881.out 6).trans rfl; have hfz13_0 := blk_frozen BK881.out 0; have hfz13_1 := blk_frozen BK881.out 1; have hfz13_2 := blk_frozen BK881.out 2; have hfz13_3 := blk_frozen BK881.out 3; have hfz13_4 := blk_frozen BK881.out 4; have hfz13_5 := blk_frozen BK881.out 5; have hfz13_6 := blk_frozen BK881.out 6) | (go_at_call 133; (with_reducible refine (spec_l1In.calls a0_5 0 a0_3 false _ A6.out).mono ?_); rintro e w' ⟨rfl, ⟨nd, rfl⟩⟩; (try first | exact ⟨rfl, _, World.drewN_drewN _ _ _⟩ | exact ⟨rfl, _, Eq.trans (World.drewN_drewN _ _ _) (congrArg (World.drewN _) (Nat.add_assoc _ _ _))⟩)))
        repeat (go_quiet (first | (go_at_call 88; (with_reducible refine (spec_l2Window.calls k _ _ l0_0 a0_1 a0_2 a0_3 a0_4 true _ ?side1 ?side2 A4.out).mono ?_); (case side1 => repeat (first | exact (Kd.C_below HR0_0.out HB.out) | (with_reducible refine Kd.C_alloc ?_ _) | (with_reducible refine Kd.C_drewN ?_ _) | (with_reducible refine Kd.C_drew ?_))); (case side2 => exact HC0_0.out); rintro e w12 ⟨rfl, hb⟩; have n0_ := Aside0.mk (blk_below (g := gb881) (o := .cells #[.slice A0_0 l0_0.length c0_0, .int .i64 a0_1, .int .i64 a0_2, .int .i64 a0_3, .int .i64 a0_4, .int .i64 a0_5, .slice A0_6 l0_6.length c0_6] 51 (0, 0)) (by (with_reducible repeat (first | refine blk_drewN ?_ _ | refine blk_drew ?_ | refine blk_alloc ?_ _)); exact BK881.out) hb); have n1_ := Aside0.mk (below_step (by repeat (first | (with_reducible first | exact HB.out | apply below_alloc | apply pw_below_drewN | apply below_drew1 | refine below_set ?_ GE881.out) | exact HB.out)) hb); clear BK881; clear HB; have BK881 := n0_; have HB := n1_; clear n0_ n1_; (try clear hb); (try clear hb2); (try clear hk); (try clear hi); have hcz13_0 : w12.cell? ⟨gb881, 0, none⟩ = some (.slice A0_0 l0_0.length c0_0) := (blk_cell BK881.out 0).trans rfl; have hcz13_1 : w12.cell? ⟨gb881, 1, none⟩ = some (.int .i64 a0_1) := (blk_cell BK881.out 1).trans rfl; have hcz13_2 : w12.cell? ⟨gb881, 2, none⟩ = some (.int .i64 a0_2) := (blk_cell BK881.out 2).trans rfl; have hcz13_3 : w12.cell? ⟨gb881, 3, none⟩ = some (.int .i64 a0_3) := (blk_cell BK881.out 3).trans rfl; have hcz13_4 : w12.cell? ⟨gb881, 4, none⟩ = some (.int .i64 a0_4) := (blk_cell BK881.out 4).trans rfl; have hcz13_5 : w12.cell? ⟨gb881, 5, none⟩ = some (.int .i64 a0_5) := (blk_cell BK881.out 5).trans rfl; have hcz13_6 : w12.cell? ⟨gb881, 6, none⟩ = some (.slice A0_6 l0_6.length c0_6) := (blk_cell BK881.out 6).trans rfl; have hfz13_0 := blk_frozen BK881.out 0; have hfz13_1 := blk_frozen BK881.out 1; have hfz13_2 := blk_frozen BK881.out 2; have hfz13_3 := blk_frozen BK881.out 3; have hfz13_4 := blk_frozen BK881.out 4; have hfz13_5 := blk_frozen BK881.out 5; have hfz13_6 := blk_frozen BK881.out 6) | (go_at_call 133; (with_reducible refine (spec_l1In.calls a0_5 0 a0_3 false _ A6.out).mono ?_); rintro e w' ⟨rfl, ⟨nd, rfl⟩⟩; (try first | exact ⟨rfl, _, World.drewN_drewN _ _ _⟩ | exact ⟨rfl, _, Eq.trans (World.drewN_drewN _ _ _) (congrArg (World.drewN _) (Nat.add_assoc _ _ _))⟩))); try go_wp2_with (first | (go_at_call 88; (with_reducible refine (spec_l2Window.calls k _ _ l0_0 a0_1 a0_2 a0_3 a0_4 true _ ?side1 ?side2 A4.out).mono ?_); (case side1 => repeat (first | exact (Kd.C_below HR0_0.out HB.out) | (with_reducible refine Kd.C_alloc ?_ _) | (with_reducible refine Kd.C_drewN ?_ _) | (with_reducible refine Kd.C_drew ?_))); (case side2 => exact HC0_0.out); rintro e w12 ⟨rfl, hb⟩; have n0_ := Aside0.mk (blk_below (g := gb881) (o := .cells #[.slice A0_0 l0_0.length c0_0, .int .i64 a0_1, .int .i64 a0_2, .int .i64 a0_3, .int .i64 a0_4, .int .i64 a0_5, .slice A0_6 l0_6.length c0_6] 51 (0, 0)) (by (with_reducible repeat (first | refine blk_drewN ?_ _ | refine blk_drew ?_ | refine blk_alloc ?_ _)); exact BK881.out) hb); have n1_ := Aside0.mk (below_step (by repeat (first | (with_reducible first | exact HB.out | apply below_alloc | apply pw_below_drewN | apply below_drew1 | refine below_set ?_ GE881.out) | exact HB.out)) hb); clear BK881; clear HB; have BK881 := n0_; have HB := n1_; clear n0_ n1_; (try clear hb); (try clear hb2); (try clear hk); (try clear hi); have hcz13_0 : w12.cell? ⟨gb881, 0, none⟩ = some (.slice A0_0 l0_0.length c0_0) := (blk_cell BK881.out 0).trans rfl; have hcz13_1 : w12.cell? ⟨gb881, 1, none⟩ = some (.int .i64 a0_1) := (blk_cell BK881.out 1).trans rfl; have hcz13_2 : w12.cell? ⟨gb881, 2, none⟩ = some (.int .i64 a0_2) := (blk_cell BK881.out 2).trans rfl; have hcz13_3 : w12.cell? ⟨gb881, 3, none⟩ = some (.int .i64 a0_3) := (blk_cell BK881.out 3).trans rfl; have hcz13_4 : w12.cell? ⟨gb881, 4, none⟩ = some (.int .i64 a0_4) := (blk_cell BK881.out 4).trans rfl; have hcz13_5 : w12.cell? ⟨gb881, 5, none⟩ = some (.int .i64 a0_5) := (blk_cell BK881.out 5).trans rfl; have hcz13_6 : w12.cell? ⟨gb881, 6, none⟩ = some (.slice A0_6 l0_6.length c0_6) := (blk_cell BK881.out 6).trans rfl; have hfz13_0 := blk_frozen BK881.out 0; have hfz13_1 := blk_frozen BK881.out 1; have hfz13_2 := blk_frozen BK881.out 2; have hfz13_3 := blk_frozen BK881.out 3; have hfz13_4 := blk_frozen BK881.out 4; have hfz13_5 := blk_frozen BK881.out 5; have hfz13_6 := blk_frozen BK881.out 6) | (go_at_call 133; (with_reducible refine (spec_l1In.calls a0_5 0 a0_3 false _ A6.out).mono ?_); rintro e w' ⟨rfl, ⟨nd, rfl⟩⟩; (try first | exact ⟨rfl, _, World.drewN_drewN _ _ _⟩ | exact ⟨rfl, _, Eq.trans (World.drewN_drewN _ _ _) (congrArg (World.drewN _) (Nat.add_assoc _ _ _))⟩))))
        go_meet
        case rel => exact ⟨_, (true), (by first | rfl | (simp; done) | (simp [*]; done)), H', ⟨by first | omega | exact Nat.le_refl _⟩, ⟨by (with_reducible repeat (first | refine blk_drewN ?_ _ | refine blk_drew ?_ | refine blk_alloc ?_ _)); exact BK881.out⟩, ⟨by repeat (first | (with_reducible first | exact HB.out | apply below_alloc | apply pw_below_drewN | apply below_drew1 | refine below_set ?_ GE881.out) | exact HB.out)⟩⟩
    · replace c5 := Bool.eq_false_iff.mpr c5
      subst c5
      have H1 : (spec_l8Arena.j0 k true l0_0 a0_1 a0_2 a0_3 a0_4 a0_5 l0_6) = some r := by rw [if_neg (show ¬ (false = true) by decide)] at H; exact H
      clear H
      have H := H1
      clear H1
      have H' := Aside0.mk H
      clear H
      have hcz14_0 : w3.cell? ⟨gb881, 0, none⟩ = some (.slice A0_0 l0_0.length c0_0) := (blk_cell BK881.out 0).trans rfl
      have hcz14_1 : w3.cell? ⟨gb881, 1, none⟩ = some (.int .i64 a0_1) := (blk_cell BK881.out 1).trans rfl
      have hcz14_2 : w3.cell? ⟨gb881, 2, none⟩ = some (.int .i64 a0_2) := (blk_cell BK881.out 2).trans rfl
      have hcz14_3 : w3.cell? ⟨gb881, 3, none⟩ = some (.int .i64 a0_3) := (blk_cell BK881.out 3).trans rfl
      have hcz14_4 : w3.cell? ⟨gb881, 4, none⟩ = some (.int .i64 a0_4) := (blk_cell BK881.out 4).trans rfl
      have hcz14_5 : w3.cell? ⟨gb881, 5, none⟩ = some (.int .i64 a0_5) := (blk_cell BK881.out 5).trans rfl
      have hcz14_6 : w3.cell? ⟨gb881, 6, none⟩ = some (.slice A0_6 l0_6.length c0_6) := (blk_cell BK881.out 6).trans rfl
      have hfz14_0 := blk_frozen BK881.out 0
      have hfz14_1 := blk_frozen BK881.out 1
      have hfz14_2 := blk_frozen BK881.out 2
      have hfz14_3 := blk_frozen BK881.out 3
      have hfz14_4 := blk_frozen BK881.out 4
      have hfz14_5 := blk_frozen BK881.out 5
      have hfz14_6 := blk_frozen BK881.out 6
      go_wp2_with (first | (go_at_call 88; (with_reducible refine (spec_l2Window.calls k _ _ l0_0 a0_1 a0_2 a0_3 a0_4 false _ ?side1 ?side2 A4.out).mono ?_); (case side1 => repeat (first | exact (Kd.C_below HR0_0.out HB.out) | (with_reducible refine Kd.C_alloc ?_ _) | (with_reducible refine Kd.C_drewN ?_ _) | (with_reducible refine Kd.C_drew ?_))); (case side2 => exact HC0_0.out); rintro e w15 ⟨rfl, hb⟩; have n0_ := Aside0.mk (blk_below (g := gb881) (o := .cells #[.slice A0_0 l0_0.length c0_0, .int .i64 a0_1, .int .i64 a0_2, .int .i64 a0_3, .int .i64 a0_4, .int .i64 a0_5, .slice A0_6 l0_6.length c0_6] 51 (0, 0)) (by (with_reducible repeat (first | refine blk_drewN ?_ _ | refine blk_drew ?_ | refine blk_alloc ?_ _)); exact BK881.out) hb); have n1_ := Aside0.mk (below_step (by repeat (first | (with_reducible first | exact HB.out | apply below_alloc | apply pw_below_drewN | apply below_drew1 | refine below_set ?_ GE881.out) | exact HB.out)) hb); clear BK881; clear HB; have BK881 := n0_; have HB := n1_; clear n0_ n1_; (try clear hb); (try clear hb2); (try clear hk); (try clear hi)))
      repeat (go_quiet (first | (go_at_call 88; (with_reducible refine (spec_l2Window.calls k _ _ l0_0 a0_1 a0_2 a0_3 a0_4 false _ ?side1 ?side2 A4.out).mono ?_); (case side1 => repeat (first | exact (Kd.C_below HR0_0.out HB.out) | (with_reducible refine Kd.C_alloc ?_ _) | (with_reducible refine Kd.C_drewN ?_ _) | (with_reducible refine Kd.C_drew ?_))); (case side2 => exact HC0_0.out); rintro e w15 ⟨rfl, hb⟩; have n0_ := Aside0.mk (blk_below (g := gb881) (o := .cells #[.slice A0_0 l0_0.length c0_0, .int .i64 a0_1, .int .i64 a0_2, .int .i64 a0_3, .int .i64 a0_4, .int .i64 a0_5, .slice A0_6 l0_6.length c0_6] 51 (0, 0)) (by (with_reducible repeat (first | refine blk_drewN ?_ _ | refine blk_drew ?_ | refine blk_alloc ?_ _)); exact BK881.out) hb); have n1_ := Aside0.mk (below_step (by repeat (first | (with_reducible first | exact HB.out | apply below_alloc | apply pw_below_drewN | apply below_drew1 | refine below_set ?_ GE881.out) | exact HB.out)) hb); clear BK881; clear HB; have BK881 := n0_; have HB := n1_; clear n0_ n1_; (try clear hb); (try clear hb2); (try clear hk); (try clear hi))); try go_wp2_with (first | (go_at_call 88; (with_reducible refine (spec_l2Window.calls k _ _ l0_0 a0_1 a0_2 a0_3 a0_4 false _ ?side1 ?side2 A4.out).mono ?_); (case side1 => repeat (first | exact (Kd.C_below HR0_0.out HB.out) | (with_reducible refine Kd.C_alloc ?_ _) | (with_reducible refine Kd.C_drewN ?_ _) | (with_reducible refine Kd.C_drew ?_))); (case side2 => exact HC0_0.out); rintro e w15 ⟨rfl, hb⟩; have n0_ := Aside0.mk (blk_below (g := gb881) (o := .cells #[.slice A0_0 l0_0.length c0_0, .int .i64 a0_1, .int .i64 a0_2, .int .i64 a0_3, .int .i64 a0_4, .int .i64 a0_5, .slice A0_6 l0_6.length c0_6] 51 (0, 0)) (by (with_reducible repeat (first | refine blk_drewN ?_ _ | refine blk_drew ?_ | refine blk_alloc ?_ _)); exact BK881.out) hb); have n1_ := Aside0.mk (below_step (by repeat (first | (with_reducible first | exact HB.out | apply below_alloc | apply pw_below_drewN | apply below_drew1 | refine below_set ?_ GE881.out) | exact HB.out)) hb); clear BK881; clear HB; have BK881 := n0_; have HB := n1_; clear n0_ n1_; (try clear hb); (try clear hb2); (try clear hk); (try clear hi))))
      go_meet
      case rel => exact ⟨_, (true), (by first | rfl | (simp; done) | (simp [*]; done)), H', ⟨by first | omega | exact Nat.le_refl _⟩, ⟨by (with_reducible repeat (first | refine blk_drewN ?_ _ | refine blk_drew ?_ | refine blk_alloc ?_ _)); exact BK881.out⟩, ⟨by repeat (first | (with_reducible first | exact HB.out | apply below_alloc | apply pw_below_drewN | apply below_drew1 | refine below_set ?_ GE881.out) | exact HB.out)⟩⟩
  case rest =>
    clear HC2
    try clear c1
    try clear p2
    try clear c5
    try clear c7
    try clear c11
    try clear hcz10_0
    try clear hcz10_1
    try clear hcz10_2
    try clear hcz10_3
    try clear hcz10_4
    try clear hcz10_5
    try clear hcz10_6
    try clear hcz11_0
    try clear hcz11_1
    try clear hcz11_2
    try clear hcz11_3
    try clear hcz11_4
    try clear hcz11_5
    try clear hcz11_6
    try clear hcz13_0
    try clear hcz13_1
    try clear hcz13_2
    try clear hcz13_3
    try clear hcz13_4
    try clear hcz13_5
    try clear hcz13_6
    try clear hcz14_0
    try clear hcz14_1
    try clear hcz14_2
    try clear hcz14_3
    try clear hcz14_4
    try clear hcz14_5
    try clear hcz14_6
    try clear hcz8_0
    try clear hcz8_1
    try clear hcz8_2
    try clear hcz8_3
    try clear hcz8_4
    try clear hcz8_5
    try clear hcz8_6
    try clear hfz10_0
    try clear hfz10_1
    try clear hfz10_2
    try clear hfz10_3
    try clear hfz10_4
    try clear hfz10_5
    try clear hfz10_6
    try clear hfz11_0
    try clear hfz11_1
    try clear hfz11_2
    try clear hfz11_3
    try clear hfz11_4
    try clear hfz11_5
    try clear hfz11_6
    try clear hfz13_0
    try clear hfz13_1
    try clear hfz13_2
    try clear hfz13_3
    try clear hfz13_4
    try clear hfz13_5
    try clear hfz13_6
    try clear hfz14_0
    try clear hfz14_1
    try clear hfz14_2
    try clear hfz14_3
    try clear hfz14_4
    try clear hfz14_5
    try clear hfz14_6
    try clear hfz8_0
    try clear hfz8_1
    try clear hfz8_2
    try clear hfz8_3
    try clear hfz8_4
    try clear hfz8_5
    try clear hfz8_6
    obtain ⟨kq, x24_1, rfl, HA, HJ1, BK881, HB⟩ := hcut
    cases kq with
    | zero => exact absurd HA.out (by simp [spec_l8Arena.j0])
    | succ kj1 =>
      have H := HA.out
      clear HA
      simp only [spec_l8Arena.j0] at H
      by_cases c16 : x24_1 = true
      · subst c16
        have H1 : (some false) = some r := by rw [if_pos rfl] at H; exact H
        clear H
        have H := H1
        clear H1
        obtain rfl := Option.some.inj H
        go_wp2
        repeat (go_quiet (fail); try go_wp2)
        go_ret
        exact ⟨by first | rfl | (simp [errW_none, errW_some] <;> rfl) | (simp [*, errW_none, errW_some] <;> rfl), by repeat (first | (with_reducible first | exact HB.out | apply below_alloc | apply pw_below_drewN | apply below_drew1 | refine below_set ?_ GE881.out) | exact HB.out)⟩
      · replace c16 := Bool.eq_false_iff.mpr c16
        subst c16
        have H1 : (spec_l8Arena.l0 kj1 0 l0_0 a0_1 a0_2 a0_3 a0_4 a0_5 l0_6) = some r := by rw [if_neg (show ¬ (false = true) by decide)] at H; exact H
        clear H
        have H := H1
        clear H1
        have H' := Aside0.mk H
        clear H
        go_wp2
        repeat (go_quiet (fail); try go_wp2)
        go_loopg [3] kj1 (fun kq v3 w' => ∃ (x3_2 : Int), v3 = .int .i64 x3_2 ∧ Aside0 (spec_l8Arena.l0 kq x3_2 l0_0 a0_1 a0_2 a0_3 a0_4 a0_5 l0_6 = some r) ∧ Aside0 (kq ≤ kj1) ∧ Aside0 (w'.heap[gb881]? = some (.cells #[(.slice A0_0 l0_0.length c0_0), .int .i64 a0_1, .int .i64 a0_2, .int .i64 a0_3, .int .i64 a0_4, .int .i64 a0_5, (.slice A0_6 l0_6.length c0_6)] 51 (0, 0))) ∧ Aside0 (Below w.heap.size w w'))
        case atStart => exact ⟨(0), (by first | rfl | (simp; done) | (simp [*]; done)), H', ⟨Nat.le_refl _⟩, ⟨by (with_reducible repeat (first | refine blk_drewN ?_ _ | refine blk_drew ?_ | refine blk_alloc ?_ _)); exact BK881.out⟩, ⟨by repeat (first | (with_reducible first | exact HB.out | apply below_alloc | apply pw_below_drewN | apply below_drew1 | refine below_set ?_ GE881.out) | exact HB.out)⟩⟩
        case round =>
          clear H'
          try clear c1
          try clear p2
          try clear c5
          try clear c7
          try clear c11
          try clear c16
          try clear hcz10_0
          try clear hcz10_1
          try clear hcz10_2
          try clear hcz10_3
          try clear hcz10_4
          try clear hcz10_5
          try clear hcz10_6
          try clear hcz11_0
          try clear hcz11_1
          try clear hcz11_2
          try clear hcz11_3
          try clear hcz11_4
          try clear hcz11_5
          try clear hcz11_6
          try clear hcz13_0
          try clear hcz13_1
          try clear hcz13_2
          try clear hcz13_3
          try clear hcz13_4
          try clear hcz13_5
          try clear hcz13_6
          try clear hcz14_0
          try clear hcz14_1
          try clear hcz14_2
          try clear hcz14_3
          try clear hcz14_4
          try clear hcz14_5
          try clear hcz14_6
          try clear hcz8_0
          try clear hcz8_1
          try clear hcz8_2
          try clear hcz8_3
          try clear hcz8_4
          try clear hcz8_5
          try clear hcz8_6
          try clear hfz10_0
          try clear hfz10_1
          try clear hfz10_2
          try clear hfz10_3
          try clear hfz10_4
          try clear hfz10_5
          try clear hfz10_6
          try clear hfz11_0
          try clear hfz11_1
          try clear hfz11_2
          try clear hfz11_3
          try clear hfz11_4
          try clear hfz11_5
          try clear hfz11_6
          try clear hfz13_0
          try clear hfz13_1
          try clear hfz13_2
          try clear hfz13_3
          try clear hfz13_4
          try clear hfz13_5
          try clear hfz13_6
          try clear hfz14_0
          try clear hfz14_1
          try clear hfz14_2
          try clear hfz14_3
          try clear hfz14_4
          try clear hfz14_5
          try clear hfz14_6
          try clear hfz8_0
          try clear hfz8_1
          try clear hfz8_2
          try clear hfz8_3
          try clear hfz8_4
          try clear hfz8_5
          try clear hfz8_6
          try clear p2
          obtain ⟨x3_2, rfl, HA, HK2, BK881, HB⟩ := hrel
          cases gk with
          | zero => exact absurd HA.out (by simp [spec_l8Arena.l0])
          | succ k2 =>
            have H := HA.out
            clear HA
            simp only [spec_l8Arena.l0] at H
            by_cases c17 : x3_2 < (l0_6.length : Int)
            · rw [if_pos c17] at H
              have c17b0 : decide (x3_2 < (l0_6.length : Int)) = true := decide_eq_true c17
              clear c17
              by_cases c18 : 0 ≤ x3_2
              · rw [if_pos c18] at H
                have c18b0 : decide (0 ≤ x3_2) = true := decide_eq_true c18
                clear c18
                replace H := Option.bind_eq_some_iff.mp H
                obtain ⟨t885, A190, H⟩ := H
                replace H : (if t885 = true then (if x3_2 > 0 then (if 0 ≤ (wrap64 (x3_2 - 1)) then (if (wrap64 (x3_2 - 1)) < (l0_6.length : Int) then (if (rd l0_6 (wrap64 (x3_2 - 1))) > (rd l0_6 x3_2) then (some false) else (spec_l8Arena.l0 k2 (wrap64 (x3_2 + 1)) l0_0 a0_1 a0_2 a0_3 a0_4 a0_5 l0_6)) else (none)) else (none)) else (spec_l8Arena.l0 k2 (wrap64 (x3_2 + 1)) l0_0 a0_1 a0_2 a0_3 a0_4 a0_5 l0_6)) else (some false)) = some r := H
                have A19 := Aside0.mk A190
                clear A190
                by_cases c20 : t885 = true
                · subst c20
                  have H1 : (if x3_2 > 0 then (if 0 ≤ (wrap64 (x3_2 - 1)) then (if (wrap64 (x3_2 - 1)) < (l0_6.length : Int) then (if (rd l0_6 (wrap64 (x3_2 - 1))) > (rd l0_6 x3_2) then (some false) else (spec_l8Arena.l0 k2 (wrap64 (x3_2 + 1)) l0_0 a0_1 a0_2 a0_3 a0_4 a0_5 l0_6)) else (none)) else (none)) else (spec_l8Arena.l0 k2 (wrap64 (x3_2 + 1)) l0_0 a0_1 a0_2 a0_3 a0_4 a0_5 l0_6)) = some r := by rw [if_pos rfl] at H; exact H
                  clear H
                  have H := H1
                  clear H1
                  by_cases c21 : x3_2 > 0
                  · rw [if_pos c21] at H
                    have c21b0 : decide (0 < x3_2) = true := decide_eq_true c21
                    clear c21
                    obtain ⟨ji22, hji22⟩ : ∃ j_ : Int, (wrap64 (x3_2 - 1)) = j_ := ⟨_, rfl⟩
                    replace H : (if 0 ≤ (ji22) then (if (ji22) < (l0_6.length : Int) then (if (rd l0_6 (ji22)) > (rd l0_6 x3_2) then (some false) else (spec_l8Arena.l0 k2 (wrap64 (x3_2 + 1)) l0_0 a0_1 a0_2 a0_3 a0_4 a0_5 l0_6)) else (none)) else (none)) = some r := by first | (rw [hji22] at H; exact H) | (simp only [hji22] at H ⊢; exact H)
                    (try rw [hji22] at A19)
                    have hji22w : (IntKind.i64.wrap (x3_2 - 1)) = ji22 := (i64_w _).trans hji22
                    by_cases c23 : 0 ≤ (ji22)
                    · rw [if_pos c23] at H
                      have c23b0 : decide (0 ≤ (ji22)) = true := decide_eq_true c23
                      clear c23
                      by_cases c24 : (ji22) < (l0_6.length : Int)
                      · rw [if_pos c24] at H
                        have c24b0 : decide ((ji22) < (l0_6.length : Int)) = true := decide_eq_true c24
                        clear c24
                        by_cases c25 : (rd l0_6 (ji22)) > (rd l0_6 x3_2)
                        · rw [if_pos c25] at H
                          have c25b0 : decide ((rd l0_6 x3_2) < (rd l0_6 (ji22))) = true := decide_eq_true c25
                          clear c25
                          obtain rfl := Option.some.inj H
                          have hcz26_0 : wr.cell? ⟨gb881, 0, none⟩ = some (.slice A0_0 l0_0.length c0_0) := (blk_cell BK881.out 0).trans rfl
                          have hcz26_1 : wr.cell? ⟨gb881, 1, none⟩ = some (.int .i64 a0_1) := (blk_cell BK881.out 1).trans rfl
                          have hcz26_2 : wr.cell? ⟨gb881, 2, none⟩ = some (.int .i64 a0_2) := (blk_cell BK881.out 2).trans rfl
                          have hcz26_3 : wr.cell? ⟨gb881, 3, none⟩ = some (.int .i64 a0_3) := (blk_cell BK881.out 3).trans rfl
                          have hcz26_4 : wr.cell? ⟨gb881, 4, none⟩ = some (.int .i64 a0_4) := (blk_cell BK881.out 4).trans rfl
                          have hcz26_5 : wr.cell? ⟨gb881, 5, none⟩ = some (.int .i64 a0_5) := (blk_cell BK881.out 5).trans rfl
                          have hcz26_6 : wr.cell? ⟨gb881, 6, none⟩ = some (.slice A0_6 l0_6.length c0_6) := (blk_cell BK881.out 6).trans rfl
                          have hfz26_0 := blk_frozen BK881.out 0
                          have hfz26_1 := blk_frozen BK881.out 1
                          have hfz26_2 := blk_frozen BK881.out 2
                          have hfz26_3 := blk_frozen BK881.out 3
                          have hfz26_4 := blk_frozen BK881.out 4
                          have hfz26_5 := blk_frozen BK881.out 5
                          have hfz26_6 := blk_frozen BK881.out 6
                          have p884 : 0 ≤ (x3_2 : Int) := of_decide_eq_true (by first | (with_reducible assumption) | assumption)
                          have q884 : x3_2 < (l0_6.length : Int) := of_decide_eq_true (by first | (with_reducible assumption) | assumption)
                          obtain ⟨ad884, e884, hx884_0⟩ := Kd.at_int HR0_6.out x3_2 p884 q884
                          cases e884
                          replace hx884_0 := (HB.out.cell (World.block_lt_of_cell? w _ hx884_0)).trans hx884_0
                          replace p884 := eq_true p884
                          replace q884 := eq_true q884
                          go_wp2_with (first | (go_at_call 133; (with_reducible refine (spec_l1In.calls (rd l0_6 x3_2) 0 a0_5 true _ A19.out).mono ?_); rintro e w' ⟨rfl, ⟨nd, rfl⟩⟩; (try first | exact ⟨rfl, _, World.drewN_drewN _ _ _⟩ | exact ⟨rfl, _, Eq.trans (World.drewN_drewN _ _ _) (congrArg (World.drewN _) (Nat.add_assoc _ _ _))⟩); have p886 : 0 ≤ ((ji22) : Int) := of_decide_eq_true (by first | (with_reducible assumption) | assumption); have q886 : (ji22) < (l0_6.length : Int) := of_decide_eq_true (by first | (with_reducible assumption) | assumption); obtain ⟨ad886, e886, hx886_0⟩ := Kd.at_int HR0_6.out (ji22) p886 q886; obtain rfl : ad884 = ad886 := (by injection e886); replace hx886_0 := (HB.out.cell (World.block_lt_of_cell? w _ hx886_0)).trans hx886_0; replace p886 := eq_true p886; replace q886 := eq_true q886; have p887 : 0 ≤ (x3_2 : Int) := of_decide_eq_true (by first | (with_reducible assumption) | assumption); have q887 : x3_2 < (l0_6.length : Int) := of_decide_eq_true (by first | (with_reducible assumption) | assumption); obtain ⟨ad887, e887, hx887_0⟩ := Kd.at_int HR0_6.out x3_2 p887 q887; obtain rfl : ad884 = ad887 := (by injection e887); replace hx887_0 := (HB.out.cell (World.block_lt_of_cell? w _ hx887_0)).trans hx887_0; replace p887 := eq_true p887; replace q887 := eq_true q887))
                          repeat (go_quiet (first | (go_at_call 133; (with_reducible refine (spec_l1In.calls (rd l0_6 x3_2) 0 a0_5 true _ A19.out).mono ?_); rintro e w' ⟨rfl, ⟨nd, rfl⟩⟩; (try first | exact ⟨rfl, _, World.drewN_drewN _ _ _⟩ | exact ⟨rfl, _, Eq.trans (World.drewN_drewN _ _ _) (congrArg (World.drewN _) (Nat.add_assoc _ _ _))⟩); have p886 : 0 ≤ ((ji22) : Int) := of_decide_eq_true (by first | (with_reducible assumption) | assumption); have q886 : (ji22) < (l0_6.length : Int) := of_decide_eq_true (by first | (with_reducible assumption) | assumption); obtain ⟨ad886, e886, hx886_0⟩ := Kd.at_int HR0_6.out (ji22) p886 q886; obtain rfl : ad884 = ad886 := (by injection e886); replace hx886_0 := (HB.out.cell (World.block_lt_of_cell? w _ hx886_0)).trans hx886_0; replace p886 := eq_true p886; replace q886 := eq_true q886; have p887 : 0 ≤ (x3_2 : Int) := of_decide_eq_true (by first | (with_reducible assumption) | assumption); have q887 : x3_2 < (l0_6.length : Int) := of_decide_eq_true (by first | (with_reducible assumption) | assumption); obtain ⟨ad887, e887, hx887_0⟩ := Kd.at_int HR0_6.out x3_2 p887 q887; obtain rfl : ad884 = ad887 := (by injection e887); replace hx887_0 := (HB.out.cell (World.block_lt_of_cell? w _ hx887_0)).trans hx887_0; replace p887 := eq_true p887; replace q887 := eq_true q887)); try go_wp2_with (first | (go_at_call 133; (with_reducible refine (spec_l1In.calls (rd l0_6 x3_2) 0 a0_5 true _ A19.out).mono ?_); rintro e w' ⟨rfl, ⟨nd, rfl⟩⟩; (try first | exact ⟨rfl, _, World.drewN_drewN _ _ _⟩ | exact ⟨rfl, _, Eq.trans (World.drewN_drewN _ _ _) (congrArg (World.drewN _) (Nat.add_assoc _ _ _))⟩); have p886 : 0 ≤ ((ji22) : Int) := of_decide_eq_true (by first | (with_reducible assumption) | assumption); have q886 : (ji22) < (l0_6.length : Int) := of_decide_eq_true (by first | (with_reducible assumption) | assumption); obtain ⟨ad886, e886, hx886_0⟩ := Kd.at_int HR0_6.out (ji22) p886 q886; obtain rfl : ad884 = ad886 := (by injection e886); replace hx886_0 := (HB.out.cell (World.block_lt_of_cell? w _ hx886_0)).trans hx886_0; replace p886 := eq_true p886; replace q886 := eq_true q886; have p887 : 0 ≤ (x3_2 : Int) := of_decide_eq_true (by first | (with_reducible assumption) | assumption); have q887 : x3_2 < (l0_6.length : Int) := of_decide_eq_true (by first | (with_reducible assumption) | assumption); obtain ⟨ad887, e887, hx887_0⟩ := Kd.at_int HR0_6.out x3_2 p887 q887; obtain rfl : ad884 = ad887 := (by injection e887); replace hx887_0 := (HB.out.cell (World.block_lt_of_cell? w _ hx887_0)).trans hx887_0; replace p887 := eq_true p887; replace q887 := eq_true q887)))
                          go_ret
                          exact ⟨by first | rfl | (simp [errW_none, errW_some] <;> rfl) | (simp only [← hji22]; first | rfl | (simp [errW_none, errW_some] <;> rfl)) | (simp [*, errW_none, errW_some] <;> rfl), by repeat (first | (with_reducible first | exact HB.out | apply below_alloc | apply pw_below_drewN | apply below_drew1 | refine below_set ?_ GE881.out) | exact HB.out)⟩
                        · rw [if_neg c25] at H
                          have c25b0 : decide ((rd l0_6 x3_2) < (rd l0_6 (ji22))) = false := decide_eq_false c25
                          clear c25
                          have H' := Aside0.mk H
                          clear H
                          have hcz27_0 : wr.cell? ⟨gb881, 0, none⟩ = some (.slice A0_0 l0_0.length c0_0) := (blk_cell BK881.out 0).trans rfl
                          have hcz27_1 : wr.cell? ⟨gb881, 1, none⟩ = some (.int .i64 a0_1) := (blk_cell BK881.out 1).trans rfl
                          have hcz27_2 : wr.cell? ⟨gb881, 2, none⟩ = some (.int .i64 a0_2) := (blk_cell BK881.out 2).trans rfl
                          have hcz27_3 : wr.cell? ⟨gb881, 3, none⟩ = some (.int .i64 a0_3) := (blk_cell BK881.out 3).trans rfl
                          have hcz27_4 : wr.cell? ⟨gb881, 4, none⟩ = some (.int .i64 a0_4) := (blk_cell BK881.out 4).trans rfl
                          have hcz27_5 : wr.cell? ⟨gb881, 5, none⟩ = some (.int .i64 a0_5) := (blk_cell BK881.out 5).trans rfl
                          have hcz27_6 : wr.cell? ⟨gb881, 6, none⟩ = some (.slice A0_6 l0_6.length c0_6) := (blk_cell BK881.out 6).trans rfl
                          have hfz27_0 := blk_frozen BK881.out 0
                          have hfz27_1 := blk_frozen BK881.out 1
                          have hfz27_2 := blk_frozen BK881.out 2
                          have hfz27_3 := blk_frozen BK881.out 3
                          have hfz27_4 := blk_frozen BK881.out 4
                          have hfz27_5 := blk_frozen BK881.out 5
                          have hfz27_6 := blk_frozen BK881.out 6
                          have p884 : 0 ≤ (x3_2 : Int) := of_decide_eq_true (by first | (with_reducible assumption) | assumption)
                          have q884 : x3_2 < (l0_6.length : Int) := of_decide_eq_true (by first | (with_reducible assumption) | assumption)
                          obtain ⟨ad884, e884, hx884_0⟩ := Kd.at_int HR0_6.out x3_2 p884 q884
                          cases e884
                          replace hx884_0 := (HB.out.cell (World.block_lt_of_cell? w _ hx884_0)).trans hx884_0
                          replace p884 := eq_true p884
                          replace q884 := eq_true q884
                          go_wp2_with (first | (go_at_call 133; (with_reducible refine (spec_l1In.calls (rd l0_6 x3_2) 0 a0_5 true _ A19.out).mono ?_); rintro e w' ⟨rfl, ⟨nd, rfl⟩⟩; (try first | exact ⟨rfl, _, World.drewN_drewN _ _ _⟩ | exact ⟨rfl, _, Eq.trans (World.drewN_drewN _ _ _) (congrArg (World.drewN _) (Nat.add_assoc _ _ _))⟩); have p886 : 0 ≤ ((ji22) : Int) := of_decide_eq_true (by first | (with_reducible assumption) | assumption); have q886 : (ji22) < (l0_6.length : Int) := of_decide_eq_true (by first | (with_reducible assumption) | assumption); obtain ⟨ad886, e886, hx886_0⟩ := Kd.at_int HR0_6.out (ji22) p886 q886; obtain rfl : ad884 = ad886 := (by injection e886); replace hx886_0 := (HB.out.cell (World.block_lt_of_cell? w _ hx886_0)).trans hx886_0; replace p886 := eq_true p886; replace q886 := eq_true q886; have p887 : 0 ≤ (x3_2 : Int) := of_decide_eq_true (by first | (with_reducible assumption) | assumption); have q887 : x3_2 < (l0_6.length : Int) := of_decide_eq_true (by first | (with_reducible assumption) | assumption); obtain ⟨ad887, e887, hx887_0⟩ := Kd.at_int HR0_6.out x3_2 p887 q887; obtain rfl : ad884 = ad887 := (by injection e887); replace hx887_0 := (HB.out.cell (World.block_lt_of_cell? w _ hx887_0)).trans hx887_0; replace p887 := eq_true p887; replace q887 := eq_true q887))
                          repeat (go_quiet (first | (go_at_call 133; (with_reducible refine (spec_l1In.calls (rd l0_6 x3_2) 0 a0_5 true _ A19.out).mono ?_); rintro e w' ⟨rfl, ⟨nd, rfl⟩⟩; (try first | exact ⟨rfl, _, World.drewN_drewN _ _ _⟩ | exact ⟨rfl, _, Eq.trans (World.drewN_drewN _ _ _) (congrArg (World.drewN _) (Nat.add_assoc _ _ _))⟩); have p886 : 0 ≤ ((ji22) : Int) := of_decide_eq_true (by first | (with_reducible assumption) | assumption); have q886 : (ji22) < (l0_6.length : Int) := of_decide_eq_true (by first | (with_reducible assumption) | assumption); obtain ⟨ad886, e886, hx886_0⟩ := Kd.at_int HR0_6.out (ji22) p886 q886; obtain rfl : ad884 = ad886 := (by injection e886); replace hx886_0 := (HB.out.cell (World.block_lt_of_cell? w _ hx886_0)).trans hx886_0; replace p886 := eq_true p886; replace q886 := eq_true q886; have p887 : 0 ≤ (x3_2 : Int) := of_decide_eq_true (by first | (with_reducible assumption) | assumption); have q887 : x3_2 < (l0_6.length : Int) := of_decide_eq_true (by first | (with_reducible assumption) | assumption); obtain ⟨ad887, e887, hx887_0⟩ := Kd.at_int HR0_6.out x3_2 p887 q887; obtain rfl : ad884 = ad887 := (by injection e887); replace hx887_0 := (HB.out.cell (World.block_lt_of_cell? w _ hx887_0)).trans hx887_0; replace p887 := eq_true p887; replace q887 := eq_true q887)); try go_wp2_with (first | (go_at_call 133; (with_reducible refine (spec_l1In.calls (rd l0_6 x3_2) 0 a0_5 true _ A19.out).mono ?_); rintro e w' ⟨rfl, ⟨nd, rfl⟩⟩; (try first | exact ⟨rfl, _, World.drewN_drewN _ _ _⟩ | exact ⟨rfl, _, Eq.trans (World.drewN_drewN _ _ _) (congrArg (World.drewN _) (Nat.add_assoc _ _ _))⟩); have p886 : 0 ≤ ((ji22) : Int) := of_decide_eq_true (by first | (with_reducible assumption) | assumption); have q886 : (ji22) < (l0_6.length : Int) := of_decide_eq_true (by first | (with_reducible assumption) | assumption); obtain ⟨ad886, e886, hx886_0⟩ := Kd.at_int HR0_6.out (ji22) p886 q886; obtain rfl : ad884 = ad886 := (by injection e886); replace hx886_0 := (HB.out.cell (World.block_lt_of_cell? w _ hx886_0)).trans hx886_0; replace p886 := eq_true p886; replace q886 := eq_true q886; have p887 : 0 ≤ (x3_2 : Int) := of_decide_eq_true (by first | (with_reducible assumption) | assumption); have q887 : x3_2 < (l0_6.length : Int) := of_decide_eq_true (by first | (with_reducible assumption) | assumption); obtain ⟨ad887, e887, hx887_0⟩ := Kd.at_int HR0_6.out x3_2 p887 q887; obtain rfl : ad884 = ad887 := (by injection e887); replace hx887_0 := (HB.out.cell (World.block_lt_of_cell? w _ hx887_0)).trans hx887_0; replace p887 := eq_true p887; replace q887 := eq_true q887)))
                          go_roundg k2
                          case measure => have := HJ1.out; have := HK2.out; omega
                          case rel => exact ⟨(wrap64 (x3_2 + 1)), (by first | rfl | (simp; done) | (simp [*]; done)), H', ⟨by have := HJ1.out; have := HK2.out; omega⟩, ⟨by (with_reducible repeat (first | refine blk_drewN ?_ _ | refine blk_drew ?_ | refine blk_alloc ?_ _)); exact BK881.out⟩, ⟨by repeat (first | (with_reducible first | exact HB.out | apply below_alloc | apply pw_below_drewN | apply below_drew1 | refine below_set ?_ GE881.out) | exact HB.out)⟩⟩
                      · rw [if_neg c24] at H
                        exact absurd H (by simp)
                    · rw [if_neg c23] at H
                      exact absurd H (by simp)
                  · rw [if_neg c21] at H
                    have c21b0 : decide (0 < x3_2) = false := decide_eq_false c21
                    clear c21
                    have H' := Aside0.mk H
                    clear H
                    have hcz28_0 : wr.cell? ⟨gb881, 0, none⟩ = some (.slice A0_0 l0_0.length c0_0) := (blk_cell BK881.out 0).trans rfl
                    have hcz28_1 : wr.cell? ⟨gb881, 1, none⟩ = some (.int .i64 a0_1) := (blk_cell BK881.out 1).trans rfl
                    have hcz28_2 : wr.cell? ⟨gb881, 2, none⟩ = some (.int .i64 a0_2) := (blk_cell BK881.out 2).trans rfl
                    have hcz28_3 : wr.cell? ⟨gb881, 3, none⟩ = some (.int .i64 a0_3) := (blk_cell BK881.out 3).trans rfl
                    have hcz28_4 : wr.cell? ⟨gb881, 4, none⟩ = some (.int .i64 a0_4) := (blk_cell BK881.out 4).trans rfl
                    have hcz28_5 : wr.cell? ⟨gb881, 5, none⟩ = some (.int .i64 a0_5) := (blk_cell BK881.out 5).trans rfl
                    have hcz28_6 : wr.cell? ⟨gb881, 6, none⟩ = some (.slice A0_6 l0_6.length c0_6) := (blk_cell BK881.out 6).trans rfl
                    have hfz28_0 := blk_frozen BK881.out 0
                    have hfz28_1 := blk_frozen BK881.out 1
                    have hfz28_2 := blk_frozen BK881.out 2
                    have hfz28_3 := blk_frozen BK881.out 3
                    have hfz28_4 := blk_frozen BK881.out 4
                    have hfz28_5 := blk_frozen BK881.out 5
                    have hfz28_6 := blk_frozen BK881.out 6
                    have p884 : 0 ≤ (x3_2 : Int) := of_decide_eq_true (by first | (with_reducible assumption) | assumption)
                    have q884 : x3_2 < (l0_6.length : Int) := of_decide_eq_true (by first | (with_reducible assumption) | assumption)
                    obtain ⟨ad884, e884, hx884_0⟩ := Kd.at_int HR0_6.out x3_2 p884 q884
                    cases e884
                    replace hx884_0 := (HB.out.cell (World.block_lt_of_cell? w _ hx884_0)).trans hx884_0
                    replace p884 := eq_true p884
                    replace q884 := eq_true q884
                    go_wp2_with (first | (go_at_call 133; (with_reducible refine (spec_l1In.calls (rd l0_6 x3_2) 0 a0_5 true _ A19.out).mono ?_); rintro e w' ⟨rfl, ⟨nd, rfl⟩⟩; (try first | exact ⟨rfl, _, World.drewN_drewN _ _ _⟩ | exact ⟨rfl, _, Eq.trans (World.drewN_drewN _ _ _) (congrArg (World.drewN _) (Nat.add_assoc _ _ _))⟩)))
                    repeat (go_quiet (first | (go_at_call 133; (with_reducible refine (spec_l1In.calls (rd l0_6 x3_2) 0 a0_5 true _ A19.out).mono ?_); rintro e w' ⟨rfl, ⟨nd, rfl⟩⟩; (try first | exact ⟨rfl, _, World.drewN_drewN _ _ _⟩ | exact ⟨rfl, _, Eq.trans (World.drewN_drewN _ _ _) (congrArg (World.drewN _) (Nat.add_assoc _ _ _))⟩))); try go_wp2_with (first | (go_at_call 133; (with_reducible refine (spec_l1In.calls (rd l0_6 x3_2) 0 a0_5 true _ A19.out).mono ?_); rintro e w' ⟨rfl, ⟨nd, rfl⟩⟩; (try first | exact ⟨rfl, _, World.drewN_drewN _ _ _⟩ | exact ⟨rfl, _, Eq.trans (World.drewN_drewN _ _ _) (congrArg (World.drewN _) (Nat.add_assoc _ _ _))⟩))))
                    go_roundg k2
                    case measure => have := HJ1.out; have := HK2.out; omega
                    case rel => exact ⟨(wrap64 (x3_2 + 1)), (by first | rfl | (simp; done) | (simp [*]; done)), H', ⟨by have := HJ1.out; have := HK2.out; omega⟩, ⟨by (with_reducible repeat (first | refine blk_drewN ?_ _ | refine blk_drew ?_ | refine blk_alloc ?_ _)); exact BK881.out⟩, ⟨by repeat (first | (with_reducible first | exact HB.out | apply below_alloc | apply pw_below_drewN | apply below_drew1 | refine below_set ?_ GE881.out) | exact HB.out)⟩⟩
                · replace c20 := Bool.eq_false_iff.mpr c20
                  subst c20
                  have H1 : (some false) = some r := by rw [if_neg (show ¬ (false = true) by decide)] at H; exact H
                  clear H
                  have H := H1
                  clear H1
                  obtain rfl := Option.some.inj H
                  have hcz29_0 : wr.cell? ⟨gb881, 0, none⟩ = some (.slice A0_0 l0_0.length c0_0) := (blk_cell BK881.out 0).trans rfl
                  have hcz29_1 : wr.cell? ⟨gb881, 1, none⟩ = some (.int .i64 a0_1) := (blk_cell BK881.out 1).trans rfl
                  have hcz29_2 : wr.cell? ⟨gb881, 2, none⟩ = some (.int .i64 a0_2) := (blk_cell BK881.out 2).trans rfl
                  have hcz29_3 : wr.cell? ⟨gb881, 3, none⟩ = some (.int .i64 a0_3) := (blk_cell BK881.out 3).trans rfl
                  have hcz29_4 : wr.cell? ⟨gb881, 4, none⟩ = some (.int .i64 a0_4) := (blk_cell BK881.out 4).trans rfl
                  have hcz29_5 : wr.cell? ⟨gb881, 5, none⟩ = some (.int .i64 a0_5) := (blk_cell BK881.out 5).trans rfl
                  have hcz29_6 : wr.cell? ⟨gb881, 6, none⟩ = some (.slice A0_6 l0_6.length c0_6) := (blk_cell BK881.out 6).trans rfl
                  have hfz29_0 := blk_frozen BK881.out 0
                  have hfz29_1 := blk_frozen BK881.out 1
                  have hfz29_2 := blk_frozen BK881.out 2
                  have hfz29_3 := blk_frozen BK881.out 3
                  have hfz29_4 := blk_frozen BK881.out 4
                  have hfz29_5 := blk_frozen BK881.out 5
                  have hfz29_6 := blk_frozen BK881.out 6
                  have p884 : 0 ≤ (x3_2 : Int) := of_decide_eq_true (by first | (with_reducible assumption) | assumption)
                  have q884 : x3_2 < (l0_6.length : Int) := of_decide_eq_true (by first | (with_reducible assumption) | assumption)
                  obtain ⟨ad884, e884, hx884_0⟩ := Kd.at_int HR0_6.out x3_2 p884 q884
                  cases e884
                  replace hx884_0 := (HB.out.cell (World.block_lt_of_cell? w _ hx884_0)).trans hx884_0
                  replace p884 := eq_true p884
                  replace q884 := eq_true q884
                  go_wp2_with (first | (go_at_call 133; (with_reducible refine (spec_l1In.calls (rd l0_6 x3_2) 0 a0_5 false _ A19.out).mono ?_); rintro e w' ⟨rfl, ⟨nd, rfl⟩⟩; (try first | exact ⟨rfl, _, World.drewN_drewN _ _ _⟩ | exact ⟨rfl, _, Eq.trans (World.drewN_drewN _ _ _) (congrArg (World.drewN _) (Nat.add_assoc _ _ _))⟩)))
                  repeat (go_quiet (first | (go_at_call 133; (with_reducible refine (spec_l1In.calls (rd l0_6 x3_2) 0 a0_5 false _ A19.out).mono ?_); rintro e w' ⟨rfl, ⟨nd, rfl⟩⟩; (try first | exact ⟨rfl, _, World.drewN_drewN _ _ _⟩ | exact ⟨rfl, _, Eq.trans (World.drewN_drewN _ _ _) (congrArg (World.drewN _) (Nat.add_assoc _ _ _))⟩))); try go_wp2_with (first | (go_at_call 133; (with_reducible refine (spec_l1In.calls (rd l0_6 x3_2) 0 a0_5 false _ A19.out).mono ?_); rintro e w' ⟨rfl, ⟨nd, rfl⟩⟩; (try first | exact ⟨rfl, _, World.drewN_drewN _ _ _⟩ | exact ⟨rfl, _, Eq.trans (World.drewN_drewN _ _ _) (congrArg (World.drewN _) (Nat.add_assoc _ _ _))⟩))))
                  go_ret
                  exact ⟨by first | rfl | (simp [errW_none, errW_some] <;> rfl) | (simp [*, errW_none, errW_some] <;> rfl), by repeat (first | (with_reducible first | exact HB.out | apply below_alloc | apply pw_below_drewN | apply below_drew1 | refine below_set ?_ GE881.out) | exact HB.out)⟩
              · rw [if_neg c18] at H
                exact absurd H (by simp)
            · rw [if_neg c17] at H
              have c17b0 : decide (x3_2 < (l0_6.length : Int)) = false := decide_eq_false c17
              clear c17
              obtain rfl := Option.some.inj H
              have hcz30_0 : wr.cell? ⟨gb881, 0, none⟩ = some (.slice A0_0 l0_0.length c0_0) := (blk_cell BK881.out 0).trans rfl
              have hcz30_1 : wr.cell? ⟨gb881, 1, none⟩ = some (.int .i64 a0_1) := (blk_cell BK881.out 1).trans rfl
              have hcz30_2 : wr.cell? ⟨gb881, 2, none⟩ = some (.int .i64 a0_2) := (blk_cell BK881.out 2).trans rfl
              have hcz30_3 : wr.cell? ⟨gb881, 3, none⟩ = some (.int .i64 a0_3) := (blk_cell BK881.out 3).trans rfl
              have hcz30_4 : wr.cell? ⟨gb881, 4, none⟩ = some (.int .i64 a0_4) := (blk_cell BK881.out 4).trans rfl
              have hcz30_5 : wr.cell? ⟨gb881, 5, none⟩ = some (.int .i64 a0_5) := (blk_cell BK881.out 5).trans rfl
              have hcz30_6 : wr.cell? ⟨gb881, 6, none⟩ = some (.slice A0_6 l0_6.length c0_6) := (blk_cell BK881.out 6).trans rfl
              have hfz30_0 := blk_frozen BK881.out 0
              have hfz30_1 := blk_frozen BK881.out 1
              have hfz30_2 := blk_frozen BK881.out 2
              have hfz30_3 := blk_frozen BK881.out 3
              have hfz30_4 := blk_frozen BK881.out 4
              have hfz30_5 := blk_frozen BK881.out 5
              have hfz30_6 := blk_frozen BK881.out 6
              go_wp2
              repeat (go_quiet (fail); try go_wp2)
              go_ret
              exact ⟨by first | rfl | (simp [errW_none, errW_some] <;> rfl) | (simp [*, errW_none, errW_some] <;> rfl), by repeat (first | (with_reducible first | exact HB.out | apply below_alloc | apply pw_below_drewN | apply below_drew1 | refine below_set ?_ GE881.out) | exact HB.out)⟩

end Go.Proofs.Ytoomjghabiojkaa.P


/- Arenas: what is valid. -/
namespace Go.Proofs.Ytoomjghabiojkaa.P
open Go.RowKit Go.Proofs.YtoomjghabiojkaaW.PrintWords Go.Proofs.YtoomjghabiojkaaW.Mine
set_option linter.unusedVariables false
def upB (u : Int) : List Int → Bool
  | [] => true
  | x :: xs => decide (0 ≤ x ∧ x ≤ u) && (match xs with | [] => true | y :: _ => decide (x ≤ y)) && upB u xs
def allB (u : Int) (l : List Int) : Bool := l.all (fun x => decide (0 ≤ x ∧ x ≤ u))
def riseB : List Int → Bool
  | [] => true
  | [_] => true
  | x :: y :: xs => decide (x ≤ y) && riseB (y :: xs)
theorem upB_eq (u : Int) (l : List Int) : upB u l = (allB u l && riseB l) := by
  induction l with
  | nil => rfl
  | cons x l ih =>
    cases l with
    | nil => simp [upB, allB, riseB]
    | cons y l =>
      rw [upB, ih]
      simp only [allB, riseB, List.all_cons]
      generalize decide (0 ≤ x ∧ x ≤ u) = a
      generalize decide (x ≤ y) = b
      generalize decide (0 ≤ y ∧ y ≤ u) = c
      generalize (l.all fun x => decide (0 ≤ x ∧ x ≤ u)) = d
      generalize riseB (y :: l) = e
      cases a <;> cases b <;> cases c <;> cases d <;> cases e <;> rfl
theorem allWithin_ev (lo hi : Int) (suf : List Int) : ∀ (pre : List Int), pre.length + suf.length ≤ 9223372036854775807 → Ev (fun k => impl_allWithin.l0 k lo hi (pre ++ suf) ((pre ++ suf).length : Int) (pre.length : Int)) (suf.all (fun x => decide (lo ≤ x ∧ x ≤ hi))) := by
  induction suf with
  | nil =>
    intro pre h
    refine Ev.step (fun k => ?_) (Ev.now _)
    simp [impl_allWithin.l0]
  | cons x suf ih =>
    intro pre h
    simp only [List.length_cons] at h
    have step : ∀ k, impl_allWithin.l0 (k + 1) lo hi (pre ++ x :: suf) ((pre ++ x :: suf).length : Int) (pre.length : Int) = if lo ≤ x ∧ x ≤ hi then impl_allWithin.l0 k lo hi ((pre ++ [x]) ++ suf) (((pre ++ [x]) ++ suf).length : Int) ((pre ++ [x]).length : Int) else some false := by
      intro k
      simp only [impl_allWithin.l0]
      rw [if_pos (by simp; omega), if_pos (by omega), if_pos (by simp; omega), rd_mid, within_f, Option.bind_some, wrap_len (by omega)]
      by_cases h : lo ≤ x ∧ x ≤ hi
      · rw [decide_eq_true h, if_pos rfl, if_pos h]; simp
      · rw [decide_eq_false h, if_neg (by simp), if_neg h]
    by_cases hx : lo ≤ x ∧ x ≤ hi
    · refine Ev.step (fun k => (step k).trans (if_pos hx)) ?_
      rw [List.all_cons, decide_eq_true hx, Bool.true_and]
      exact ih (pre ++ [x]) (by simp; omega)
    · refine Ev.step (fun k => (step k).trans (if_neg hx)) ?_
      rw [List.all_cons, decide_eq_false hx, Bool.false_and]
      exact Ev.now _
theorem allWithin_f (l : List Int) (lo hi : Int) (h : l.length ≤ 9223372036854775807) : Ev (fun k => impl_allWithin.f k l lo hi) (l.all (fun x => decide (lo ≤ x ∧ x ≤ hi))) := by
  have := allWithin_ev lo hi l [] (by simpa using h)
  simpa [impl_allWithin.f] using this
theorem cmpLess_f (a b : Int) : cmp_Less_int.f a b = some (decide (a < b)) := by simp [cmp_Less_int.f, cmp_isNaN_int.f]
theorem isSorted_ev (l : List Int) (hl : l.length ≤ 4611686018427387904) : ∀ (i : Nat), i < l.length → Ev (fun k => slices_IsSorted_int_int.l0 k l (i : Int)) (riseB (l.take (i + 1))) := by
  have snoc : ∀ (p : List Int) (x y : Int), riseB (p ++ [x, y]) = (riseB (p ++ [x]) && decide (x ≤ y)) := by
    intro p
    induction p with
    | nil => intro x y; simp [riseB]
    | cons a p ih =>
      intro x y
      cases p with
      | nil => simp [riseB]
      | cons b p =>
        have := ih x y
        simp only [List.cons_append, riseB] at this ⊢
        rw [this, Bool.and_assoc]
  intro i
  induction i with
  | zero =>
    intro hi
    refine Ev.step (fun k => ?_) (Ev.now _)
    cases l with
    | nil => simp at hi
    | cons x l => simp [slices_IsSorted_int_int.l0, riseB]
  | succ i ih =>
    intro hi
    have h0 := ih (by omega)
    have e1 : l.take (i + 1 + 1) = l.take i ++ [l[i], l[i + 1]] := by
      rw [List.take_succ_eq_append_getElem hi, List.take_succ_eq_append_getElem (by omega), List.append_assoc]
      rfl
    have e2 : l.take (i + 1) = l.take i ++ [l[i]] := List.take_succ_eq_append_getElem (by omega)
    have hr1 : rd l ((i + 1 : Nat) : Int) = l[i + 1] := by simp [rd, hi]
    have hr0 : rd l (i : Int) = l[i] := by simp [rd, show i < l.length by omega]
    have hw : wrap64 (((i + 1 : Nat) : Int) - 1) = (i : Int) := by rw [wrap_ok (by omega) (by omega)]; omega
    have step : ∀ k, slices_IsSorted_int_int.l0 (k + 1) l ((i + 1 : Nat) : Int) = if l[i + 1] < l[i] then some false else slices_IsSorted_int_int.l0 k l (i : Int) := by
      intro k
      simp only [slices_IsSorted_int_int.l0]
      rw [if_pos (by omega), if_pos (by omega), if_pos (by omega), hw, if_pos (by omega), if_pos (by omega), hr1, hr0, cmpLess_f, Option.bind_some]
      by_cases h : l[i + 1] < l[i]
      · rw [decide_eq_true h, if_pos rfl, if_pos h]
      · rw [decide_eq_false h, if_neg (by simp), if_neg h]
    rw [e1, snoc, ← e2]
    by_cases h : l[i + 1] < l[i]
    · refine Ev.step (fun k => (step k).trans (if_pos h)) ?_
      rw [decide_eq_false (by omega), Bool.and_false]
      exact Ev.now _
    · refine Ev.step (fun k => (step k).trans (if_neg h)) ?_
      rw [decide_eq_true (by omega), Bool.and_true]
      exact h0
theorem isSorted_f (l : List Int) (hl : l.length ≤ 4611686018427387904) : Ev (fun k => slices_IsSorted_int_int.f k l) (riseB l) := by
  unfold slices_IsSorted_int_int.f
  cases l with
  | nil =>
    refine Ev.step (fun k => ?_) (Ev.now _)
    simp [slices_IsSorted_int_int.l0, riseB, wrap64]
  | cons x l =>
    have := isSorted_ev (x :: l) hl l.length (by simp)
    rw [List.take_of_length_le (by simp)] at this
    have hw : wrap64 (((x :: l).length : Int) - 1) = (l.length : Int) := by simp only [List.length_cons] at hl ⊢; rw [wrap_ok (by omega) (by omega)]; omega
    rw [hw]
    exact this
def arenaB (m : List (List Int)) (a s n c u : Int) (l : List Int) : Bool := memB m && winB m a s n c && (decide (0 ≤ u ∧ u ≤ n) && decide (l.length ≤ 8)) && upB u l
theorem isArena_f (m : List (List Int)) (a s n c u : Int) (l : List Int) (hl : l.length ≤ 1048576) : Ev (fun k => impl_IsArena.f k m a s n c u l) (arenaB m a s n c u l) := by
  unfold impl_IsArena.f arenaB
  simp only [areOn1_f, Option.bind_some, within_f]
  rw [upB_eq]
  have jf : Ev (fun k => impl_IsArena.j0 k true m a s n c u l) false := Ev.step (fun k => by simp [impl_IsArena.j0]) (Ev.now _)
  by_cases h1 : (memB m && winB m a s n c) = true
  · simp only [h1, if_true, Bool.true_and]
    by_cases h2 : 0 ≤ u ∧ u ≤ n
    · simp only [decide_eq_true h2, if_true, Bool.true_and]
      by_cases h3 : l.length ≤ 8
      · rw [decide_eq_false (show ¬ ((l.length : Int) > 8) by omega), decide_eq_true h3, Bool.true_and]
        refine Ev.step (f := fun k => (impl_allWithin.f k l 0 u).bind fun t => if t = true then ((slices_IsSorted_int_int.f k l).bind fun t2 => some t2) else some false) (fun k => by simp [impl_IsArena.j0]) ?_
        refine Ev.bind (allWithin_f l 0 u (by omega)) ?_
        unfold allB
        cases (l.all fun x => decide (0 ≤ x ∧ x ≤ u))
        · exact Ev.now _
        · simp only [if_true, Bool.true_and]
          exact Ev.bind (isSorted_f l (by omega)) (Ev.now _)
      · rw [decide_eq_true (show ((l.length : Int) > 8) by omega), decide_eq_false h3, Bool.false_and]
        exact jf
    · simp only [decide_eq_false h2, Bool.false_eq_true, if_false, Bool.false_and]
      exact jf
  · have h1' := Bool.eq_false_iff.2 h1
    simp only [h1', Bool.false_eq_true, if_false, Bool.false_and]
    exact jf
def behB (o : Option Int) (u : Int) (l : List Int) : Bool := match o, l with
  | some z, y :: _ => decide (z ≤ y) && upB u l
  | _, _ => upB u l
theorem upB_cons (u x : Int) (suf : List Int) : upB u (x :: suf) = (decide (0 ≤ x ∧ x ≤ u) && behB (some x) u suf) := by
  cases suf with
  | nil => simp [upB, behB]
  | cons y suf => simp [upB, behB, Bool.and_assoc]
theorem behB_out (o : Option Int) (u x : Int) (suf : List Int) (h : ¬ (0 ≤ x ∧ x ≤ u)) : behB o u (x :: suf) = false := by
  have : upB u (x :: suf) = false := by rw [upB_cons, decide_eq_false h, Bool.false_and]
  cases o <;> simp [behB, this]
theorem l8Arena_ev (m : List (List Int)) (a s n c u : Int) (suf : List Int) : ∀ (pre : List Int), pre.length + suf.length ≤ 1048576 →
    Ev (fun k => spec_l8Arena.l0 k (pre.length : Int) m a s n c u (pre ++ suf)) (behB pre.getLast? u suf) := by
  induction suf with
  | nil =>
    intro pre h
    refine Ev.step (fun k => ?_) (Ev.now _)
    cases pre.getLast? <;> simp [spec_l8Arena.l0, behB, upB]
  | cons x suf ih =>
    intro pre h
    simp only [List.length_cons] at h
    have ih2 := ih (pre ++ [x]) (by simp; omega)
    have e3 : (pre ++ [x]) ++ suf = pre ++ x :: suf := by simp
    have e4 : (((pre ++ [x]).length : Nat) : Int) = (pre.length : Int) + 1 := by simp
    have e5 : (pre ++ [x]).getLast? = some x := by simp
    rw [e3, e4, e5] at ih2
    have hw1 : wrap64 ((pre.length : Int) + 1) = (pre.length : Int) + 1 := wrap_ok (by omega) (by omega)
    by_cases hx : 0 ≤ x ∧ x ≤ u
    · rcases List.eq_nil_or_concat pre with rfl | ⟨q, z, rfl⟩
      · have hr : behB ([] : List Int).getLast? u (x :: suf) = behB (some x) u suf := by
          show upB u (x :: suf) = _
          rw [upB_cons, decide_eq_true hx, Bool.true_and]
        rw [hr]
        refine Ev.step (f := fun k => spec_l8Arena.l0 k ((([] : List Int).length : Int) + 1) m a s n c u ([] ++ x :: suf)) (fun k => ?_) ih2
        simp only [spec_l8Arena.l0]
        rw [if_pos (by simp <;> omega), if_pos (by omega), rd_mid, l1In_f, Option.bind_some, decide_eq_true hx, if_pos rfl, if_neg (by simp), hw1]
      · simp only [List.concat_eq_append] at *
        simp only [List.length_append, List.length_cons, List.length_nil] at h
        have hw2 : wrap64 (((q ++ [z]).length : Int) - 1) = (q.length : Int) := by
          rw [List.length_append, List.length_singleton, wrap_ok (by omega) (by omega)]
          omega
        have hz : rd (q ++ [z] ++ x :: suf) (q.length : Int) = z := by rw [List.append_assoc, List.singleton_append, rd_mid]
        have hr : behB (q ++ [z]).getLast? u (x :: suf) = (decide (z ≤ x) && behB (some x) u suf) := by
          have : (q ++ [z]).getLast? = some z := by simp
          rw [this]
          show (decide (z ≤ x) && upB u (x :: suf)) = _
          rw [upB_cons, decide_eq_true hx, Bool.true_and]
        have step : ∀ k, spec_l8Arena.l0 (k + 1) ((q ++ [z]).length : Int) m a s n c u (q ++ [z] ++ x :: suf) = if z > x then some false else spec_l8Arena.l0 k (((q ++ [z]).length : Int) + 1) m a s n c u (q ++ [z] ++ x :: suf) := by
          intro k
          simp only [spec_l8Arena.l0]
          rw [if_pos (by simp <;> omega), if_pos (by omega), rd_mid, l1In_f, Option.bind_some, decide_eq_true hx, if_pos rfl, if_pos (by simp <;> omega), hw2, if_pos (by omega), if_pos (by simp <;> omega), hz, hw1]
        rw [hr]
        by_cases hzx : z > x
        · refine Ev.step (fun k => (step k).trans (if_pos hzx)) ?_
          rw [decide_eq_false (by omega), Bool.false_and]
          exact Ev.now _
        · refine Ev.step (fun k => (step k).trans (if_neg hzx)) ?_
          rw [decide_eq_true (by omega), Bool.true_and]
          exact ih2
    · rw [behB_out _ _ _ _ hx]
      refine Ev.step (fun k => ?_) (Ev.now _)
      simp only [spec_l8Arena.l0]
      rw [if_pos (by simp; omega), if_pos (by omega), rd_mid, l1In_f, Option.bind_some, decide_eq_false hx, if_neg (by simp)]
theorem l8Arena_f (m : List (List Int)) (a s n c u : Int) (l : List Int) (h : okM m) (hs : -9223372036854775808 ≤ s ∧ s ≤ 9223372036854775807) (hl : l.length ≤ 1048576) : Ev (fun k => spec_l8Arena.f k m a s n c u l) (arenaB m a s n c u l) := by
  refine Ev.bind (l2Window_f m a s n c h.len h.rows hs) ?_
  unfold arenaB
  simp only [l1In_f, Option.bind_some]
  have jf : Ev (fun k => spec_l8Arena.j0 k true m a s n c u l) false := Ev.step (fun k => by simp [spec_l8Arena.j0]) (Ev.now _)
  by_cases h1 : (memB m && winB m a s n c) = true
  · simp only [h1, if_true, Bool.true_and]
    by_cases h2 : 0 ≤ u ∧ u ≤ n
    · simp only [decide_eq_true h2, if_true, Bool.true_and]
      by_cases h3 : l.length ≤ 8
      · rw [decide_eq_false (show ¬ ((l.length : Int) > 8) by omega), decide_eq_true h3, Bool.true_and]
        refine Ev.step (f := fun k => spec_l8Arena.l0 k 0 m a s n c u l) (fun k => by simp [spec_l8Arena.j0]) ?_
        have := l8Arena_ev m a s n c u l [] (by simpa using hl)
        simpa [behB] using this
      · rw [decide_eq_true (show ((l.length : Int) > 8) by omega), decide_eq_false h3, Bool.false_and]
        exact jf
    · simp only [decide_eq_false h2, Bool.false_eq_true, if_false, Bool.false_and]
      exact jf
  · have h1' := Bool.eq_false_iff.2 h1
    simp only [h1', Bool.false_eq_true, if_false, Bool.false_and]
    exact jf
end Go.Proofs.Ytoomjghabiojkaa.P


namespace Go.Proofs.Ytoomjghabiojkaa.P
open Go.RowKit Go.Proofs.YtoomjghabiojkaaW.PrintWords Go.Proofs.YtoomjghabiojkaaW.PrintLast Go.Proofs.YtoomjghabiojkaaW.PrintMore
attribute [local go_sem] max2_int min2_int max_two min_two max_three min_three max_four min_four   -- for this text's walks alone
set_option linter.unusedVariables false
set_option linter.unusedSimpArgs false

def laws_szIntS.f (l0 : List Int) (a1 : Int) : Option (Int) := if (wrap64 (a1 - (l0.length : Int))) < 0 then (some (-1)) else (some (wrap64 (a1 - (l0.length : Int))))
set_option maxHeartbeats 8000000 in
set_option maxRecDepth 100000 in
theorem laws_szIntS.calls (A0 : Option Addr) (c0 : Nat) (l0 : List Int) (a1 : Int) (r : Int) (w : World) (hr0 : Kd.C (Kd.int .i64) w A0 l0.length l0) (hc0 : l0.length ≤ c0) (h : laws_szIntS.f l0 a1 = some r) :
    Calls Try.prog 116 #[.slice A0 l0.length c0, .int .i64 a1] w fun e w' => e = .returned (.int .i64 r) ∧ Drawn0 w w' := by
  have HR0 := Aside0.mk hr0
  have HC0 := Aside0.mk hc0
  clear hr0 hc0
  have H : (if (wrap64 (a1 - (l0.length : Int))) < 0 then (some (-1)) else (some (wrap64 (a1 - (l0.length : Int))))) = some r := h
  clear h
  by_cases c3 : (wrap64 (a1 - (l0.length : Int))) < 0
  · rw [if_pos c3] at H
    have c3b0 : decide ((wrap64 (a1 - (l0.length : Int))) < 0) = true := decide_eq_true c3
    clear c3
    obtain rfl := Option.some.inj H
    go_enter Try.func116, Try.ntmps116
    go_wp2
    go_ret
    exact ⟨by first | rfl | (simp; done) | (simp [*]; done), by repeat (first | exact Drawn0.refl _ | apply Drawn0.step)⟩
  · rw [if_neg c3] at H
    have c3b0 : decide ((wrap64 (a1 - (l0.length : Int))) < 0) = false := decide_eq_false c3
    clear c3
    obtain rfl := Option.some.inj H
    go_enter Try.func116, Try.ntmps116
    go_wp2
    go_ret
    exact ⟨by first | rfl | (simp; done) | (simp [*]; done), by repeat (first | exact Drawn0.refl _ | apply Drawn0.step)⟩

end Go.Proofs.Ytoomjghabiojkaa.P


namespace Go.Proofs.Ytoomjghabiojkaa.P
open Go.RowKit Go.Proofs.YtoomjghabiojkaaW.PrintWords Go.Proofs.YtoomjghabiojkaaW.PrintLast Go.Proofs.YtoomjghabiojkaaW.PrintMore
attribute [local go_sem] max2_int min2_int max_two min_two max_three min_three max_four min_four   -- for this text's walks alone
set_option linter.unusedVariables false
set_option linter.unusedSimpArgs false

def laws_szArena.f (k : Nat) (l0_0 : List (List Int)) (a0_1 : Int) (a0_2 : Int) (a0_3 : Int) (a0_4 : Int) (a0_5 : Int) (l0_6 : List Int) (a1 : Int) : Option (Int) := (laws_szMemory.f k l0_0 a1).bind fun t879 => (if t879 < 0 then (some (-1)) else ((laws_szIntS.f l0_6 t879).bind fun t880 => (if t880 < 0 then (some (-1)) else (some t880))))
set_option maxHeartbeats 8000000 in
set_option maxRecDepth 100000 in
theorem laws_szArena.calls (k : Nat) (A0_0 : Option Addr) (c0_0 : Nat) (l0_0 : List (List Int)) (a0_1 : Int) (a0_2 : Int) (a0_3 : Int) (a0_4 : Int) (a0_5 : Int) (A0_6 : Option Addr) (c0_6 : Nat) (l0_6 : List Int) (a1 : Int) (r : Int) (w : World) (hr0_0 : Kd.C (Kd.slice 5 (Kd.int .u8)) w A0_0 l0_0.length l0_0) (hc0_0 : l0_0.length ≤ c0_0) (hr0_6 : Kd.C (Kd.int .i64) w A0_6 l0_6.length l0_6) (hc0_6 : l0_6.length ≤ c0_6) (h : laws_szArena.f k l0_0 a0_1 a0_2 a0_3 a0_4 a0_5 l0_6 a1 = some r) :
    Calls Try.prog 55 #[.agg #[.slice A0_0 l0_0.length c0_0, .int .i64 a0_1, .int .i64 a0_2, .int .i64 a0_3, .int .i64 a0_4, .int .i64 a0_5, .slice A0_6 l0_6.length c0_6], .int .i64 a1] w fun e w' => e = .returned (.int .i64 r) ∧ Below w.heap.size w w' := by
  have hu90 := Try.underlying90
  have hu24 := Try.underlying24
  have HR0_0 := Aside0.mk hr0_0
  have HC0_0 := Aside0.mk hc0_0
  clear hr0_0 hc0_0
  have HR0_6 := Aside0.mk hr0_6
  have HC0_6 := Aside0.mk hc0_6
  clear hr0_6 hc0_6
  have HB := Aside0.mk (Below.refl w.heap.size w)
  have H : ((laws_szMemory.f k l0_0 a1).bind fun t879 => (if t879 < 0 then (some (-1)) else ((laws_szIntS.f l0_6 t879).bind fun t880 => (if t880 < 0 then (some (-1)) else (some t880))))) = some r := h
  clear h
  replace H := Option.bind_eq_some_iff.mp H
  obtain ⟨t879, A30, H⟩ := H
  replace H : (if t879 < 0 then (some (-1)) else ((laws_szIntS.f l0_6 t879).bind fun t880 => (if t880 < 0 then (some (-1)) else (some t880)))) = some r := H
  have A3 := Aside0.mk A30
  clear A30
  by_cases c4 : t879 < 0
  · rw [if_pos c4] at H
    have c4b0 : decide (t879 < 0) = true := decide_eq_true c4
    clear c4
    obtain rfl := Option.some.inj H
    go_enter Try.func55, Try.ntmps55
    go_wp2_with (first | ((with_reducible refine gate_dst (N := 2) rfl ?_); refine box_event ?hg (N := 2) ?hd (cs := #[.slice A0_0 l0_0.length c0_0, .int .i64 a0_1, .int .i64 a0_2, .int .i64 a0_3, .int .i64 a0_4, .int .i64 a0_5, .slice A0_6 l0_6.length c0_6]) (t := 90) ?hr ?_; (case hd => rfl); (case hg => rfl); (case hr => first | (go_simp; done) | (go_simp; rfl)); intro gb878 hg w5 hbox hb; have n0_ := Aside0.mk (below_step (by repeat (first | (with_reducible first | exact HB.out | apply below_alloc | apply pw_below_drewN | apply below_drew1) | exact HB.out)) hb); have n1_ := Aside0.mk (hbox); have n2_ := Aside0.mk ((by rw [hg]; exact (below_size (by repeat (first | (with_reducible first | exact HB.out | apply below_alloc | apply pw_below_drewN | apply below_drew1) | exact HB.out))) : w.heap.size ≤ gb878)); have n3_ := Aside0.mk ((by rw [hg]; exact (below_size (by repeat (first | (with_reducible first | exact HB.out | apply below_alloc | apply pw_below_drewN | apply below_drew1) | exact HB.out))) : w.heap.size ≤ gb878)); clear HB; have HB := n0_; have BK878 := n1_; have GW878 := n2_; have GE878 := n3_; clear n0_ n1_ n2_ n3_; clear hb hbox hg; have hcz6_0 : w5.cell? ⟨gb878, 0, none⟩ = some (.slice A0_0 l0_0.length c0_0) := (blk_cell BK878.out 0).trans rfl; have hcz6_1 : w5.cell? ⟨gb878, 1, none⟩ = some (.int .i64 a0_1) := (blk_cell BK878.out 1).trans rfl; have hcz6_2 : w5.cell? ⟨gb878, 2, none⟩ = some (.int .i64 a0_2) := (blk_cell BK878.out 2).trans rfl; have hcz6_3 : w5.cell? ⟨gb878, 3, none⟩ = some (.int .i64 a0_3) := (blk_cell BK878.out 3).trans rfl; have hcz6_4 : w5.cell? ⟨gb878, 4, none⟩ = some (.int .i64 a0_4) := (blk_cell BK878.out 4).trans rfl; have hcz6_5 : w5.cell? ⟨gb878, 5, none⟩ = some (.int .i64 a0_5) := (blk_cell BK878.out 5).trans rfl; have hcz6_6 : w5.cell? ⟨gb878, 6, none⟩ = some (.slice A0_6 l0_6.length c0_6) := (blk_cell BK878.out 6).trans rfl; have hfz6_0 := blk_frozen BK878.out 0; have hfz6_1 := blk_frozen BK878.out 1; have hfz6_2 := blk_frozen BK878.out 2; have hfz6_3 := blk_frozen BK878.out 3; have hfz6_4 := blk_frozen BK878.out 4; have hfz6_5 := blk_frozen BK878.out 5; have hfz6_6 := blk_frozen BK878.out 6) | ((with_reducible refine gate_callee (f := 14) rfl ?_); refine goesL_ (some 8) rfl rfl Try.func14 (by kernel_rfl) rfl #[.agg #[.slice A0_0 l0_0.length c0_0], .int .i64 a1] rfl (by (try simp only [List.map_toArray, List.map_cons, List.map_nil]); first | done | rfl | (simp only [List.length_drop, List.length_take]; rfl)) ?_; (with_reducible refine (laws_szMemory.calls k _ _ l0_0 a1 t879 _ ?side1 ?side2 A3.out).mono ?_); (case side1 => repeat (first | exact (Kd.C_below HR0_0.out HB.out) | (with_reducible refine Kd.C_alloc ?_ _) | (with_reducible refine Kd.C_drewN ?_ _) | (with_reducible refine Kd.C_drew ?_))); (case side2 => exact HC0_0.out); rintro e w7 ⟨rfl, hb⟩; refine ⟨_, rfl, ?_⟩; have n0_ := Aside0.mk (blk_below (g := gb878) (o := .cells #[.slice A0_0 l0_0.length c0_0, .int .i64 a0_1, .int .i64 a0_2, .int .i64 a0_3, .int .i64 a0_4, .int .i64 a0_5, .slice A0_6 l0_6.length c0_6] 90 (0, 0)) (by (with_reducible repeat (first | refine blk_drewN ?_ _ | refine blk_drew ?_ | refine blk_alloc ?_ _)); exact BK878.out) hb); have n1_ := Aside0.mk (below_step (by repeat (first | (with_reducible first | exact HB.out | apply below_alloc | apply pw_below_drewN | apply below_drew1 | refine below_set ?_ GE878.out) | exact HB.out)) hb); clear BK878; clear HB; have BK878 := n0_; have HB := n1_; clear n0_ n1_; (try clear hb); (try clear hb2); (try clear hk); (try clear hi)))
    go_ret
    exact ⟨by first | rfl | (simp [errW_none, errW_some] <;> rfl) | (simp [*, errW_none, errW_some] <;> rfl), by repeat (first | (with_reducible first | exact HB.out | apply below_alloc | apply pw_below_drewN | apply below_drew1 | refine below_set ?_ GE878.out) | exact HB.out)⟩
  · rw [if_neg c4] at H
    have c4b0 : decide (t879 < 0) = false := decide_eq_false c4
    clear c4
    replace H := Option.bind_eq_some_iff.mp H
    obtain ⟨t880, A80, H⟩ := H
    replace H : (if t880 < 0 then (some (-1)) else (some t880)) = some r := H
    have A8 := Aside0.mk A80
    clear A80
    by_cases c9 : t880 < 0
    · rw [if_pos c9] at H
      have c9b0 : decide (t880 < 0) = true := decide_eq_true c9
      clear c9
      obtain rfl := Option.some.inj H
      go_enter Try.func55, Try.ntmps55
      go_wp2_with (first | ((with_reducible refine gate_dst (N := 2) rfl ?_); refine box_event ?hg (N := 2) ?hd (cs := #[.slice A0_0 l0_0.length c0_0, .int .i64 a0_1, .int .i64 a0_2, .int .i64 a0_3, .int .i64 a0_4, .int .i64 a0_5, .slice A0_6 l0_6.length c0_6]) (t := 90) ?hr ?_; (case hd => rfl); (case hg => rfl); (case hr => first | (go_simp; done) | (go_simp; rfl)); intro gb878 hg w10 hbox hb; have n0_ := Aside0.mk (below_step (by repeat (first | (with_reducible first | exact HB.out | apply below_alloc | apply pw_below_drewN | apply below_drew1) | exact HB.out)) hb); have n1_ := Aside0.mk (hbox); have n2_ := Aside0.mk ((by rw [hg]; exact (below_size (by repeat (first | (with_reducible first | exact HB.out | apply below_alloc | apply pw_below_drewN | apply below_drew1) | exact HB.out))) : w.heap.size ≤ gb878)); have n3_ := Aside0.mk ((by rw [hg]; exact (below_size (by repeat (first | (with_reducible first | exact HB.out | apply below_alloc | apply pw_below_drewN | apply below_drew1) | exact HB.out))) : w.heap.size ≤ gb878)); clear HB; have HB := n0_; have BK878 := n1_; have GW878 := n2_; have GE878 := n3_; clear n0_ n1_ n2_ n3_; clear hb hbox hg; have hcz11_0 : w10.cell? ⟨gb878, 0, none⟩ = some (.slice A0_0 l0_0.length c0_0) := (blk_cell BK878.out 0).trans rfl; have hcz11_1 : w10.cell? ⟨gb878, 1, none⟩ = some (.int .i64 a0_1) := (blk_cell BK878.out 1).trans rfl; have hcz11_2 : w10.cell? ⟨gb878, 2, none⟩ = some (.int .i64 a0_2) := (blk_cell BK878.out 2).trans rfl; have hcz11_3 : w10.cell? ⟨gb878, 3, none⟩ = some (.int .i64 a0_3) := (blk_cell BK878.out 3).trans rfl; have hcz11_4 : w10.cell? ⟨gb878, 4, none⟩ = some (.int .i64 a0_4) := (blk_cell BK878.out 4).trans rfl; have hcz11_5 : w10.cell? ⟨gb878, 5, none⟩ = some (.int .i64 a0_5) := (blk_cell BK878.out 5).trans rfl; have hcz11_6 : w10.cell? ⟨gb878, 6, none⟩ = some (.slice A0_6 l0_6.length c0_6) := (blk_cell BK878.out 6).trans rfl; have hfz11_0 := blk_frozen BK878.out 0; have hfz11_1 := blk_frozen BK878.out 1; have hfz11_2 := blk_frozen BK878.out 2; have hfz11_3 := blk_frozen BK878.out 3; have hfz11_4 := blk_frozen BK878.out 4; have hfz11_5 := blk_frozen BK878.out 5; have hfz11_6 := blk_frozen BK878.out 6) | ((with_reducible refine gate_callee (f := 14) rfl ?_); refine goesL_ (some 8) rfl rfl Try.func14 (by kernel_rfl) rfl #[.agg #[.slice A0_0 l0_0.length c0_0], .int .i64 a1] rfl (by (try simp only [List.map_toArray, List.map_cons, List.map_nil]); first | done | rfl | (simp only [List.length_drop, List.length_take]; rfl)) ?_; (with_reducible refine (laws_szMemory.calls k _ _ l0_0 a1 t879 _ ?side1 ?side2 A3.out).mono ?_); (case side1 => repeat (first | exact (Kd.C_below HR0_0.out HB.out) | (with_reducible refine Kd.C_alloc ?_ _) | (with_reducible refine Kd.C_drewN ?_ _) | (with_reducible refine Kd.C_drew ?_))); (case side2 => exact HC0_0.out); rintro e w12 ⟨rfl, hb⟩; refine ⟨_, rfl, ?_⟩; have n0_ := Aside0.mk (blk_below (g := gb878) (o := .cells #[.slice A0_0 l0_0.length c0_0, .int .i64 a0_1, .int .i64 a0_2, .int .i64 a0_3, .int .i64 a0_4, .int .i64 a0_5, .slice A0_6 l0_6.length c0_6] 90 (0, 0)) (by (with_reducible repeat (first | refine blk_drewN ?_ _ | refine blk_drew ?_ | refine blk_alloc ?_ _)); exact BK878.out) hb); have n1_ := Aside0.mk (below_step (by repeat (first | (with_reducible first | exact HB.out | apply below_alloc | apply pw_below_drewN | apply below_drew1 | refine below_set ?_ GE878.out) | exact HB.out)) hb); clear BK878; clear HB; have BK878 := n0_; have HB := n1_; clear n0_ n1_; (try clear hb); (try clear hb2); (try clear hk); (try clear hi); have hcz13_0 : w12.cell? ⟨gb878, 0, none⟩ = some (.slice A0_0 l0_0.length c0_0) := (blk_cell BK878.out 0).trans rfl; have hcz13_1 : w12.cell? ⟨gb878, 1, none⟩ = some (.int .i64 a0_1) := (blk_cell BK878.out 1).trans rfl; have hcz13_2 : w12.cell? ⟨gb878, 2, none⟩ = some (.int .i64 a0_2) := (blk_cell BK878.out 2).trans rfl; have hcz13_3 : w12.cell? ⟨gb878, 3, none⟩ = some (.int .i64 a0_3) := (blk_cell BK878.out 3).trans rfl; have hcz13_4 : w12.cell? ⟨gb878, 4, none⟩ = some (.int .i64 a0_4) := (blk_cell BK878.out 4).trans rfl; have hcz13_5 : w12.cell? ⟨gb878, 5, none⟩ = some (.int .i64 a0_5) := (blk_cell BK878.out 5).trans rfl; have hcz13_6 : w12.cell? ⟨gb878, 6, none⟩ = some (.slice A0_6 l0_6.length c0_6) := (blk_cell BK878.out 6).trans rfl; have hfz13_0 := blk_frozen BK878.out 0; have hfz13_1 := blk_frozen BK878.out 1; have hfz13_2 := blk_frozen BK878.out 2; have hfz13_3 := blk_frozen BK878.out 3; have hfz13_4 := blk_frozen BK878.out 4; have hfz13_5 := blk_frozen BK878.out 5; have hfz13_6 := blk_frozen BK878.out 6) | ((with_reducible refine gate_callee (f := 116) rfl ?_); refine goesL_ (some 14) rfl rfl Try.func116 (by kernel_rfl) rfl #[.slice A0_6 l0_6.length c0_6, .int .i64 t879] rfl (by (try simp only [List.map_toArray, List.map_cons, List.map_nil]); first | done | rfl | (simp only [List.length_drop, List.length_take]; rfl)) ?_; (with_reducible refine (laws_szIntS.calls _ _ l0_6 t879 t880 _ ?side1 ?side2 A8.out).mono ?_); (case side1 => repeat (first | exact (Kd.C_below HR0_6.out HB.out) | (with_reducible refine Kd.C_alloc ?_ _) | (with_reducible refine Kd.C_drewN ?_ _) | (with_reducible refine Kd.C_drew ?_))); (case side2 => exact HC0_6.out); rintro e w' ⟨rfl, ⟨nd, rfl⟩⟩; refine ⟨_, rfl, ?_⟩))
      go_ret
      exact ⟨by first | rfl | (simp [errW_none, errW_some] <;> rfl) | (simp [*, errW_none, errW_some] <;> rfl), by repeat (first | (with_reducible first | exact HB.out | apply below_alloc | apply pw_below_drewN | apply below_drew1 | refine below_set ?_ GE878.out) | exact HB.out)⟩
    · rw [if_neg c9] at H
      have c9b0 : decide (t880 < 0) = false := decide_eq_false c9
      clear c9
      obtain rfl := Option.some.inj H
      go_enter Try.func55, Try.ntmps55
      go_wp2_with (first | ((with_reducible refine gate_dst (N := 2) rfl ?_); refine box_event ?hg (N := 2) ?hd (cs := #[.slice A0_0 l0_0.length c0_0, .int .i64 a0_1, .int .i64 a0_2, .int .i64 a0_3, .int .i64 a0_4, .int .i64 a0_5, .slice A0_6 l0_6.length c0_6]) (t := 90) ?hr ?_; (case hd => rfl); (case hg => rfl); (case hr => first | (go_simp; done) | (go_simp; rfl)); intro gb878 hg w14 hbox hb; have n0_ := Aside0.mk (below_step (by repeat (first | (with_reducible first | exact HB.out | apply below_alloc | apply pw_below_drewN | apply below_drew1) | exact HB.out)) hb); have n1_ := Aside0.mk (hbox); have n2_ := Aside0.mk ((by rw [hg]; exact (below_size (by repeat (first | (with_reducible first | exact HB.out | apply below_alloc | apply pw_below_drewN | apply below_drew1) | exact HB.out))) : w.heap.size ≤ gb878)); have n3_ := Aside0.mk ((by rw [hg]; exact (below_size (by repeat (first | (with_reducible first | exact HB.out | apply below_alloc | apply pw_below_drewN | apply below_drew1) | exact HB.out))) : w.heap.size ≤ gb878)); clear HB; have HB := n0_; have BK878 := n1_; have GW878 := n2_; have GE878 := n3_; clear n0_ n1_ n2_ n3_; clear hb hbox hg; have hcz15_0 : w14.cell? ⟨gb878, 0, none⟩ = some (.slice A0_0 l0_0.length c0_0) := (blk_cell BK878.out 0).trans rfl; have hcz15_1 : w14.cell? ⟨gb878, 1, none⟩ = some (.int .i64 a0_1) := (blk_cell BK878.out 1).trans rfl; have hcz15_2 : w14.cell? ⟨gb878, 2, none⟩ = some (.int .i64 a0_2) := (blk_cell BK878.out 2).trans rfl; have hcz15_3 : w14.cell? ⟨gb878, 3, none⟩ = some (.int .i64 a0_3) := (blk_cell BK878.out 3).trans rfl; have hcz15_4 : w14.cell? ⟨gb878, 4, none⟩ = some (.int .i64 a0_4) := (blk_cell BK878.out 4).trans rfl; have hcz15_5 : w14.cell? ⟨gb878, 5, none⟩ = some (.int .i64 a0_5) := (blk_cell BK878.out 5).trans rfl; have hcz15_6 : w14.cell? ⟨gb878, 6, none⟩ = some (.slice A0_6 l0_6.length c0_6) := (blk_cell BK878.out 6).trans rfl; have hfz15_0 := blk_frozen BK878.out 0; have hfz15_1 := blk_frozen BK878.out 1; have hfz15_2 := blk_frozen BK878.out 2; have hfz15_3 := blk_frozen BK878.out 3; have hfz15_4 := blk_frozen BK878.out 4; have hfz15_5 := blk_frozen BK878.out 5; have hfz15_6 := blk_frozen BK878.out 6) | ((with_reducible refine gate_callee (f := 14) rfl ?_); refine goesL_ (some 8) rfl rfl Try.func14 (by kernel_rfl) rfl #[.agg #[.slice A0_0 l0_0.length c0_0], .int .i64 a1] rfl (by (try simp only [List.map_toArray, List.map_cons, List.map_nil]); first | done | rfl | (simp only [List.length_drop, List.length_take]; rfl)) ?_; (with_reducible refine (laws_szMemory.calls k _ _ l0_0 a1 t879 _ ?side1 ?side2 A3.out).mono ?_); (case side1 => repeat (first | exact (Kd.C_below HR0_0.out HB.out) | (with_reducible refine Kd.C_alloc ?_ _) | (with_reducible refine Kd.C_drewN ?_ _) | (with_reducible refine Kd.C_drew ?_))); (case side2 => exact HC0_0.out); rintro e w16 ⟨rfl, hb⟩; refine ⟨_, rfl, ?_⟩; have n0_ := Aside0.mk (blk_below (g := gb878) (o := .cells #[.slice A0_0 l0_0.length c0_0, .int .i64 a0_1, .int .i64 a0_2, .int .i64 a0_3, .int .i64 a0_4, .int .i64 a0_5, .slice A0_6 l0_6.length c0_6] 90 (0, 0)) (by (with_reducible repeat (first | refine blk_drewN ?_ _ | refine blk_drew ?_ | refine blk_alloc ?_ _)); exact BK878.out) hb); have n1_ := Aside0.mk (below_step (by repeat (first | (with_reducible first | exact HB.out | apply below_alloc | apply pw_below_drewN | apply below_drew1 | refine below_set ?_ GE878.out) | exact HB.out)) hb); clear BK878; clear HB; have BK878 := n0_; have HB := n1_; clear n0_ n1_; (try clear hb); (try clear hb2); (try clear hk); (try clear hi); have hcz17_0 : w16.cell? ⟨gb878, 0, none⟩ = some (.slice A0_0 l0_0.length c0_0) := (blk_cell BK878.out 0).trans rfl; have hcz17_1 : w16.cell? ⟨gb878, 1, none⟩ = some (.int .i64 a0_1) := (blk_cell BK878.out 1).trans rfl; have hcz17_2 : w16.cell? ⟨gb878, 2, none⟩ = some (.int .i64 a0_2) := (blk_cell BK878.out 2).trans rfl; have hcz17_3 : w16.cell? ⟨gb878, 3, none⟩ = some (.int .i64 a0_3) := (blk_cell BK878.out 3).trans rfl; have hcz17_4 : w16.cell? ⟨gb878, 4, none⟩ = some (.int .i64 a0_4) := (blk_cell BK878.out 4).trans rfl; have hcz17_5 : w16.cell? ⟨gb878, 5, none⟩ = some (.int .i64 a0_5) := (blk_cell BK878.out 5).trans rfl; have hcz17_6 : w16.cell? ⟨gb878, 6, none⟩ = some (.slice A0_6 l0_6.length c0_6) := (blk_cell BK878.out 6).trans rfl; have hfz17_0 := blk_frozen BK878.out 0; have hfz17_1 := blk_frozen BK878.out 1; have hfz17_2 := blk_frozen BK878.out 2; have hfz17_3 := blk_frozen BK878.out 3; have hfz17_4 := blk_frozen BK878.out 4; have hfz17_5 := blk_frozen BK878.out 5; have hfz17_6 := blk_frozen BK878.out 6) | ((with_reducible refine gate_callee (f := 116) rfl ?_); refine goesL_ (some 14) rfl rfl Try.func116 (by kernel_rfl) rfl #[.slice A0_6 l0_6.length c0_6, .int .i64 t879] rfl (by (try simp only [List.map_toArray, List.map_cons, List.map_nil]); first | done | rfl | (simp only [List.length_drop, List.length_take]; rfl)) ?_; (with_reducible refine (laws_szIntS.calls _ _ l0_6 t879 t880 _ ?side1 ?side2 A8.out).mono ?_); (case side1 => repeat (first | exact (Kd.C_below HR0_6.out HB.out) | (with_reducible refine Kd.C_alloc ?_ _) | (with_reducible refine Kd.C_drewN ?_ _) | (with_reducible refine Kd.C_drew ?_))); (case side2 => exact HC0_6.out); rintro e w' ⟨rfl, ⟨nd, rfl⟩⟩; refine ⟨_, rfl, ?_⟩))
      go_ret
      exact ⟨by first | rfl | (simp [errW_none, errW_some] <;> rfl) | (simp [*, errW_none, errW_some] <;> rfl), by repeat (first | (with_reducible first | exact HB.out | apply below_alloc | apply pw_below_drewN | apply below_drew1 | refine below_set ?_ GE878.out) | exact HB.out)⟩

end Go.Proofs.Ytoomjghabiojkaa.P


namespace Go.Proofs.Ytoomjghabiojkaa.P
open Go.RowKit Go.Proofs.YtoomjghabiojkaaW.PrintWords Go.Proofs.YtoomjghabiojkaaW.PrintLast Go.Proofs.YtoomjghabiojkaaW.PrintMore
attribute [local go_sem] max2_int min2_int max_two min_two max_three min_three max_four min_four   -- for this text's walks alone
set_option linter.unusedVariables false
set_option linter.unusedSimpArgs false

def laws_toWindow.f (a0_0 : Int) (a0_1 : Int) (a0_2 : Int) (a0_3 : Int) : Option (Int × Int × Int × Int) := some (a0_0, a0_1, a0_2, a0_3)
set_option maxHeartbeats 8000000 in
set_option maxRecDepth 100000 in
theorem laws_toWindow.calls (a0_0 : Int) (a0_1 : Int) (a0_2 : Int) (a0_3 : Int) (r1 : Int) (r2 : Int) (r3 : Int) (r4 : Int) (w : World) (h : laws_toWindow.f a0_0 a0_1 a0_2 a0_3 = some (r1, r2, r3, r4)) :
    Calls Try.prog 28 #[.agg #[.int .i64 a0_0, .int .i64 a0_1, .int .i64 a0_2, .int .i64 a0_3]] w fun e w' => e = .returned (.agg #[.int .i64 r1, .int .i64 r2, .int .i64 r3, .int .i64 r4]) ∧ Below w.heap.size w w' := by
  have hu47 := Try.underlying47
  have hu48 := Try.underlying48
  have HB := Aside0.mk (Below.refl w.heap.size w)
  have H : (some (a0_0, a0_1, a0_2, a0_3)) = some (r1, r2, r3, r4) := h
  clear h
  simp only [Option.some.injEq, Prod.mk.injEq] at H
  obtain ⟨rfl, rfl, rfl, rfl⟩ := H
  go_enter Try.func28, Try.ntmps28
  go_wp2_with (first | ((with_reducible refine gate_dst (N := 1) rfl ?_); refine box_event ?hg (N := 1) ?hd (cs := #[.int .i64 a0_0, .int .i64 a0_1, .int .i64 a0_2, .int .i64 a0_3]) (t := 47) ?hr ?_; (case hd => rfl); (case hg => rfl); (case hr => first | (go_simp; done) | (go_simp; rfl)); intro gb284 hg w2 hbox hb; have n0_ := Aside0.mk (below_step (by repeat (first | (with_reducible first | exact HB.out | apply below_alloc | apply pw_below_drewN | apply below_drew1) | exact HB.out)) hb); have n1_ := Aside0.mk (hbox); have n2_ := Aside0.mk ((by rw [hg]; exact (below_size (by repeat (first | (with_reducible first | exact HB.out | apply below_alloc | apply pw_below_drewN | apply below_drew1) | exact HB.out))) : w.heap.size ≤ gb284)); have n3_ := Aside0.mk ((by rw [hg]; exact (below_size (by repeat (first | (with_reducible first | exact HB.out | apply below_alloc | apply pw_below_drewN | apply below_drew1) | exact HB.out))) : w.heap.size ≤ gb284)); clear HB; have HB := n0_; have BK284 := n1_; have GW284 := n2_; have GE284 := n3_; clear n0_ n1_ n2_ n3_; clear hb hbox hg) | ((with_reducible refine gate_dst (N := 2) rfl ?_); refine box_event ?hg (N := 2) ?hd (cs := #[.int .i64 0, .int .i64 0, .int .i64 0, .int .i64 0]) (t := 48) ?hr ?_; (case hd => rfl); (case hg => rfl); (case hr => first | (go_simp; done) | (go_simp; rfl)); intro gb285 hg w3 hbox hb; have n0_ := Aside0.mk (blk_below (g := gb284) (o := .cells #[.int .i64 a0_0, .int .i64 a0_1, .int .i64 a0_2, .int .i64 a0_3] 47 (0, 0)) (by (with_reducible repeat (first | refine blk_drewN ?_ _ | refine blk_drew ?_ | refine blk_alloc ?_ _)); exact BK284.out) hb); have n1_ := Aside0.mk (below_step (by repeat (first | (with_reducible first | exact HB.out | apply below_alloc | apply pw_below_drewN | apply below_drew1 | refine below_set ?_ GE284.out) | exact HB.out)) hb); have n2_ := Aside0.mk (hbox); have n3_ := Aside0.mk ((by rw [hg]; exact (below_size (by repeat (first | (with_reducible first | exact HB.out | apply below_alloc | apply pw_below_drewN | apply below_drew1 | refine below_set ?_ GE284.out) | exact HB.out))) : w.heap.size ≤ gb285)); have n4_ := Aside0.mk ((by rw [hg]; exact (below_size (by repeat (first | (with_reducible first | exact HB.out | apply below_alloc | apply pw_below_drewN | apply below_drew1 | refine below_set ?_ GE284.out) | exact HB.out))) : w.heap.size ≤ gb285)); have n5_ := Aside0.mk ((by rw [hg]; exact Nat.ne_of_lt (blk_lt (g := gb284) (o := .cells #[.int .i64 a0_0, .int .i64 a0_1, .int .i64 a0_2, .int .i64 a0_3] 47 (0, 0)) (by (with_reducible repeat (first | refine blk_drewN ?_ _ | refine blk_drew ?_ | refine blk_alloc ?_ _)); exact BK284.out)) : gb284 ≠ gb285)); have n6_ := Aside0.mk ((by rw [hg]; exact Nat.ne_of_gt (blk_lt (g := gb284) (o := .cells #[.int .i64 a0_0, .int .i64 a0_1, .int .i64 a0_2, .int .i64 a0_3] 47 (0, 0)) (by (with_reducible repeat (first | refine blk_drewN ?_ _ | refine blk_drew ?_ | refine blk_alloc ?_ _)); exact BK284.out)) : gb285 ≠ gb284)); clear BK284; clear HB; have BK284 := n0_; have HB := n1_; have BK285 := n2_; have GW285 := n3_; have GE285 := n4_; have NB284_285 := n5_; have NB285_284 := n6_; clear n0_ n1_ n2_ n3_ n4_ n5_ n6_; clear hb hbox hg) | ((with_reducible refine gate_dst (N := 3) rfl ?_); refine box_event ?hg (N := 3) ?hd (cs := #[.int .i64 0, .int .i64 0, .int .i64 0, .int .i64 0]) (t := 48) ?hr ?_; (case hd => rfl); (case hg => rfl); (case hr => first | (go_simp; done) | (go_simp; rfl)); intro gb286 hg w4 hbox hb; have n0_ := Aside0.mk (blk_below (g := gb284) (o := .cells #[.int .i64 a0_0, .int .i64 a0_1, .int .i64 a0_2, .int .i64 a0_3] 47 (0, 0)) (by (with_reducible repeat (first | refine blk_drewN ?_ _ | refine blk_drew ?_ | refine blk_alloc ?_ _)); exact BK284.out) hb); have n1_ := Aside0.mk (blk_below (g := gb285) (o := .cells #[.int .i64 0, .int .i64 0, .int .i64 0, .int .i64 0] 48 (0, 0)) (by (with_reducible repeat (first | refine blk_drewN ?_ _ | refine blk_drew ?_ | refine blk_alloc ?_ _)); exact BK285.out) hb); have n2_ := Aside0.mk (below_step (by repeat (first | (with_reducible first | exact HB.out | apply below_alloc | apply pw_below_drewN | apply below_drew1 | refine below_set ?_ GE284.out | refine below_set ?_ GE285.out) | exact HB.out)) hb); have n3_ := Aside0.mk (hbox); have n4_ := Aside0.mk ((by rw [hg]; exact (below_size (by repeat (first | (with_reducible first | exact HB.out | apply below_alloc | apply pw_below_drewN | apply below_drew1 | refine below_set ?_ GE284.out | refine below_set ?_ GE285.out) | exact HB.out))) : w.heap.size ≤ gb286)); have n5_ := Aside0.mk ((by rw [hg]; exact (below_size (by repeat (first | (with_reducible first | exact HB.out | apply below_alloc | apply pw_below_drewN | apply below_drew1 | refine below_set ?_ GE284.out | refine below_set ?_ GE285.out) | exact HB.out))) : w.heap.size ≤ gb286)); have n6_ := Aside0.mk ((by rw [hg]; exact Nat.ne_of_lt (blk_lt (g := gb284) (o := .cells #[.int .i64 a0_0, .int .i64 a0_1, .int .i64 a0_2, .int .i64 a0_3] 47 (0, 0)) (by (with_reducible repeat (first | refine blk_drewN ?_ _ | refine blk_drew ?_ | refine blk_alloc ?_ _)); exact BK284.out)) : gb284 ≠ gb286)); have n7_ := Aside0.mk ((by rw [hg]; exact Nat.ne_of_gt (blk_lt (g := gb284) (o := .cells #[.int .i64 a0_0, .int .i64 a0_1, .int .i64 a0_2, .int .i64 a0_3] 47 (0, 0)) (by (with_reducible repeat (first | refine blk_drewN ?_ _ | refine blk_drew ?_ | refine blk_alloc ?_ _)); exact BK284.out)) : gb286 ≠ gb284)); have n8_ := Aside0.mk ((by rw [hg]; exact Nat.ne_of_lt (blk_lt (g := gb285) (o := .cells #[.int .i64 0, .int .i64 0, .int .i64 0, .int .i64 0] 48 (0, 0)) (by (with_reducible repeat (first | refine blk_drewN ?_ _ | refine blk_drew ?_ | refine blk_alloc ?_ _)); exact BK285.out)) : gb285 ≠ gb286)); have n9_ := Aside0.mk ((by rw [hg]; exact Nat.ne_of_gt (blk_lt (g := gb285) (o := .cells #[.int .i64 0, .int .i64 0, .int .i64 0, .int .i64 0] 48 (0, 0)) (by (with_reducible repeat (first | refine blk_drewN ?_ _ | refine blk_drew ?_ | refine blk_alloc ?_ _)); exact BK285.out)) : gb286 ≠ gb285)); clear BK284; clear BK285; clear HB; have BK284 := n0_; have BK285 := n1_; have HB := n2_; have BK286 := n3_; have GW286 := n4_; have GE286 := n5_; have NB284_286 := n6_; have NB286_284 := n7_; have NB285_286 := n8_; have NB286_285 := n9_; clear n0_ n1_ n2_ n3_ n4_ n5_ n6_ n7_ n8_ n9_; clear hb hbox hg; have hnb5 := NB284_285.out; have hnc5 := NB285_284.out; have hnb6 := NB284_286.out; have hnc6 := NB286_284.out; have hcz7_0 : w4.cell? ⟨gb284, 0, none⟩ = some (.int .i64 a0_0) := (blk_cell BK284.out 0).trans rfl; have hcz7_1 : w4.cell? ⟨gb284, 1, none⟩ = some (.int .i64 a0_1) := (blk_cell BK284.out 1).trans rfl; have hcz7_2 : w4.cell? ⟨gb284, 2, none⟩ = some (.int .i64 a0_2) := (blk_cell BK284.out 2).trans rfl; have hcz7_3 : w4.cell? ⟨gb284, 3, none⟩ = some (.int .i64 a0_3) := (blk_cell BK284.out 3).trans rfl; have hfz7_0 := blk_frozen BK284.out 0; have hfz7_1 := blk_frozen BK284.out 1; have hfz7_2 := blk_frozen BK284.out 2; have hfz7_3 := blk_frozen BK284.out 3; have hnb8 := NB286_285.out; have hnc8 := NB285_286.out; have hcz9_0 : w4.cell? ⟨gb286, 0, none⟩ = some (.int .i64 0) := (blk_cell BK286.out 0).trans rfl; have hcz9_1 : w4.cell? ⟨gb286, 1, none⟩ = some (.int .i64 0) := (blk_cell BK286.out 1).trans rfl; have hcz9_2 : w4.cell? ⟨gb286, 2, none⟩ = some (.int .i64 0) := (blk_cell BK286.out 2).trans rfl; have hcz9_3 : w4.cell? ⟨gb286, 3, none⟩ = some (.int .i64 0) := (blk_cell BK286.out 3).trans rfl; have hfz9_0 := blk_frozen BK286.out 0; have hfz9_1 := blk_frozen BK286.out 1; have hfz9_2 := blk_frozen BK286.out 2; have hfz9_3 := blk_frozen BK286.out 3; have hcz10_0 : w4.cell? ⟨gb285, 0, none⟩ = some (.int .i64 0) := (blk_cell BK285.out 0).trans rfl; have hcz10_1 : w4.cell? ⟨gb285, 1, none⟩ = some (.int .i64 0) := (blk_cell BK285.out 1).trans rfl; have hcz10_2 : w4.cell? ⟨gb285, 2, none⟩ = some (.int .i64 0) := (blk_cell BK285.out 2).trans rfl; have hcz10_3 : w4.cell? ⟨gb285, 3, none⟩ = some (.int .i64 0) := (blk_cell BK285.out 3).trans rfl; have hfz10_0 := blk_frozen BK285.out 0; have hfz10_1 := blk_frozen BK285.out 1; have hfz10_2 := blk_frozen BK285.out 2; have hfz10_3 := blk_frozen BK285.out 3))
  refine bodyPost_ret (results_cell_row rfl _ _ gb285 48 #[.int .i64 a0_0, .int .i64 a0_1, .int .i64 a0_2, .int .i64 a0_3] (0, 0) _ rfl (by (with_reducible repeat (first | refine blk_drewN ?_ _ | refine blk_drew ?_ | refine blk_alloc ?_ _)); refine blk_put (cs := #[.int .i64 a0_0, .int .i64 a0_1, .int .i64 a0_2, .int .i64 0]) ?_ 3 _ rfl; (with_reducible repeat (first | refine blk_drewN ?_ _ | refine blk_drew ?_ | refine blk_alloc ?_ _)); refine blk_put (cs := #[.int .i64 a0_0, .int .i64 a0_1, .int .i64 0, .int .i64 0]) ?_ 2 _ rfl; (with_reducible repeat (first | refine blk_drewN ?_ _ | refine blk_drew ?_ | refine blk_alloc ?_ _)); refine blk_put (cs := #[.int .i64 a0_0, .int .i64 0, .int .i64 0, .int .i64 0]) ?_ 1 _ rfl; (with_reducible repeat (first | refine blk_drewN ?_ _ | refine blk_drew ?_ | refine blk_alloc ?_ _)); refine blk_put (cs := #[.int .i64 0, .int .i64 0, .int .i64 0, .int .i64 0]) ?_ 0 _ rfl; (with_reducible repeat (first | refine blk_drewN ?_ _ | refine blk_drew ?_ | refine blk_alloc ?_ _)); refine blk_far ?_ NB285_286.out _; (with_reducible repeat (first | refine blk_drewN ?_ _ | refine blk_drew ?_ | refine blk_alloc ?_ _)); refine blk_far ?_ NB285_286.out _; (with_reducible repeat (first | refine blk_drewN ?_ _ | refine blk_drew ?_ | refine blk_alloc ?_ _)); refine blk_far ?_ NB285_286.out _; (with_reducible repeat (first | refine blk_drewN ?_ _ | refine blk_drew ?_ | refine blk_alloc ?_ _)); refine blk_far ?_ NB285_286.out _; (with_reducible repeat (first | refine blk_drewN ?_ _ | refine blk_drew ?_ | refine blk_alloc ?_ _)); exact BK285.out) Try.underlying48 rfl (by kernel_rfl)) rfl ?_
  exact ⟨by first | rfl | (simp [errW_none, errW_some] <;> rfl) | (simp [*, errW_none, errW_some] <;> rfl), by repeat (first | (with_reducible first | exact HB.out | apply below_alloc | apply pw_below_drewN | apply below_drew1 | refine below_set ?_ GE284.out | refine below_set ?_ GE285.out | refine below_set ?_ GE286.out) | exact HB.out)⟩

end Go.Proofs.Ytoomjghabiojkaa.P


namespace Go.Proofs.Ytoomjghabiojkaa.P
open Go.RowKit Go.Proofs.YtoomjghabiojkaaW.PrintWords Go.Proofs.YtoomjghabiojkaaW.PrintLast Go.Proofs.YtoomjghabiojkaaW.PrintMore
attribute [local go_sem] max2_int min2_int max_two min_two max_three min_three max_four min_four   -- for this text's walks alone
set_option linter.unusedVariables false
set_option linter.unusedSimpArgs false

def laws_toIntS.l0 : Nat → List Int → List Int → Int → Option (List Int)
  | 0, _, _, _ => none
  | k + 1, x0, x3, x4 => if x4 < (x0.length : Int) then (if 0 ≤ x4 then (if x4 < (x3.length : Int) then (laws_toIntS.l0 k x0 (x3.set (x4 : Int).toNat (rd x0 x4)) (wrap64 (x4 + 1))) else (none)) else (none)) else (some x3)
def laws_toIntS.f (k : Nat) (l0 : List Int) : Option (List Int) := if 0 ≤ (l0.length : Int) then (if ((l0.length : Int) : Int).toNat ≤ 35184372088832 then (laws_toIntS.l0 k l0 (List.replicate ((l0.length : Int) : Int).toNat 0) 0) else (none)) else (none)
set_option maxHeartbeats 8000000 in
set_option maxRecDepth 100000 in
theorem laws_toIntS.calls (k : Nat) (A0 : Option Addr) (c0 : Nat) (l0 : List Int) (r : List Int) (w : World) (hr0 : Kd.C (Kd.int .i64) w A0 l0.length l0) (hc0 : l0.length ≤ c0) (h : laws_toIntS.f k l0 = some r) :
    Calls Try.prog 119 #[.slice A0 l0.length c0] w fun e w' => ∃ v0_ : Value, e = .returned (v0_) ∧ Kd.R (Kd.int .i64) 3 w' w.heap.size (fun _ => True) v0_ r ∧ Below w.heap.size w w' := by
  have HR0 := Aside0.mk hr0
  have HC0 := Aside0.mk hc0
  clear hr0 hc0
  have HB := Aside0.mk (Below.refl w.heap.size w)
  have H : (if 0 ≤ (l0.length : Int) then (if ((l0.length : Int) : Int).toNat ≤ 35184372088832 then (laws_toIntS.l0 k l0 (List.replicate ((l0.length : Int) : Int).toNat 0) 0) else (none)) else (none)) = some r := h
  clear h
  by_cases c2 : 0 ≤ (l0.length : Int)
  · rw [if_pos c2] at H
    have c2b0 := eq_true c2
    have c2b1 : decide (0 ≤ (l0.length : Int)) = true := decide_eq_true c2
    clear c2
    by_cases c3 : ((l0.length : Int) : Int).toNat ≤ 35184372088832
    · rw [if_pos c3] at H
      have c3b0 := eq_true c3
      have c3b1 : decide (((l0.length : Int) : Int).toNat ≤ 35184372088832) = true := decide_eq_true c3
      clear c3
      obtain ⟨y920, hy920⟩ : ∃ y_ : List Int, y_ = (List.replicate ((l0.length : Int) : Int).toNat 0) := ⟨_, rfl⟩
      replace H : (laws_toIntS.l0 k l0 y920 0) = some r := by first | (rw [hy920]; with_reducible exact H) | (have H2_ := (Option.bind_some _ _).symm.trans H; rw [hy920]; with_reducible exact H2_) | (have H2_ := (Option.bind_some _ _).symm.trans H; with_reducible exact H2_) | with_reducible exact H | (rw [hy920]; exact H) | exact H
      have Ny920 := Aside0.mk hy920
      clear hy920
      have H' := Aside0.mk H
      clear H
      go_enter Try.func119, Try.ntmps119
      go_wp2_with (first | ((with_reducible refine gate_dst (N := 7) rfl ?_); refine Kd.R_make (Kd.int .i64) _ 3 rfl (N := 7) rfl 49 _ _ rfl (l0.length : Int) rfl rfl Try.underlying49 (.int .i64 0) 8 info3 rfl (by decide) (by omega) 0 (ok := fun _ => True) (okp := fun _ => True) rfl (fun _ hk => hk) trivial (of_decide_eq_true (by first | (with_reducible assumption) | assumption)) (Nat.le_trans (Nat.mul_le_mul_right _ (of_decide_eq_true (by first | (with_reducible assumption) | assumption) : (l0.length : Int).toNat ≤ 35184372088832)) (by omega)) (Below.refl _ _) (Nat.le_refl _) ?_; intro v921 w4 ho5 hb hg_ hnew_; clear hg_ hnew_; (first | rw [← Ny920.out] at ho5 | (simp only [Int.reduceToNat] at ho5; rw [← Ny920.out] at ho5)); have n0_ := Aside0.mk (Kd.R_lower ho5 (below_size (by repeat (first | (with_reducible first | exact HB.out | apply below_alloc | apply pw_below_drewN | apply below_drew1) | exact HB.out)))); have n1_ := Aside0.mk (below_step (by repeat (first | (with_reducible first | exact HB.out | apply below_alloc | apply pw_below_drewN | apply below_drew1) | exact HB.out)) hb); clear HB; have HO922 := n0_; have HB := n1_; clear n0_ n1_; clear hb ho5))
      go_loopg [4] k (fun kq v4 w' => ∃ (x3_1 : List Int) (x4_1 : Int), v4 = .int .i64 x4_1 ∧ Aside0 (laws_toIntS.l0 kq l0 x3_1 x4_1 = some r) ∧ Aside0 (kq ≤ k) ∧ Aside0 (Kd.R (Kd.int .i64) 3 w' w.heap.size (fun _ => True) v921 x3_1) ∧ Aside0 (Below w.heap.size w w'))
      case atStart => exact ⟨(y920), (0), (by first | rfl | (simp; done) | (simp [*]; done)), H', ⟨Nat.le_refl _⟩, ⟨by (with_reducible repeat (first | apply Kd.R_alloc | apply Kd.R_drewN | apply Kd.R_drew)); exact HO922.out⟩, ⟨by repeat (first | (with_reducible first | exact HB.out | apply below_alloc | apply pw_below_drewN | apply below_drew1) | exact HB.out)⟩⟩
      case round =>
        clear H'
        try clear c1
        try clear c2
        try clear c2b0
        try clear c2b1
        try clear p2
        try clear c3
        try clear c3b0
        try clear c3b1
        obtain ⟨x3_1, x4_1, rfl, HA, HK1, HO_3, HB⟩ := hrel
        cases gk with
        | zero => exact absurd HA.out (by simp [laws_toIntS.l0])
        | succ k1 =>
          have H := HA.out
          clear HA
          simp only [laws_toIntS.l0] at H
          by_cases c6 : x4_1 < (l0.length : Int)
          · rw [if_pos c6] at H
            have c6b0 : decide (x4_1 < (l0.length : Int)) = true := decide_eq_true c6
            clear c6
            by_cases c7 : 0 ≤ x4_1
            · rw [if_pos c7] at H
              have c7b0 : decide (0 ≤ x4_1) = true := decide_eq_true c7
              clear c7
              by_cases c8 : x4_1 < (x3_1.length : Int)
              · rw [if_pos c8] at H
                have c8b0 : decide (x4_1 < (x3_1.length : Int)) = true := decide_eq_true c8
                clear c8
                obtain ⟨y924, hy924⟩ : ∃ y_ : List Int, y_ = (x3_1.set (x4_1 : Int).toNat (rd l0 x4_1)) := ⟨_, rfl⟩
                replace H : (laws_toIntS.l0 k1 l0 y924 (wrap64 (x4_1 + 1))) = some r := by first | (rw [hy924]; with_reducible exact H) | (have H2_ := (Option.bind_some _ _).symm.trans H; rw [hy924]; with_reducible exact H2_) | (have H2_ := (Option.bind_some _ _).symm.trans H; with_reducible exact H2_) | with_reducible exact H | (rw [hy924]; exact H) | exact H
                have Ny924 := Aside0.mk hy924
                clear hy924
                have H' := Aside0.mk H
                clear H
                have p923 : 0 ≤ (x4_1 : Int) := of_decide_eq_true (by first | (with_reducible assumption) | assumption)
                have q923 : x4_1 < (l0.length : Int) := of_decide_eq_true (by first | (with_reducible assumption) | assumption)
                obtain ⟨ad923, e923, hx923_0⟩ := Kd.at_int HR0.out x4_1 p923 q923
                cases e923
                replace hx923_0 := (HB.out.cell (World.block_lt_of_cell? w _ hx923_0)).trans hx923_0
                replace p923 := eq_true p923
                replace q923 := eq_true q923
                have p9 : 0 ≤ (x4_1 : Int) := of_decide_eq_true (by first | (with_reducible assumption) | assumption)
                have q9 : (x4_1 : Int) < ((x3_1.length : Int) : Int) := of_decide_eq_true (by first | (with_reducible assumption) | assumption)
                obtain ⟨go9, co9, eo9, gb9, gl9, cl9, HG9⟩ := Kd.R_form HO_3.out (by omega)
                (first | cases eo9 | (injection eo9 with ea_ en_ ec_; (first | subst ea_ | (injection ea_ with ea_; subst ea_)); subst ec_; clear en_))
                have GB9 := Aside0.mk gb9
                have GG9 := Aside0.mk HG9
                clear gb9 gl9 HG9
                obtain ⟨hx9_0, hf9_0⟩ := Kd.R_celln 0 HO_3.out (x4_1 : Int) p9 q9
                replace p9 := eq_true p9
                replace q9 := eq_true q9
                have HP10 := Kd.R_putg HO_3.out (x4_1 : Int) (rd l0 x4_1)
                go_wp2_with (first | ((with_reducible refine gate_store (t := 3) (p := 20) rfl ?_); refine store_event (t := 3) (p := 20) (v := ?vo_w11) (w1 := (wr.setCell ⟨go9, (x4_1 : Int).toNat, none⟩ (.int .i64 (rd l0 x4_1)))) ?hg ?ho ?hn ?hr ?_; (case ho => rfl); (case hg => rfl); (case hn => rfl); (case hr => first | (go_simp; done) | (go_simp; rfl)); intro w11 hw; have hg : wr.grownBy w11 (some go9) := (by rw [hw]; exact HP10.2); have hp_ : Kd.R (Kd.int .i64) 3 w11 w.heap.size (fun _ => True) (.slice (some ⟨go9, 0, none⟩) x3_1.length co9) y924 := (by rw [hw, Ny924.out]; exact HP10.1); clear HP10; have n0_ := Aside0.mk (hp_); have n1_ := Aside0.mk ((by rw [hw]; exact below_set (HB.out) GB9.out : Below w.heap.size w w11)); clear HO_3; clear HB; have HO_3 := n0_; have HB := n1_; clear n0_ n1_; clear hg hw hp_))
                go_roundg k1
                case measure => have := HK1.out; omega
                case rel => exact ⟨(y924), (wrap64 (x4_1 + 1)), (by first | rfl | (simp; done) | (simp [*]; done)), H', ⟨by have := HK1.out; omega⟩, ⟨by (with_reducible repeat (first | apply Kd.R_alloc | apply Kd.R_drewN | apply Kd.R_drew)); exact HO_3.out⟩, ⟨by repeat (first | (with_reducible first | exact HB.out | apply below_alloc | apply pw_below_drewN | apply below_drew1) | exact HB.out)⟩⟩
              · rw [if_neg c8] at H
                exact absurd H (by simp)
            · rw [if_neg c7] at H
              exact absurd H (by simp)
          · rw [if_neg c6] at H
            have c6b0 : decide (x4_1 < (l0.length : Int)) = false := decide_eq_false c6
            clear c6
            obtain rfl := Option.some.inj H
            go_wp2
            go_ret
            exact ⟨_, by first | rfl | (simp [errW_none, errW_some] <;> rfl) | (simp [*, errW_none, errW_some] <;> rfl), by (with_reducible repeat (first | apply Kd.R_alloc | apply Kd.R_drewN | apply Kd.R_drew)); exact HO_3.out, by repeat (first | (with_reducible first | exact HB.out | apply below_alloc | apply pw_below_drewN | apply below_drew1) | exact HB.out)⟩
    · rw [if_neg c3] at H
      exact absurd H (by simp)
  · rw [if_neg c2] at H
    exact absurd H (by simp)

end Go.Proofs.Ytoomjghabiojkaa.P


namespace Go.Proofs.Ytoomjghabiojkaa.P
open Go.RowKit Go.Proofs.YtoomjghabiojkaaW.PrintWords Go.Proofs.YtoomjghabiojkaaW.PrintLast Go.Proofs.YtoomjghabiojkaaW.PrintMore
attribute [local go_sem] max2_int min2_int max_two min_two max_three min_three max_four min_four   -- for this text's walks alone
set_option linter.unusedVariables false
set_option linter.unusedSimpArgs false

def laws_toArena.f (k : Nat) (l0_0 : List (List Int)) (a0_1 : Int) (a0_2 : Int) (a0_3 : Int) (a0_4 : Int) (a0_5 : Int) (l0_6 : List Int) : Option ((List (List Int)) × Int × Int × Int × Int × Int × List Int) := (laws_toMemory.f l0_0).bind fun t928 => ((laws_toWindow.f a0_1 a0_2 a0_3 a0_4).bind fun bt931 => ((laws_toIntS.f k l0_6).bind fun t935 => (some (t928, bt931.1, bt931.2.1, bt931.2.2.1, bt931.2.2.2, a0_5, t935))))
set_option maxHeartbeats 8000000 in
set_option maxRecDepth 100000 in
theorem laws_toArena.calls (k : Nat) (A0_0 : Option Addr) (c0_0 : Nat) (l0_0 : List (List Int)) (a0_1 : Int) (a0_2 : Int) (a0_3 : Int) (a0_4 : Int) (a0_5 : Int) (A0_6 : Option Addr) (c0_6 : Nat) (l0_6 : List Int) (r1 : List (List Int)) (r2 : Int) (r3 : Int) (r4 : Int) (r5 : Int) (r6 : Int) (r7 : List Int) (w : World) (hr0_0 : Kd.C (Kd.slice 5 (Kd.int .u8)) w A0_0 l0_0.length l0_0) (hc0_0 : l0_0.length ≤ c0_0) (hr0_6 : Kd.C (Kd.int .i64) w A0_6 l0_6.length l0_6) (hc0_6 : l0_6.length ≤ c0_6) (h : laws_toArena.f k l0_0 a0_1 a0_2 a0_3 a0_4 a0_5 l0_6 = some (r1, r2, r3, r4, r5, r6, r7)) :
    Calls Try.prog 57 #[.agg #[.slice A0_0 l0_0.length c0_0, .int .i64 a0_1, .int .i64 a0_2, .int .i64 a0_3, .int .i64 a0_4, .int .i64 a0_5, .slice A0_6 l0_6.length c0_6]] w fun e w' => ∃ v0_ v6_ : Value, e = .returned (.agg #[v0_, .int .i64 r2, .int .i64 r3, .int .i64 r4, .int .i64 r5, .int .i64 r6, v6_]) ∧ Kd.S (Kd.slice 5 (Kd.int .u8)) 119 w' w.heap.size (fun _ => True) v0_ r1 ∧ Kd.R (Kd.int .i64) 3 w' w.heap.size (fun _ => True) v6_ r7 ∧ Below w.heap.size w w' := by
  have hu90 := Try.underlying90
  have hu51 := Try.underlying51
  have hu24 := Try.underlying24
  have hu26 := Try.underlying26
  have hu47 := Try.underlying47
  have hu48 := Try.underlying48
  have HR0_0 := Aside0.mk hr0_0
  have HC0_0 := Aside0.mk hc0_0
  clear hr0_0 hc0_0
  have HR0_6 := Aside0.mk hr0_6
  have HC0_6 := Aside0.mk hc0_6
  clear hr0_6 hc0_6
  have HB := Aside0.mk (Below.refl w.heap.size w)
  have H : ((laws_toMemory.f l0_0).bind fun t928 => ((laws_toWindow.f a0_1 a0_2 a0_3 a0_4).bind fun bt931 => ((laws_toIntS.f k l0_6).bind fun t935 => (some (t928, bt931.1, bt931.2.1, bt931.2.2.1, bt931.2.2.2, a0_5, t935))))) = some (r1, r2, r3, r4, r5, r6, r7) := h
  clear h
  replace H := Option.bind_eq_some_iff.mp H
  obtain ⟨t928, A20, H⟩ := H
  replace H : ((laws_toWindow.f a0_1 a0_2 a0_3 a0_4).bind fun bt931 => ((laws_toIntS.f k l0_6).bind fun t935 => (some (t928, bt931.1, bt931.2.1, bt931.2.2.1, bt931.2.2.2, a0_5, t935)))) = some (r1, r2, r3, r4, r5, r6, r7) := H
  have A2 := Aside0.mk A20
  clear A20
  replace H := Option.bind_eq_some_iff.mp H
  obtain ⟨⟨t931, t932, t933, t934⟩, A30, H⟩ := H
  replace H : ((laws_toIntS.f k l0_6).bind fun t935 => (some (t928, t931, t932, t933, t934, a0_5, t935))) = some (r1, r2, r3, r4, r5, r6, r7) := H
  have A3 := Aside0.mk A30
  clear A30
  replace H := Option.bind_eq_some_iff.mp H
  obtain ⟨t935, A40, H⟩ := H
  replace H : (some (t928, t931, t932, t933, t934, a0_5, t935)) = some (r1, r2, r3, r4, r5, r6, r7) := H
  have A4 := Aside0.mk A40
  clear A40
  simp only [Option.some.injEq, Prod.mk.injEq] at H
  obtain ⟨rfl, rfl, rfl, rfl, rfl, rfl, rfl⟩ := H
  go_enter Try.func57, Try.ntmps57
  go_wp2_with (first | ((with_reducible refine gate_dst (N := 1) rfl ?_); refine box_event ?hg (N := 1) ?hd (cs := #[.slice A0_0 l0_0.length c0_0, .int .i64 a0_1, .int .i64 a0_2, .int .i64 a0_3, .int .i64 a0_4, .int .i64 a0_5, .slice A0_6 l0_6.length c0_6]) (t := 90) ?hr ?_; (case hd => rfl); (case hg => rfl); (case hr => first | (go_simp; done) | (go_simp; rfl)); intro gb925 hg w5 hbox hb; have n0_ := Aside0.mk (below_step (by repeat (first | (with_reducible first | exact HB.out | apply below_alloc | apply pw_below_drewN | apply below_drew1) | exact HB.out)) hb); have n1_ := Aside0.mk (hbox); have n2_ := Aside0.mk ((by rw [hg]; exact (below_size (by repeat (first | (with_reducible first | exact HB.out | apply below_alloc | apply pw_below_drewN | apply below_drew1) | exact HB.out))) : w.heap.size ≤ gb925)); have n3_ := Aside0.mk ((by rw [hg]; exact (below_size (by repeat (first | (with_reducible first | exact HB.out | apply below_alloc | apply pw_below_drewN | apply below_drew1) | exact HB.out))) : w.heap.size ≤ gb925)); clear HB; have HB := n0_; have BK925 := n1_; have GW925 := n2_; have GE925 := n3_; clear n0_ n1_ n2_ n3_; clear hb hbox hg) | ((with_reducible refine gate_dst (N := 2) rfl ?_); refine box_event ?hg (N := 2) ?hd (cs := #[.slice none 0 0, .int .i64 0, .int .i64 0, .int .i64 0, .int .i64 0, .int .i64 0, .slice none 0 0]) (t := 51) ?hr ?_; (case hd => rfl); (case hg => rfl); (case hr => first | (go_simp; done) | (go_simp; rfl)); intro gb926 hg w6 hbox hb; have n0_ := Aside0.mk (blk_below (g := gb925) (o := .cells #[.slice A0_0 l0_0.length c0_0, .int .i64 a0_1, .int .i64 a0_2, .int .i64 a0_3, .int .i64 a0_4, .int .i64 a0_5, .slice A0_6 l0_6.length c0_6] 90 (0, 0)) (by (with_reducible repeat (first | refine blk_drewN ?_ _ | refine blk_drew ?_ | refine blk_alloc ?_ _)); exact BK925.out) hb); have n1_ := Aside0.mk (below_step (by repeat (first | (with_reducible first | exact HB.out | apply below_alloc | apply pw_below_drewN | apply below_drew1 | refine below_set ?_ GE925.out) | exact HB.out)) hb); have n2_ := Aside0.mk (hbox); have n3_ := Aside0.mk ((by rw [hg]; exact (below_size (by repeat (first | (with_reducible first | exact HB.out | apply below_alloc | apply pw_below_drewN | apply below_drew1 | refine below_set ?_ GE925.out) | exact HB.out))) : w.heap.size ≤ gb926)); have n4_ := Aside0.mk ((by rw [hg]; exact (below_size (by repeat (first | (with_reducible first | exact HB.out | apply below_alloc | apply pw_below_drewN | apply below_drew1 | refine below_set ?_ GE925.out) | exact HB.out))) : w.heap.size ≤ gb926)); have n5_ := Aside0.mk ((by rw [hg]; exact Nat.ne_of_lt (blk_lt (g := gb925) (o := .cells #[.slice A0_0 l0_0.length c0_0, .int .i64 a0_1, .int .i64 a0_2, .int .i64 a0_3, .int .i64 a0_4, .int .i64 a0_5, .slice A0_6 l0_6.length c0_6] 90 (0, 0)) (by (with_reducible repeat (first | refine blk_drewN ?_ _ | refine blk_drew ?_ | refine blk_alloc ?_ _)); exact BK925.out)) : gb925 ≠ gb926)); have n6_ := Aside0.mk ((by rw [hg]; exact Nat.ne_of_gt (blk_lt (g := gb925) (o := .cells #[.slice A0_0 l0_0.length c0_0, .int .i64 a0_1, .int .i64 a0_2, .int .i64 a0_3, .int .i64 a0_4, .int .i64 a0_5, .slice A0_6 l0_6.length c0_6] 90 (0, 0)) (by (with_reducible repeat (first | refine blk_drewN ?_ _ | refine blk_drew ?_ | refine blk_alloc ?_ _)); exact BK925.out)) : gb926 ≠ gb925)); clear BK925; clear HB; have BK925 := n0_; have HB := n1_; have BK926 := n2_; have GW926 := n3_; have GE926 := n4_; have NB925_926 := n5_; have NB926_925 := n6_; clear n0_ n1_ n2_ n3_ n4_ n5_ n6_; clear hb hbox hg) | ((with_reducible refine gate_dst (N := 3) rfl ?_); refine box_event ?hg (N := 3) ?hd (cs := #[.slice none 0 0, .int .i64 0, .int .i64 0, .int .i64 0, .int .i64 0, .int .i64 0, .slice none 0 0]) (t := 51) ?hr ?_; (case hd => rfl); (case hg => rfl); (case hr => first | (go_simp; done) | (go_simp; rfl)); intro gb927 hg w7 hbox hb; have n0_ := Aside0.mk (blk_below (g := gb925) (o := .cells #[.slice A0_0 l0_0.length c0_0, .int .i64 a0_1, .int .i64 a0_2, .int .i64 a0_3, .int .i64 a0_4, .int .i64 a0_5, .slice A0_6 l0_6.length c0_6] 90 (0, 0)) (by (with_reducible repeat (first | refine blk_drewN ?_ _ | refine blk_drew ?_ | refine blk_alloc ?_ _)); exact BK925.out) hb); have n1_ := Aside0.mk (blk_below (g := gb926) (o := .cells #[.slice none 0 0, .int .i64 0, .int .i64 0, .int .i64 0, .int .i64 0, .int .i64 0, .slice none 0 0] 51 (0, 0)) (by (with_reducible repeat (first | refine blk_drewN ?_ _ | refine blk_drew ?_ | refine blk_alloc ?_ _)); exact BK926.out) hb); have n2_ := Aside0.mk (below_step (by repeat (first | (with_reducible first | exact HB.out | apply below_alloc | apply pw_below_drewN | apply below_drew1 | refine below_set ?_ GE925.out | refine below_set ?_ GE926.out) | exact HB.out)) hb); have n3_ := Aside0.mk (hbox); have n4_ := Aside0.mk ((by rw [hg]; exact (below_size (by repeat (first | (with_reducible first | exact HB.out | apply below_alloc | apply pw_below_drewN | apply below_drew1 | refine below_set ?_ GE925.out | refine below_set ?_ GE926.out) | exact HB.out))) : w.heap.size ≤ gb927)); have n5_ := Aside0.mk ((by rw [hg]; exact (below_size (by repeat (first | (with_reducible first | exact HB.out | apply below_alloc | apply pw_below_drewN | apply below_drew1 | refine below_set ?_ GE925.out | refine below_set ?_ GE926.out) | exact HB.out))) : w.heap.size ≤ gb927)); have n6_ := Aside0.mk ((by rw [hg]; exact Nat.ne_of_lt (blk_lt (g := gb925) (o := .cells #[.slice A0_0 l0_0.length c0_0, .int .i64 a0_1, .int .i64 a0_2, .int .i64 a0_3, .int .i64 a0_4, .int .i64 a0_5, .slice A0_6 l0_6.length c0_6] 90 (0, 0)) (by (with_reducible repeat (first | refine blk_drewN ?_ _ | refine blk_drew ?_ | refine blk_alloc ?_ _)); exact BK925.out)) : gb925 ≠ gb927)); have n7_ := Aside0.mk ((by rw [hg]; exact Nat.ne_of_gt (blk_lt (g := gb925) (o := .cells #[.slice A0_0 l0_0.length c0_0, .int .i64 a0_1, .int .i64 a0_2, .int .i64 a0_3, .int .i64 a0_4, .int .i64 a0_5, .slice A0_6 l0_6.length c0_6] 90 (0, 0)) (by (with_reducible repeat (first | refine blk_drewN ?_ _ | refine blk_drew ?_ | refine blk_alloc ?_ _)); exact BK925.out)) : gb927 ≠ gb925)); have n8_ := Aside0.mk ((by rw [hg]; exact Nat.ne_of_lt (blk_lt (g := gb926) (o := .cells #[.slice none 0 0, .int .i64 0, .int .i64 0, .int .i64 0, .int .i64 0, .int .i64 0, .slice none 0 0] 51 (0, 0)) (by (with_reducible repeat (first | refine blk_drewN ?_ _ | refine blk_drew ?_ | refine blk_alloc ?_ _)); exact BK926.out)) : gb926 ≠ gb927)); have n9_ := Aside0.mk ((by rw [hg]; exact Nat.ne_of_gt (blk_lt (g := gb926) (o := .cells #[.slice none 0 0, .int .i64 0, .int .i64 0, .int .i64 0, .int .i64 0, .int .i64 0, .slice none 0 0] 51 (0, 0)) (by (with_reducible repeat (first | refine blk_drewN ?_ _ | refine blk_drew ?_ | refine blk_alloc ?_ _)); exact BK926.out)) : gb927 ≠ gb926)); clear BK925; clear BK926; clear HB; have BK925 := n0_; have BK926 := n1_; have HB := n2_; have BK927 := n3_; have GW927 := n4_; have GE927 := n5_; have NB925_927 := n6_; have NB927_925 := n7_; have NB926_927 := n8_; have NB927_926 := n9_; clear n0_ n1_ n2_ n3_ n4_ n5_ n6_ n7_ n8_ n9_; clear hb hbox hg; have hnb8 := NB925_926.out; have hnc8 := NB926_925.out; have hnb9 := NB925_927.out; have hnc9 := NB927_925.out; have hcz10_0 : w7.cell? ⟨gb925, 0, none⟩ = some (.slice A0_0 l0_0.length c0_0) := (blk_cell BK925.out 0).trans rfl; have hcz10_1 : w7.cell? ⟨gb925, 1, none⟩ = some (.int .i64 a0_1) := (blk_cell BK925.out 1).trans rfl; have hcz10_2 : w7.cell? ⟨gb925, 2, none⟩ = some (.int .i64 a0_2) := (blk_cell BK925.out 2).trans rfl; have hcz10_3 : w7.cell? ⟨gb925, 3, none⟩ = some (.int .i64 a0_3) := (blk_cell BK925.out 3).trans rfl; have hcz10_4 : w7.cell? ⟨gb925, 4, none⟩ = some (.int .i64 a0_4) := (blk_cell BK925.out 4).trans rfl; have hcz10_5 : w7.cell? ⟨gb925, 5, none⟩ = some (.int .i64 a0_5) := (blk_cell BK925.out 5).trans rfl; have hcz10_6 : w7.cell? ⟨gb925, 6, none⟩ = some (.slice A0_6 l0_6.length c0_6) := (blk_cell BK925.out 6).trans rfl; have hfz10_0 := blk_frozen BK925.out 0; have hfz10_1 := blk_frozen BK925.out 1; have hfz10_2 := blk_frozen BK925.out 2; have hfz10_3 := blk_frozen BK925.out 3; have hfz10_4 := blk_frozen BK925.out 4; have hfz10_5 := blk_frozen BK925.out 5; have hfz10_6 := blk_frozen BK925.out 6) | ((with_reducible refine gate_callee (f := 16) rfl ?_); refine goesL_ (some 6) rfl rfl Try.func16 (by kernel_rfl) rfl #[.agg #[.slice A0_0 l0_0.length c0_0]] rfl (by (try simp only [List.map_toArray, List.map_cons, List.map_nil]); first | done | rfl | (simp only [List.length_drop, List.length_take]; rfl)) ?_; (with_reducible refine (laws_toMemory.calls _ _ l0_0 t928 _ ?side1 ?side2 A2.out).mono ?_); (case side1 => repeat (first | exact (Kd.C_below HR0_0.out HB.out) | (with_reducible refine Kd.C_alloc ?_ _) | (with_reducible refine Kd.C_drewN ?_ _) | (with_reducible refine Kd.C_drew ?_))); (case side2 => exact HC0_0.out); rintro e w11 ⟨v929, rfl, ho0, hb⟩; refine ⟨_, rfl, ?_⟩; have n0_ := Aside0.mk (Kd.S_lower ho0 (below_size (by repeat (first | (with_reducible first | exact HB.out | apply below_alloc | apply pw_below_drewN | apply below_drew1 | refine below_set ?_ GE925.out | refine below_set ?_ GE926.out | refine below_set ?_ GE927.out) | exact HB.out)))); have n1_ := Aside0.mk (blk_below (g := gb925) (o := .cells #[.slice A0_0 l0_0.length c0_0, .int .i64 a0_1, .int .i64 a0_2, .int .i64 a0_3, .int .i64 a0_4, .int .i64 a0_5, .slice A0_6 l0_6.length c0_6] 90 (0, 0)) (by (with_reducible repeat (first | refine blk_drewN ?_ _ | refine blk_drew ?_ | refine blk_alloc ?_ _)); exact BK925.out) hb); have n2_ := Aside0.mk (blk_below (g := gb926) (o := .cells #[.slice none 0 0, .int .i64 0, .int .i64 0, .int .i64 0, .int .i64 0, .int .i64 0, .slice none 0 0] 51 (0, 0)) (by (with_reducible repeat (first | refine blk_drewN ?_ _ | refine blk_drew ?_ | refine blk_alloc ?_ _)); exact BK926.out) hb); have n3_ := Aside0.mk (blk_below (g := gb927) (o := .cells #[.slice none 0 0, .int .i64 0, .int .i64 0, .int .i64 0, .int .i64 0, .int .i64 0, .slice none 0 0] 51 (0, 0)) (by (with_reducible repeat (first | refine blk_drewN ?_ _ | refine blk_drew ?_ | refine blk_alloc ?_ _)); exact BK927.out) hb); have n4_ := Aside0.mk (below_step (by repeat (first | (with_reducible first | exact HB.out | apply below_alloc | apply pw_below_drewN | apply below_drew1 | refine below_set ?_ GE925.out | refine below_set ?_ GE926.out | refine below_set ?_ GE927.out) | exact HB.out)) hb); clear BK925; clear BK926; clear BK927; clear HB; have HO930 := n0_; have BK925 := n1_; have BK926 := n2_; have BK927 := n3_; have HB := n4_; clear n0_ n1_ n2_ n3_ n4_; (try clear hb); (try clear hb2); (try clear hk); (try clear hi); (try clear ho0); obtain ⟨Ao12, co12, eo12⟩ := Kd.S_slice HO930.out; subst eo12; have hnb13 := NB927_926.out; have hnc13 := NB926_927.out; have hcz14_0 : w11.cell? ⟨gb927, 0, none⟩ = some (.slice none 0 0) := (blk_cell BK927.out 0).trans rfl; have hcz14_1 : w11.cell? ⟨gb927, 1, none⟩ = some (.int .i64 0) := (blk_cell BK927.out 1).trans rfl; have hcz14_2 : w11.cell? ⟨gb927, 2, none⟩ = some (.int .i64 0) := (blk_cell BK927.out 2).trans rfl; have hcz14_3 : w11.cell? ⟨gb927, 3, none⟩ = some (.int .i64 0) := (blk_cell BK927.out 3).trans rfl; have hcz14_4 : w11.cell? ⟨gb927, 4, none⟩ = some (.int .i64 0) := (blk_cell BK927.out 4).trans rfl; have hcz14_5 : w11.cell? ⟨gb927, 5, none⟩ = some (.int .i64 0) := (blk_cell BK927.out 5).trans rfl; have hcz14_6 : w11.cell? ⟨gb927, 6, none⟩ = some (.slice none 0 0) := (blk_cell BK927.out 6).trans rfl; have hfz14_0 := blk_frozen BK927.out 0; have hfz14_1 := blk_frozen BK927.out 1; have hfz14_2 := blk_frozen BK927.out 2; have hfz14_3 := blk_frozen BK927.out 3; have hfz14_4 := blk_frozen BK927.out 4; have hfz14_5 := blk_frozen BK927.out 5; have hfz14_6 := blk_frozen BK927.out 6; have hcz15_0 : w11.cell? ⟨gb925, 0, none⟩ = some (.slice A0_0 l0_0.length c0_0) := (blk_cell BK925.out 0).trans rfl; have hcz15_1 : w11.cell? ⟨gb925, 1, none⟩ = some (.int .i64 a0_1) := (blk_cell BK925.out 1).trans rfl; have hcz15_2 : w11.cell? ⟨gb925, 2, none⟩ = some (.int .i64 a0_2) := (blk_cell BK925.out 2).trans rfl; have hcz15_3 : w11.cell? ⟨gb925, 3, none⟩ = some (.int .i64 a0_3) := (blk_cell BK925.out 3).trans rfl; have hcz15_4 : w11.cell? ⟨gb925, 4, none⟩ = some (.int .i64 a0_4) := (blk_cell BK925.out 4).trans rfl; have hcz15_5 : w11.cell? ⟨gb925, 5, none⟩ = some (.int .i64 a0_5) := (blk_cell BK925.out 5).trans rfl; have hcz15_6 : w11.cell? ⟨gb925, 6, none⟩ = some (.slice A0_6 l0_6.length c0_6) := (blk_cell BK925.out 6).trans rfl; have hfz15_0 := blk_frozen BK925.out 0; have hfz15_1 := blk_frozen BK925.out 1; have hfz15_2 := blk_frozen BK925.out 2; have hfz15_3 := blk_frozen BK925.out 3; have hfz15_4 := blk_frozen BK925.out 4; have hfz15_5 := blk_frozen BK925.out 5; have hfz15_6 := blk_frozen BK925.out 6) | ((with_reducible refine gate_callee (f := 28) rfl ?_); refine goesL_ (some 10) rfl rfl Try.func28 (by kernel_rfl) rfl #[.agg #[.int .i64 a0_1, .int .i64 a0_2, .int .i64 a0_3, .int .i64 a0_4]] rfl (by (try simp only [List.map_toArray, List.map_cons, List.map_nil]); first | done | rfl | (simp only [List.length_drop, List.length_take]; rfl)) ?_; (with_reducible refine (laws_toWindow.calls a0_1 a0_2 a0_3 a0_4 t931 t932 t933 t934 _ A3.out).mono ?_); rintro e w16 ⟨rfl, hb⟩; refine ⟨_, rfl, ?_⟩; have n0_ := Aside0.mk (Kd.S_below (by (with_reducible repeat (first | apply Kd.S_alloc | apply Kd.S_drewN | apply Kd.S_drew)); exact (Kd.S_mono (Kd.S_far (p := ⟨gb927, 0, none⟩) (Kd.S_types HO930.out BK927.out (by decide)) (fun _ hk => hk.2) (.slice Ao12 t928.length co12)) (fun _ h_ => h_.1))) hb); have n1_ := Aside0.mk (blk_below (g := gb925) (o := .cells #[.slice A0_0 l0_0.length c0_0, .int .i64 a0_1, .int .i64 a0_2, .int .i64 a0_3, .int .i64 a0_4, .int .i64 a0_5, .slice A0_6 l0_6.length c0_6] 90 (0, 0)) (by (with_reducible repeat (first | refine blk_drewN ?_ _ | refine blk_drew ?_ | refine blk_alloc ?_ _)); refine blk_far ?_ NB925_927.out _; (with_reducible repeat (first | refine blk_drewN ?_ _ | refine blk_drew ?_ | refine blk_alloc ?_ _)); exact BK925.out) hb); have n2_ := Aside0.mk (blk_below (g := gb926) (o := .cells #[.slice none 0 0, .int .i64 0, .int .i64 0, .int .i64 0, .int .i64 0, .int .i64 0, .slice none 0 0] 51 (0, 0)) (by (with_reducible repeat (first | refine blk_drewN ?_ _ | refine blk_drew ?_ | refine blk_alloc ?_ _)); refine blk_far ?_ NB926_927.out _; (with_reducible repeat (first | refine blk_drewN ?_ _ | refine blk_drew ?_ | refine blk_alloc ?_ _)); exact BK926.out) hb); have n3_ := Aside0.mk (blk_below (g := gb927) (o := .cells #[.slice Ao12 t928.length co12, .int .i64 0, .int .i64 0, .int .i64 0, .int .i64 0, .int .i64 0, .slice none 0 0] 51 (0, 0)) (by (with_reducible repeat (first | refine blk_drewN ?_ _ | refine blk_drew ?_ | refine blk_alloc ?_ _)); refine blk_put (cs := #[.slice none 0 0, .int .i64 0, .int .i64 0, .int .i64 0, .int .i64 0, .int .i64 0, .slice none 0 0]) ?_ 0 _ rfl; (with_reducible repeat (first | refine blk_drewN ?_ _ | refine blk_drew ?_ | refine blk_alloc ?_ _)); exact BK927.out) hb); have n4_ := Aside0.mk (below_step (by repeat (first | (with_reducible first | exact HB.out | apply below_alloc | apply pw_below_drewN | apply below_drew1 | refine below_set ?_ GE925.out | refine below_set ?_ GE926.out | refine below_set ?_ GE927.out) | exact HB.out)) hb); clear HO930; clear BK925; clear BK926; clear BK927; clear HB; have HO930 := n0_; have BK925 := n1_; have BK926 := n2_; have BK927 := n3_; have HB := n4_; clear n0_ n1_ n2_ n3_ n4_; (try clear hb); (try clear hb2); (try clear hk); (try clear hi); have hcz17_0 : w16.cell? ⟨gb927, 0, none⟩ = some (.slice Ao12 t928.length co12) := (blk_cell BK927.out 0).trans rfl; have hcz17_1 : w16.cell? ⟨gb927, 1, none⟩ = some (.int .i64 0) := (blk_cell BK927.out 1).trans rfl; have hcz17_2 : w16.cell? ⟨gb927, 2, none⟩ = some (.int .i64 0) := (blk_cell BK927.out 2).trans rfl; have hcz17_3 : w16.cell? ⟨gb927, 3, none⟩ = some (.int .i64 0) := (blk_cell BK927.out 3).trans rfl; have hcz17_4 : w16.cell? ⟨gb927, 4, none⟩ = some (.int .i64 0) := (blk_cell BK927.out 4).trans rfl; have hcz17_5 : w16.cell? ⟨gb927, 5, none⟩ = some (.int .i64 0) := (blk_cell BK927.out 5).trans rfl; have hcz17_6 : w16.cell? ⟨gb927, 6, none⟩ = some (.slice none 0 0) := (blk_cell BK927.out 6).trans rfl; have hfz17_0 := blk_frozen BK927.out 0; have hfz17_1 := blk_frozen BK927.out 1; have hfz17_2 := blk_frozen BK927.out 2; have hfz17_3 := blk_frozen BK927.out 3; have hfz17_4 := blk_frozen BK927.out 4; have hfz17_5 := blk_frozen BK927.out 5; have hfz17_6 := blk_frozen BK927.out 6; have hcz18_0 : w16.cell? ⟨gb925, 0, none⟩ = some (.slice A0_0 l0_0.length c0_0) := (blk_cell BK925.out 0).trans rfl; have hcz18_1 : w16.cell? ⟨gb925, 1, none⟩ = some (.int .i64 a0_1) := (blk_cell BK925.out 1).trans rfl; have hcz18_2 : w16.cell? ⟨gb925, 2, none⟩ = some (.int .i64 a0_2) := (blk_cell BK925.out 2).trans rfl; have hcz18_3 : w16.cell? ⟨gb925, 3, none⟩ = some (.int .i64 a0_3) := (blk_cell BK925.out 3).trans rfl; have hcz18_4 : w16.cell? ⟨gb925, 4, none⟩ = some (.int .i64 a0_4) := (blk_cell BK925.out 4).trans rfl; have hcz18_5 : w16.cell? ⟨gb925, 5, none⟩ = some (.int .i64 a0_5) := (blk_cell BK925.out 5).trans rfl; have hcz18_6 : w16.cell? ⟨gb925, 6, none⟩ = some (.slice A0_6 l0_6.length c0_6) := (blk_cell BK925.out 6).trans rfl; have hfz18_0 := blk_frozen BK925.out 0; have hfz18_1 := blk_frozen BK925.out 1; have hfz18_2 := blk_frozen BK925.out 2; have hfz18_3 := blk_frozen BK925.out 3; have hfz18_4 := blk_frozen BK925.out 4; have hfz18_5 := blk_frozen BK925.out 5; have hfz18_6 := blk_frozen BK925.out 6) | ((with_reducible refine gate_callee (f := 119) rfl ?_); refine goesL_ (some 17) rfl rfl Try.func119 (by kernel_rfl) rfl #[.slice A0_6 l0_6.length c0_6] rfl (by (try simp only [List.map_toArray, List.map_cons, List.map_nil]); first | done | rfl | (simp only [List.length_drop, List.length_take]; rfl)) ?_; (with_reducible refine (laws_toIntS.calls k _ _ l0_6 t935 _ ?side1 ?side2 A4.out).mono ?_); (case side1 => exact Kd.C_below HR0_6.out (by repeat (first | (with_reducible first | exact HB.out | apply below_alloc | apply pw_below_drewN | apply below_drew1 | refine below_set ?_ GE925.out | refine below_set ?_ GE926.out | refine below_set ?_ GE927.out) | exact HB.out))); (case side2 => exact HC0_6.out); rintro e w19 ⟨v936, rfl, ho0, hb⟩; refine ⟨_, rfl, ?_⟩; have n0_ := Aside0.mk (Kd.S_below (by (with_reducible repeat (first | apply Kd.S_alloc | apply Kd.S_drewN | apply Kd.S_drew)); exact (Kd.S_mono (Kd.S_far (p := ⟨gb927, 5, none⟩) (Kd.S_far (p := ⟨gb927, 4, none⟩) (Kd.S_far (p := ⟨gb927, 3, none⟩) (Kd.S_far (p := ⟨gb927, 2, none⟩) (Kd.S_far (p := ⟨gb927, 1, none⟩) (Kd.S_types HO930.out BK927.out (by decide)) (fun _ hk => hk.2) (.int .i64 t931)) (fun _ hk => hk.2) (.int .i64 t932)) (fun _ hk => hk.2) (.int .i64 t933)) (fun _ hk => hk.2) (.int .i64 t934)) (fun _ hk => hk.2) (.int .i64 a0_5)) (fun _ h_ => h_.1))) hb); have n1_ := Aside0.mk (Kd.R_lower ho0 (below_size (by repeat (first | (with_reducible first | exact HB.out | apply below_alloc | apply pw_below_drewN | apply below_drew1 | refine below_set ?_ GE925.out | refine below_set ?_ GE926.out | refine below_set ?_ GE927.out) | exact HB.out)))); have n2_ := Aside0.mk (blk_below (g := gb925) (o := .cells #[.slice A0_0 l0_0.length c0_0, .int .i64 a0_1, .int .i64 a0_2, .int .i64 a0_3, .int .i64 a0_4, .int .i64 a0_5, .slice A0_6 l0_6.length c0_6] 90 (0, 0)) (by (with_reducible repeat (first | refine blk_drewN ?_ _ | refine blk_drew ?_ | refine blk_alloc ?_ _)); refine blk_far ?_ NB925_927.out _; (with_reducible repeat (first | refine blk_drewN ?_ _ | refine blk_drew ?_ | refine blk_alloc ?_ _)); refine blk_far ?_ NB925_927.out _; (with_reducible repeat (first | refine blk_drewN ?_ _ | refine blk_drew ?_ | refine blk_alloc ?_ _)); refine blk_far ?_ NB925_927.out _; (with_reducible repeat (first | refine blk_drewN ?_ _ | refine blk_drew ?_ | refine blk_alloc ?_ _)); refine blk_far ?_ NB925_927.out _; (with_reducible repeat (first | refine blk_drewN ?_ _ | refine blk_drew ?_ | refine blk_alloc ?_ _)); refine blk_far ?_ NB925_927.out _; (with_reducible repeat (first | refine blk_drewN ?_ _ | refine blk_drew ?_ | refine blk_alloc ?_ _)); exact BK925.out) hb); have n3_ := Aside0.mk (blk_below (g := gb926) (o := .cells #[.slice none 0 0, .int .i64 0, .int .i64 0, .int .i64 0, .int .i64 0, .int .i64 0, .slice none 0 0] 51 (0, 0)) (by (with_reducible repeat (first | refine blk_drewN ?_ _ | refine blk_drew ?_ | refine blk_alloc ?_ _)); refine blk_far ?_ NB926_927.out _; (with_reducible repeat (first | refine blk_drewN ?_ _ | refine blk_drew ?_ | refine blk_alloc ?_ _)); refine blk_far ?_ NB926_927.out _; (with_reducible repeat (first | refine blk_drewN ?_ _ | refine blk_drew ?_ | refine blk_alloc ?_ _)); refine blk_far ?_ NB926_927.out _; (with_reducible repeat (first | refine blk_drewN ?_ _ | refine blk_drew ?_ | refine blk_alloc ?_ _)); refine blk_far ?_ NB926_927.out _; (with_reducible repeat (first | refine blk_drewN ?_ _ | refine blk_drew ?_ | refine blk_alloc ?_ _)); refine blk_far ?_ NB926_927.out _; (with_reducible repeat (first | refine blk_drewN ?_ _ | refine blk_drew ?_ | refine blk_alloc ?_ _)); exact BK926.out) hb); have n4_ := Aside0.mk (blk_below (g := gb927) (o := .cells #[.slice Ao12 t928.length co12, .int .i64 t931, .int .i64 t932, .int .i64 t933, .int .i64 t934, .int .i64 a0_5, .slice none 0 0] 51 (0, 0)) (by (with_reducible repeat (first | refine blk_drewN ?_ _ | refine blk_drew ?_ | refine blk_alloc ?_ _)); refine blk_put (cs := #[.slice Ao12 t928.length co12, .int .i64 t931, .int .i64 t932, .int .i64 t933, .int .i64 t934, .int .i64 0, .slice none 0 0]) ?_ 5 _ rfl; (with_reducible repeat (first | refine blk_drewN ?_ _ | refine blk_drew ?_ | refine blk_alloc ?_ _)); refine blk_put (cs := #[.slice Ao12 t928.length co12, .int .i64 t931, .int .i64 t932, .int .i64 t933, .int .i64 0, .int .i64 0, .slice none 0 0]) ?_ 4 _ rfl; (with_reducible repeat (first | refine blk_drewN ?_ _ | refine blk_drew ?_ | refine blk_alloc ?_ _)); refine blk_put (cs := #[.slice Ao12 t928.length co12, .int .i64 t931, .int .i64 t932, .int .i64 0, .int .i64 0, .int .i64 0, .slice none 0 0]) ?_ 3 _ rfl; (with_reducible repeat (first | refine blk_drewN ?_ _ | refine blk_drew ?_ | refine blk_alloc ?_ _)); refine blk_put (cs := #[.slice Ao12 t928.length co12, .int .i64 t931, .int .i64 0, .int .i64 0, .int .i64 0, .int .i64 0, .slice none 0 0]) ?_ 2 _ rfl; (with_reducible repeat (first | refine blk_drewN ?_ _ | refine blk_drew ?_ | refine blk_alloc ?_ _)); refine blk_put (cs := #[.slice Ao12 t928.length co12, .int .i64 0, .int .i64 0, .int .i64 0, .int .i64 0, .int .i64 0, .slice none 0 0]) ?_ 1 _ rfl; (with_reducible repeat (first | refine blk_drewN ?_ _ | refine blk_drew ?_ | refine blk_alloc ?_ _)); exact BK927.out) hb); have n5_ := Aside0.mk (below_step (by repeat (first | (with_reducible first | exact HB.out | apply below_alloc | apply pw_below_drewN | apply below_drew1 | refine below_set ?_ GE925.out | refine below_set ?_ GE926.out | refine below_set ?_ GE927.out) | exact HB.out)) hb); clear HO930; clear BK925; clear BK926; clear BK927; clear HB; have HO930 := n0_; have HO937 := n1_; have BK925 := n2_; have BK926 := n3_; have BK927 := n4_; have HB := n5_; clear n0_ n1_ n2_ n3_ n4_ n5_; (try clear hb); (try clear hb2); (try clear hk); (try clear hi); (try clear ho0); obtain ⟨Ao20, co20, eo20⟩ := Kd.R_slice HO937.out; subst eo20; have hcz21_0 : w19.cell? ⟨gb927, 0, none⟩ = some (.slice Ao12 t928.length co12) := (blk_cell BK927.out 0).trans rfl; have hcz21_1 : w19.cell? ⟨gb927, 1, none⟩ = some (.int .i64 t931) := (blk_cell BK927.out 1).trans rfl; have hcz21_2 : w19.cell? ⟨gb927, 2, none⟩ = some (.int .i64 t932) := (blk_cell BK927.out 2).trans rfl; have hcz21_3 : w19.cell? ⟨gb927, 3, none⟩ = some (.int .i64 t933) := (blk_cell BK927.out 3).trans rfl; have hcz21_4 : w19.cell? ⟨gb927, 4, none⟩ = some (.int .i64 t934) := (blk_cell BK927.out 4).trans rfl; have hcz21_5 : w19.cell? ⟨gb927, 5, none⟩ = some (.int .i64 a0_5) := (blk_cell BK927.out 5).trans rfl; have hcz21_6 : w19.cell? ⟨gb927, 6, none⟩ = some (.slice none 0 0) := (blk_cell BK927.out 6).trans rfl; have hfz21_0 := blk_frozen BK927.out 0; have hfz21_1 := blk_frozen BK927.out 1; have hfz21_2 := blk_frozen BK927.out 2; have hfz21_3 := blk_frozen BK927.out 3; have hfz21_4 := blk_frozen BK927.out 4; have hfz21_5 := blk_frozen BK927.out 5; have hfz21_6 := blk_frozen BK927.out 6; have hcz22_0 : w19.cell? ⟨gb926, 0, none⟩ = some (.slice none 0 0) := (blk_cell BK926.out 0).trans rfl; have hcz22_1 : w19.cell? ⟨gb926, 1, none⟩ = some (.int .i64 0) := (blk_cell BK926.out 1).trans rfl; have hcz22_2 : w19.cell? ⟨gb926, 2, none⟩ = some (.int .i64 0) := (blk_cell BK926.out 2).trans rfl; have hcz22_3 : w19.cell? ⟨gb926, 3, none⟩ = some (.int .i64 0) := (blk_cell BK926.out 3).trans rfl; have hcz22_4 : w19.cell? ⟨gb926, 4, none⟩ = some (.int .i64 0) := (blk_cell BK926.out 4).trans rfl; have hcz22_5 : w19.cell? ⟨gb926, 5, none⟩ = some (.int .i64 0) := (blk_cell BK926.out 5).trans rfl; have hcz22_6 : w19.cell? ⟨gb926, 6, none⟩ = some (.slice none 0 0) := (blk_cell BK926.out 6).trans rfl; have hfz22_0 := blk_frozen BK926.out 0; have hfz22_1 := blk_frozen BK926.out 1; have hfz22_2 := blk_frozen BK926.out 2; have hfz22_3 := blk_frozen BK926.out 3; have hfz22_4 := blk_frozen BK926.out 4; have hfz22_5 := blk_frozen BK926.out 5; have hfz22_6 := blk_frozen BK926.out 6))
  refine bodyPost_ret (results_cell_row rfl _ _ gb926 51 #[.slice Ao12 t928.length co12, .int .i64 t931, .int .i64 t932, .int .i64 t933, .int .i64 t934, .int .i64 a0_5, .slice Ao20 t935.length co20] (0, 0) _ rfl (by (with_reducible repeat (first | refine blk_drewN ?_ _ | refine blk_drew ?_ | refine blk_alloc ?_ _)); refine blk_put (cs := #[.slice Ao12 t928.length co12, .int .i64 t931, .int .i64 t932, .int .i64 t933, .int .i64 t934, .int .i64 a0_5, .slice none 0 0]) ?_ 6 _ rfl; (with_reducible repeat (first | refine blk_drewN ?_ _ | refine blk_drew ?_ | refine blk_alloc ?_ _)); refine blk_put (cs := #[.slice Ao12 t928.length co12, .int .i64 t931, .int .i64 t932, .int .i64 t933, .int .i64 t934, .int .i64 0, .slice none 0 0]) ?_ 5 _ rfl; (with_reducible repeat (first | refine blk_drewN ?_ _ | refine blk_drew ?_ | refine blk_alloc ?_ _)); refine blk_put (cs := #[.slice Ao12 t928.length co12, .int .i64 t931, .int .i64 t932, .int .i64 t933, .int .i64 0, .int .i64 0, .slice none 0 0]) ?_ 4 _ rfl; (with_reducible repeat (first | refine blk_drewN ?_ _ | refine blk_drew ?_ | refine blk_alloc ?_ _)); refine blk_put (cs := #[.slice Ao12 t928.length co12, .int .i64 t931, .int .i64 t932, .int .i64 0, .int .i64 0, .int .i64 0, .slice none 0 0]) ?_ 3 _ rfl; (with_reducible repeat (first | refine blk_drewN ?_ _ | refine blk_drew ?_ | refine blk_alloc ?_ _)); refine blk_put (cs := #[.slice Ao12 t928.length co12, .int .i64 t931, .int .i64 0, .int .i64 0, .int .i64 0, .int .i64 0, .slice none 0 0]) ?_ 2 _ rfl; (with_reducible repeat (first | refine blk_drewN ?_ _ | refine blk_drew ?_ | refine blk_alloc ?_ _)); refine blk_put (cs := #[.slice Ao12 t928.length co12, .int .i64 0, .int .i64 0, .int .i64 0, .int .i64 0, .int .i64 0, .slice none 0 0]) ?_ 1 _ rfl; (with_reducible repeat (first | refine blk_drewN ?_ _ | refine blk_drew ?_ | refine blk_alloc ?_ _)); refine blk_put (cs := #[.slice none 0 0, .int .i64 0, .int .i64 0, .int .i64 0, .int .i64 0, .int .i64 0, .slice none 0 0]) ?_ 0 _ rfl; (with_reducible repeat (first | refine blk_drewN ?_ _ | refine blk_drew ?_ | refine blk_alloc ?_ _)); refine blk_far ?_ NB926_927.out _; (with_reducible repeat (first | refine blk_drewN ?_ _ | refine blk_drew ?_ | refine blk_alloc ?_ _)); exact BK926.out) Try.underlying51 rfl (by kernel_rfl)) rfl ?_
  exact ⟨_, _, by first | rfl | (simp [errW_none, errW_some] <;> rfl) | (simp [*, errW_none, errW_some] <;> rfl), by (with_reducible repeat (first | apply Kd.S_alloc | apply Kd.S_drewN | apply Kd.S_drew)); exact Kd.S_mono (Kd.S_far (p := ⟨gb926, 6, none⟩) (Kd.S_far (p := ⟨gb926, 5, none⟩) (Kd.S_far (p := ⟨gb926, 4, none⟩) (Kd.S_far (p := ⟨gb926, 3, none⟩) (Kd.S_far (p := ⟨gb926, 2, none⟩) (Kd.S_far (p := ⟨gb926, 1, none⟩) (Kd.S_far (p := ⟨gb926, 0, none⟩) (Kd.S_far (p := ⟨gb927, 6, none⟩) (Kd.S_types (Kd.S_types HO930.out BK927.out (by decide)) BK926.out (by decide)) (fun _ hk => hk.1.2) (.slice Ao20 t935.length co20)) (fun _ hk => hk.2) (.slice Ao12 t928.length co12)) (fun _ hk => hk.2) (.int .i64 t931)) (fun _ hk => hk.2) (.int .i64 t932)) (fun _ hk => hk.2) (.int .i64 t933)) (fun _ hk => hk.2) (.int .i64 t934)) (fun _ hk => hk.2) (.int .i64 a0_5)) (fun _ hk => hk.2) (.slice Ao20 t935.length co20)) (fun _ hk => trivial), by (with_reducible repeat (first | apply Kd.R_alloc | apply Kd.R_drewN | apply Kd.R_drew)); exact Kd.R_mono (Kd.R_far (p := ⟨gb926, 6, none⟩) (Kd.R_far (p := ⟨gb926, 5, none⟩) (Kd.R_far (p := ⟨gb926, 4, none⟩) (Kd.R_far (p := ⟨gb926, 3, none⟩) (Kd.R_far (p := ⟨gb926, 2, none⟩) (Kd.R_far (p := ⟨gb926, 1, none⟩) (Kd.R_far (p := ⟨gb926, 0, none⟩) (Kd.R_far (p := ⟨gb927, 6, none⟩) (Kd.R_types (Kd.R_types HO937.out BK927.out (by decide)) BK926.out (by decide)) (fun _ hk => hk.1.2) (.slice Ao20 t935.length co20)) (fun _ hk => hk.2) (.slice Ao12 t928.length co12)) (fun _ hk => hk.2) (.int .i64 t931)) (fun _ hk => hk.2) (.int .i64 t932)) (fun _ hk => hk.2) (.int .i64 t933)) (fun _ hk => hk.2) (.int .i64 t934)) (fun _ hk => hk.2) (.int .i64 a0_5)) (fun _ hk => hk.2) (.slice Ao20 t935.length co20)) (fun _ hk => trivial), by repeat (first | (with_reducible first | exact HB.out | apply below_alloc | apply pw_below_drewN | apply below_drew1 | refine below_set ?_ GE925.out | refine below_set ?_ GE926.out | refine below_set ?_ GE927.out) | exact HB.out)⟩

end Go.Proofs.Ytoomjghabiojkaa.P


/- The contract of slices.Clone at []Int: the same elements in new memory. -/
namespace Go.Proofs.Ytoomjghabiojkaa.P
open Go.RowKit Go.Proofs.YtoomjghabiojkaaW.PrintWords Go.Proofs.YtoomjghabiojkaaW.PrintLast Go.Proofs.YtoomjghabiojkaaW.PrintMore
set_option linter.unusedVariables false
set_option linter.unusedSimpArgs false
def slices_Clone_int_int.f (l0 : List Int) : Option (List Int) := if l0.length < 17592186044416 then some l0 else none
theorem infoCInt : (Try.prog.info? 3).map (fun i => (i.zero, i.size, i.bytes)) = some (some (.int .i64 0), 1, 8) := by kernel_rfl
set_option maxHeartbeats 1000000 in
set_option maxRecDepth 100000 in
theorem slices_Clone_int_int.calls (A0 : Option Addr) (c0 : Nat) (l0 : List Int) (r : List Int) (w : World) (hr0 : Kd.C (Kd.int .i64) w A0 l0.length l0) (hc0 : l0.length ≤ c0) (h : slices_Clone_int_int.f l0 = some r) :
    Calls Try.prog 150 #[.slice A0 l0.length c0] w fun e w' => ∃ v0_ : Value, e = .returned (v0_) ∧ Kd.R (Kd.int .i64) 3 w' w.heap.size (fun _ => True) v0_ r ∧ Below w.heap.size w w' := by
  have HR0 := Aside0.mk hr0
  have HC0 := Aside0.mk hc0
  clear hr0 hc0
  unfold slices_Clone_int_int.f at h
  split at h
  next hlim =>
    obtain rfl := Option.some.inj h
    have HL := Aside0.mk hlim
    clear hlim h
    rcases A0 with _ | ad
    · have hnil : l0 = [] := by
        rcases Nat.eq_zero_or_pos l0.length with h0 | h0
        · exact List.eq_nil_of_length_eq_zero h0
        · obtain ⟨_, h1, _⟩ := HR0.out.2.2 h0
          cases h1
      subst hnil
      have hq2 := fun w => Lib.run_eql_slice_nil (P := Try.prog) w 49 3 none 0 c0 0 0 Try.underlying49
      go_enter Try.func150, Try.ntmps150
      go_wp2
      go_ret
      exact ⟨_, rfl, Kd.R_nil _ _ _ _ _, Below.refl _ _⟩
    · have hq := fun w => Lib.run_eql_slice_nil (P := Try.prog) w 49 3 (some ad) l0.length c0 0 0 Try.underlying49
      go_enter Try.func150, Try.ntmps150
      go_wp2_with (first | ((with_reducible refine gate_dst (N := 5) rfl ?_); refine Kd.R_lit (Kd.int .i64) (w0 := w) w.heap.size 3 (by rfl) (N := 5) rfl (xs := []) (inner := []) (ok := fun _ => True) (okp := fun _ => False) ?r1 ?r2 (fun _ _ => trivial) trivial (Below.refl _ _) (Nat.le_refl _) (by decide) ?_; (case r1 => go_simp; try rfl); (case r2 => exact ⟨rfl, fun j p hj => by cases hj⟩); intro v1 w1 ho hb hg hat; have HO := Aside0.mk ho; have HB := Aside0.mk hb; clear ho hb hg hat) | ((with_reducible refine gate_dst (N := 7) rfl ?_); refine Kd.R_append_rows (Kd.int .i64) (Rr := (Kd.int .i64).K w) (w0 := w) w.heap.size (by rfl) (.tmp 5) (.tmp 6) 49 3 (.int .i64 0) 8 (by rfl) Try.underlying49 infoCInt rfl (by decide) (by decide) _ [] l0 (some ad) l0.length c0 (fun _ => True) (fun _ => False) (by rfl) (by rfl) ?c1 ?c2 ?c3 ?c4 ?c5 ?c6 ?c7 ?c8 ?_; (case c1 => exact HO.out); (case c2 => exact Kd.C_below HR0.out HB.out); (case c3 => exact (fun _ _ h => h)); (case c4 => exact fun _ h => h.elim); (case c5 => exact fun _ _ => trivial); (case c6 => exact HB.out); (case c7 => exact HB.out.size); (case c8 => have := HL.out; simp only [List.length_nil]; omega); intro v2 w2 ho hb hg hat; clear HB; have HB := Aside0.mk hb; have HO2 := Aside0.mk ho; clear ho hb hg hat))
      go_ret
      exact ⟨_, rfl, HO2.out, HB.out⟩
  next => cases h
end Go.Proofs.Ytoomjghabiojkaa.P


namespace Go.Proofs.Ytoomjghabiojkaa.P
open Go.RowKit Go.Proofs.YtoomjghabiojkaaW.PrintWords Go.Proofs.YtoomjghabiojkaaW.PrintLast Go.Proofs.YtoomjghabiojkaaW.PrintMore
attribute [local go_sem] max2_int min2_int max_two min_two max_three min_three max_four min_four   -- for this text's walks alone
set_option linter.unusedVariables false
set_option linter.unusedSimpArgs false

def impl_Arena_own.f (k : Nat) (l0_0 : List (List Int)) (a0_1 : Int) (a0_2 : Int) (a0_3 : Int) (a0_4 : Int) (a0_5 : Int) (l0_6 : List Int) : Option ((List (List Int)) × Int × Int × Int × Int × Int × List Int) := (impl_Memory_own.f k l0_0).bind fun t955 => ((slices_Clone_int_int.f l0_6).bind fun t958 => (some (t955, a0_1, a0_2, a0_3, a0_4, a0_5, t958)))
def impl_Arena_own.T1 : Bool × List (List Nat × List Nat) := (true, [([], []), ([0], [0]), ([1], [1]), ([], []), ([3], [3]), ([4, 2], [4]), ([0, 1, 2, 3, 4], []), ([6, 2, 5, 0, 1, 2, 3, 4], [2, 6]), ([0, 1, 2, 3, 4, 5, 6, 7], []), ([8, 5, 7, 0, 1, 2, 3, 4, 5, 6, 7], [5, 8])])
def impl_Arena_own.B1 : List Nat := [0, 1, 3, 0, 8, 31, 31, 127, 255, 511]
theorem impl_Arena_own.tab1 : rtab .any (opsOf Try.f121 1) = impl_Arena_own.T1 := by kernel_rfl
theorem impl_Arena_own.bits1 : waitsOk impl_Arena_own.T1.2 impl_Arena_own.B1 = true := by kernel_rfl
set_option maxHeartbeats 8000000 in
set_option maxRecDepth 100000 in
theorem impl_Arena_own.calls (k : Nat) (A0_0 : Option Addr) (c0_0 : Nat) (l0_0 : List (List Int)) (a0_1 : Int) (a0_2 : Int) (a0_3 : Int) (a0_4 : Int) (a0_5 : Int) (A0_6 : Option Addr) (c0_6 : Nat) (l0_6 : List Int) (r1 : List (List Int)) (r2 : Int) (r3 : Int) (r4 : Int) (r5 : Int) (r6 : Int) (r7 : List Int) (w : World) (hr0_0 : Kd.C (Kd.slice 5 (Kd.int .u8)) w A0_0 l0_0.length l0_0) (hc0_0 : l0_0.length ≤ c0_0) (hr0_6 : Kd.C (Kd.int .i64) w A0_6 l0_6.length l0_6) (hc0_6 : l0_6.length ≤ c0_6) (h : impl_Arena_own.f k l0_0 a0_1 a0_2 a0_3 a0_4 a0_5 l0_6 = some (r1, r2, r3, r4, r5, r6, r7)) :
    Calls Try.prog 121 #[.agg #[.slice A0_0 l0_0.length c0_0, .int .i64 a0_1, .int .i64 a0_2, .int .i64 a0_3, .int .i64 a0_4, .int .i64 a0_5, .slice A0_6 l0_6.length c0_6]] w fun e w' => ∃ v0_ v6_ : Value, e = .returned (.agg #[v0_, .int .i64 r2, .int .i64 r3, .int .i64 r4, .int .i64 r5, .int .i64 r6, v6_]) ∧ Kd.S (Kd.slice 5 (Kd.int .u8)) 119 w' w.heap.size (fun _ => True) v0_ r1 ∧ Kd.R (Kd.int .i64) 3 w' w.heap.size (fun _ => True) v6_ r7 ∧ Below w.heap.size w w' := by
  have hu51 := Try.underlying51
  have hu26 := Try.underlying26
  have HR0_0 := Aside0.mk hr0_0
  have HC0_0 := Aside0.mk hc0_0
  clear hr0_0 hc0_0
  have HR0_6 := Aside0.mk hr0_6
  have HC0_6 := Aside0.mk hc0_6
  clear hr0_6 hc0_6
  have HB := Aside0.mk (Below.refl w.heap.size w)
  have H : ((impl_Memory_own.f k l0_0).bind fun t955 => ((slices_Clone_int_int.f l0_6).bind fun t958 => (some (t955, a0_1, a0_2, a0_3, a0_4, a0_5, t958)))) = some (r1, r2, r3, r4, r5, r6, r7) := h
  clear h
  replace H := Option.bind_eq_some_iff.mp H
  obtain ⟨t955, A20, H⟩ := H
  replace H : ((slices_Clone_int_int.f l0_6).bind fun t958 => (some (t955, a0_1, a0_2, a0_3, a0_4, a0_5, t958))) = some (r1, r2, r3, r4, r5, r6, r7) := H
  have A2 := Aside0.mk A20
  clear A20
  replace H := Option.bind_eq_some_iff.mp H
  obtain ⟨t958, A30, H⟩ := H
  replace H : (some (t955, a0_1, a0_2, a0_3, a0_4, a0_5, t958)) = some (r1, r2, r3, r4, r5, r6, r7) := H
  have A3 := Aside0.mk A30
  clear A30
  simp only [Option.some.injEq, Prod.mk.injEq] at H
  obtain ⟨rfl, rfl, rfl, rfl, rfl, rfl, rfl⟩ := H
  go_enter Try.func121, Try.ntmps121
  try go_wp2_with (first | ((with_reducible refine gate_dst (N := 1) rfl ?_); refine box_event ?hg (N := 1) ?hd (cs := #[.slice A0_0 l0_0.length c0_0, .int .i64 a0_1, .int .i64 a0_2, .int .i64 a0_3, .int .i64 a0_4, .int .i64 a0_5, .slice A0_6 l0_6.length c0_6]) (t := 51) ?hr ?_; (case hd => rfl); (case hg => rfl); (case hr => first | (go_simp; done) | (go_simp; rfl)); intro gb953 hg w4 hbox hb; have n0_ := Aside0.mk (below_step (by repeat (first | (with_reducible first | exact HB.out | apply below_alloc | apply pw_below_drewN | apply below_drew1) | exact HB.out)) hb); have n1_ := Aside0.mk (hbox); have n2_ := Aside0.mk ((by rw [hg]; exact (below_size (by repeat (first | (with_reducible first | exact HB.out | apply below_alloc | apply pw_below_drewN | apply below_drew1) | exact HB.out))) : w.heap.size ≤ gb953)); have n3_ := Aside0.mk ((by rw [hg]; exact (below_size (by repeat (first | (with_reducible first | exact HB.out | apply below_alloc | apply pw_below_drewN | apply below_drew1) | exact HB.out))) : w.heap.size ≤ gb953)); clear HB; have HB := n0_; have BK953 := n1_; have GW953 := n2_; have GE953 := n3_; clear n0_ n1_ n2_ n3_; clear hb hbox hg) | ((with_reducible refine gate_dst (N := 2) rfl ?_); refine box_event ?hg (N := 2) ?hd (cs := #[.slice none 0 0, .int .i64 0, .int .i64 0, .int .i64 0, .int .i64 0, .int .i64 0, .slice none 0 0]) (t := 51) ?hr ?_; (case hd => rfl); (case hg => rfl); (case hr => first | (go_simp; done) | (go_simp; rfl)); intro gb954 hg w5 hbox hb; have n0_ := Aside0.mk (blk_below (g := gb953) (o := .cells #[.slice A0_0 l0_0.length c0_0, .int .i64 a0_1, .int .i64 a0_2, .int .i64 a0_3, .int .i64 a0_4, .int .i64 a0_5, .slice A0_6 l0_6.length c0_6] 51 (0, 0)) (by (with_reducible repeat (first | refine blk_drewN ?_ _ | refine blk_drew ?_ | refine blk_alloc ?_ _)); exact BK953.out) hb); have n1_ := Aside0.mk (below_step (by repeat (first | (with_reducible first | exact HB.out | apply below_alloc | apply pw_below_drewN | apply below_drew1 | refine below_set ?_ GE953.out) | exact HB.out)) hb); have n2_ := Aside0.mk (hbox); have n3_ := Aside0.mk ((by rw [hg]; exact (below_size (by repeat (first | (with_reducible first | exact HB.out | apply below_alloc | apply pw_below_drewN | apply below_drew1 | refine below_set ?_ GE953.out) | exact HB.out))) : w.heap.size ≤ gb954)); have n4_ := Aside0.mk ((by rw [hg]; exact (below_size (by repeat (first | (with_reducible first | exact HB.out | apply below_alloc | apply pw_below_drewN | apply below_drew1 | refine below_set ?_ GE953.out) | exact HB.out))) : w.heap.size ≤ gb954)); have n5_ := Aside0.mk ((by rw [hg]; exact Nat.ne_of_lt (blk_lt (g := gb953) (o := .cells #[.slice A0_0 l0_0.length c0_0, .int .i64 a0_1, .int .i64 a0_2, .int .i64 a0_3, .int .i64 a0_4, .int .i64 a0_5, .slice A0_6 l0_6.length c0_6] 51 (0, 0)) (by (with_reducible repeat (first | refine blk_drewN ?_ _ | refine blk_drew ?_ | refine blk_alloc ?_ _)); exact BK953.out)) : gb953 ≠ gb954)); have n6_ := Aside0.mk ((by rw [hg]; exact Nat.ne_of_gt (blk_lt (g := gb953) (o := .cells #[.slice A0_0 l0_0.length c0_0, .int .i64 a0_1, .int .i64 a0_2, .int .i64 a0_3, .int .i64 a0_4, .int .i64 a0_5, .slice A0_6 l0_6.length c0_6] 51 (0, 0)) (by (with_reducible repeat (first | refine blk_drewN ?_ _ | refine blk_drew ?_ | refine blk_alloc ?_ _)); exact BK953.out)) : gb954 ≠ gb953)); clear BK953; clear HB; have BK953 := n0_; have HB := n1_; have BK954 := n2_; have GW954 := n3_; have GE954 := n4_; have NB953_954 := n5_; have NB954_953 := n6_; clear n0_ n1_ n2_ n3_ n4_ n5_ n6_; clear hb hbox hg))
  have n0_ := Aside0.mk (blk_drew BK953.out)
  have n1_ := Aside0.mk (blk_drew BK954.out)
  have n2_ := Aside0.mk (below_drew1 HB.out)
  clear BK953
  clear BK954
  clear HB
  have BK953 := n0_
  have BK954 := n1_
  have HB := n2_
  clear n0_ n1_ n2_
  refine start_ (n := 10) (S := fun w' => w'.cell? ⟨gb953, 0, none⟩ = some (.slice A0_0 l0_0.length c0_0) ∧ w'.cell? ⟨gb953, 1, none⟩ = some (.int .i64 a0_1) ∧ w'.cell? ⟨gb953, 2, none⟩ = some (.int .i64 a0_2) ∧ w'.cell? ⟨gb953, 3, none⟩ = some (.int .i64 a0_3) ∧ w'.cell? ⟨gb953, 4, none⟩ = some (.int .i64 a0_4) ∧ w'.cell? ⟨gb953, 5, none⟩ = some (.int .i64 a0_5) ∧ w'.cell? ⟨gb953, 6, none⟩ = some (.slice A0_6 l0_6.length c0_6)) (ds := [7, 9]) #[false, false, false, false, false, false, false, false, false, false] (by kernel_rfl) rfl rfl ⟨(blk_cell BK953.out 0).trans rfl, (blk_cell BK953.out 1).trans rfl, (blk_cell BK953.out 2).trans rfl, (blk_cell BK953.out 3).trans rfl, (blk_cell BK953.out 4).trans rfl, (blk_cell BK953.out 5).trans rfl, (blk_cell BK953.out 6).trans rfl⟩ (fun hHeld => ?_); refine with_tabW impl_Arena_own.tab1 impl_Arena_own.bits1 (fun HT_ HW_ => ?_)
  generalize w5.drew = w6 at BK953 BK954 HB hHeld ⊢
  refine pure_ (i := 0) (N := some 3) (v := ?_) (a' := ?_) #[true, false, false, false, false, false, false, false, false, false] rfl rfl (any_of HT_.out (by kernel_rfl)) (fun _ _ _ h => h) (Or.inl ⟨by rfl, ?_⟩) ?_ ?_
  rotate_left
  · intro w'
    go_simp
    with_reducible rfl
  rotate_left
  · simp only [Act.put, List.setIfInBounds_toArray, List.set_cons_zero, List.set_cons_succ, i64_w, i32_w]
    rfl
  refine pure_ (i := 3) (N := some 6) (v := ?_) (a' := ?_) #[true, false, false, true, false, false, false, false, false, false] rfl rfl (any_of HT_.out (by kernel_rfl)) (fun _ _ _ h => h) (Or.inl ⟨by rfl, ?_⟩) ?_ ?_
  rotate_left
  · intro w'
    go_simp
    with_reducible rfl
  rotate_left
  · simp only [Act.put, List.setIfInBounds_toArray, List.set_cons_zero, List.set_cons_succ, i64_w, i32_w]
    rfl
  refine take_ (i := 1) (N := some 4) (v := ?_) (a' := ?_) #[true, true, false, true, false, false, false, false, false, false] rfl rfl (take_ofW HT_.out HW_.out (by kernel_rfl)) (fun _ _ _ h => h) (Or.inl ⟨by rfl, ?_⟩) hHeld ?_ ?_
  rotate_left
  · rintro w' ⟨s0, s1, s2, s3, s4, s5, s6⟩
    go_simp
    with_reducible rfl
  rotate_left
  · simp only [Act.put, List.setIfInBounds_toArray, List.set_cons_zero, List.set_cons_succ, i64_w, i32_w]
    rfl
  refine take_ (i := 4) (N := some 7) (v := ?_) (a' := ?_) #[true, true, false, true, true, false, false, false, false, false] rfl rfl (take_ofW HT_.out HW_.out (by kernel_rfl)) (fun _ _ _ h => h) (Or.inl ⟨by rfl, ?_⟩) hHeld ?_ ?_
  rotate_left
  · rintro w' ⟨s0, s1, s2, s3, s4, s5, s6⟩
    go_simp
    with_reducible rfl
  rotate_left
  · simp only [Act.put, List.setIfInBounds_toArray, List.set_cons_zero, List.set_cons_succ, i64_w, i32_w]
    rfl
  refine one_ (i := 2) (N := some 5) #[true, true, true, true, true, false, false, false, false, false] rfl rfl (one_of HT_.out (by kernel_rfl)) (by decide) (fun K hK => ?_)
  refine goes_ Try.func76 (by kernel_rfl) rfl #[.agg #[.slice A0_0 l0_0.length c0_0]] (by rfl) rfl rfl (by (try simp only [List.map_toArray, List.map_cons, List.map_nil]); first | done | rfl | (simp only [List.length_drop, List.length_take]; rfl)) ?_
  with_reducible refine (impl_Memory_own.calls k _ _ l0_0 t955 _ ?side1 ?side2 A2.out).mono ?_
  (case side1 => repeat (first | exact (Kd.C_below HR0_0.out HB.out) | (with_reducible refine Kd.C_alloc ?_ _) | (with_reducible refine Kd.C_drewN ?_ _) | (with_reducible refine Kd.C_drew ?_)))
  (case side2 => exact HC0_0.out)
  rintro e w7 ⟨v956, rfl, ho0, hb⟩
  refine ⟨_, rfl, ?_⟩
  have n0_ := Aside0.mk (Kd.S_lower ho0 (below_size (by repeat (first | (with_reducible first | exact HB.out | apply below_alloc | apply pw_below_drewN | apply below_drew1 | refine below_set ?_ GE953.out | refine below_set ?_ GE954.out) | exact HB.out))))
  have n1_ := Aside0.mk (blk_below (g := gb953) (o := .cells #[.slice A0_0 l0_0.length c0_0, .int .i64 a0_1, .int .i64 a0_2, .int .i64 a0_3, .int .i64 a0_4, .int .i64 a0_5, .slice A0_6 l0_6.length c0_6] 51 (0, 0)) (by (with_reducible repeat (first | refine blk_drewN ?_ _ | refine blk_drew ?_ | refine blk_alloc ?_ _)); exact BK953.out) hb)
  have n2_ := Aside0.mk (blk_below (g := gb954) (o := .cells #[.slice none 0 0, .int .i64 0, .int .i64 0, .int .i64 0, .int .i64 0, .int .i64 0, .slice none 0 0] 51 (0, 0)) (by (with_reducible repeat (first | refine blk_drewN ?_ _ | refine blk_drew ?_ | refine blk_alloc ?_ _)); exact BK954.out) hb)
  have n3_ := Aside0.mk (below_step (by repeat (first | (with_reducible first | exact HB.out | apply below_alloc | apply pw_below_drewN | apply below_drew1 | refine below_set ?_ GE953.out | refine below_set ?_ GE954.out) | exact HB.out)) hb)
  clear BK953
  clear BK954
  clear HB
  have HO957 := n0_
  have BK953 := n1_
  have BK954 := n2_
  have HB := n3_
  clear n0_ n1_ n2_ n3_
  (try clear hb)
  (try clear hb2)
  (try clear hk)
  (try clear hi)
  (try clear ho0)
  refine hK.out _ _ ⟨(blk_cell BK953.out 0).trans rfl, (blk_cell BK953.out 1).trans rfl, (blk_cell BK953.out 2).trans rfl, (blk_cell BK953.out 3).trans rfl, (blk_cell BK953.out 4).trans rfl, (blk_cell BK953.out 5).trans rfl, (blk_cell BK953.out 6).trans rfl⟩ (fun hHeld => ?_)
  clear hK K
  refine norm_ (a' := ?_) ?_ ?_
  rotate_left
  · show Act.put _ (some 5) _ = _
    simp only [Act.put, List.setIfInBounds_toArray, List.set_cons_zero, List.set_cons_succ, i64_w, i32_w]
    rfl
  refine pure_ (i := 6) (N := some 9) (v := ?_) (a' := ?_) #[true, true, true, true, true, false, true, false, false, false] rfl rfl (any_of HT_.out (by kernel_rfl)) (fun _ _ _ h => h) (Or.inl ⟨by rfl, ?_⟩) ?_ ?_
  rotate_left
  · intro w'
    go_simp
    with_reducible rfl
  rotate_left
  · simp only [Act.put, List.setIfInBounds_toArray, List.set_cons_zero, List.set_cons_succ, i64_w, i32_w]
    rfl
  refine one_ (i := 5) (N := some 8) #[true, true, true, true, true, true, true, false, false, false] rfl rfl (one_of HT_.out (by kernel_rfl)) (by decide) (fun K hK => ?_)
  refine goes_ Try.func150 (by kernel_rfl) rfl #[.slice A0_6 l0_6.length c0_6] (by rfl) rfl rfl (by (try simp only [List.map_toArray, List.map_cons, List.map_nil]); first | done | rfl | (simp only [List.length_drop, List.length_take]; rfl)) ?_
  with_reducible refine (slices_Clone_int_int.calls _ _ l0_6 t958 _ ?side1 ?side2 A3.out).mono ?_
  (case side1 => repeat (first | exact (Kd.C_below HR0_6.out HB.out) | (with_reducible refine Kd.C_alloc ?_ _) | (with_reducible refine Kd.C_drewN ?_ _) | (with_reducible refine Kd.C_drew ?_)))
  (case side2 => exact HC0_6.out)
  rintro e w8 ⟨v959, rfl, ho0, hb⟩
  refine ⟨_, rfl, ?_⟩
  have n0_ := Aside0.mk (Kd.S_below (by (with_reducible repeat (first | apply Kd.S_alloc | apply Kd.S_drewN | apply Kd.S_drew)); exact HO957.out) hb)
  have n1_ := Aside0.mk (Kd.R_lower ho0 (below_size (by repeat (first | (with_reducible first | exact HB.out | apply below_alloc | apply pw_below_drewN | apply below_drew1 | refine below_set ?_ GE953.out | refine below_set ?_ GE954.out) | exact HB.out))))
  have n2_ := Aside0.mk (blk_below (g := gb953) (o := .cells #[.slice A0_0 l0_0.length c0_0, .int .i64 a0_1, .int .i64 a0_2, .int .i64 a0_3, .int .i64 a0_4, .int .i64 a0_5, .slice A0_6 l0_6.length c0_6] 51 (0, 0)) (by (with_reducible repeat (first | refine blk_drewN ?_ _ | refine blk_drew ?_ | refine blk_alloc ?_ _)); exact BK953.out) hb)
  have n3_ := Aside0.mk (blk_below (g := gb954) (o := .cells #[.slice none 0 0, .int .i64 0, .int .i64 0, .int .i64 0, .int .i64 0, .int .i64 0, .slice none 0 0] 51 (0, 0)) (by (with_reducible repeat (first | refine blk_drewN ?_ _ | refine blk_drew ?_ | refine blk_alloc ?_ _)); exact BK954.out) hb)
  have n4_ := Aside0.mk (below_step (by repeat (first | (with_reducible first | exact HB.out | apply below_alloc | apply pw_below_drewN | apply below_drew1 | refine below_set ?_ GE953.out | refine below_set ?_ GE954.out) | exact HB.out)) hb)
  clear HO957
  clear BK953
  clear BK954
  clear HB
  have HO957 := n0_
  have HO960 := n1_
  have BK953 := n2_
  have BK954 := n3_
  have HB := n4_
  clear n0_ n1_ n2_ n3_ n4_
  (try clear hb)
  (try clear hb2)
  (try clear hk)
  (try clear hi)
  (try clear ho0)
  obtain ⟨Ao9, co9, eo9⟩ := Kd.S_slice HO957.out
  (first | subst eo9 | (injection eo9 with f1_ f2_ f3_; have f4_ := f1_.symm; have f5_ := f3_.symm; clear f1_ f2_ f3_; subst f4_; subst f5_))
  obtain ⟨Ao11, co11, eo11⟩ := Kd.R_slice HO960.out
  (first | subst eo11 | (injection eo11 with f1_ f2_ f3_; have f4_ := f1_.symm; have f5_ := f3_.symm; clear f1_ f2_ f3_; subst f4_; subst f5_))
  refine hK.out _ _ ⟨(blk_cell BK953.out 0).trans rfl, (blk_cell BK953.out 1).trans rfl, (blk_cell BK953.out 2).trans rfl, (blk_cell BK953.out 3).trans rfl, (blk_cell BK953.out 4).trans rfl, (blk_cell BK953.out 5).trans rfl, (blk_cell BK953.out 6).trans rfl⟩ (fun hHeld => ?_)
  clear hK K
  refine norm_ (a' := ?_) ?_ ?_
  rotate_left
  · show Act.put _ (some 8) _ = _
    simp only [Act.put, List.setIfInBounds_toArray, List.set_cons_zero, List.set_cons_succ, i64_w, i32_w]
    rfl
  refine last_ (i := 7) (N := none) #[true, true, true, true, true, true, true, true, false, false] rfl rfl (one_of HT_.out (by kernel_rfl)) (by decide) (fun K hK => ?_)
  have hs10 : w8.cell? ⟨gb953, 0, none⟩ = some (.slice A0_0 l0_0.length c0_0) := (blk_cell BK953.out 0).trans rfl
  have hfs10 := blk_frozen BK953.out 0
  have hns10_1 := NB954_953.out
  have hms10_1 := NB953_954.out
  refine skip_ (w1 := ?_) (by rfl) rfl ?_ ?_
  rotate_left
  · go_simp
    rfl
  refine hK.out _ _ ?_
  clear hK K
  refine pure_ (i := 8) (N := some 10) (v := ?_) (a' := ?_) #[true, true, true, true, true, true, true, true, true, false] rfl rfl (any_of HT_.out (by kernel_rfl)) (fun _ _ _ h => h) (Or.inl ⟨by rfl, ?_⟩) ?_ ?_
  rotate_left
  · intro w'
    go_simp
    with_reducible rfl
  rotate_left
  · simp only [Act.put, List.setIfInBounds_toArray, List.set_cons_zero, List.set_cons_succ, i64_w, i32_w]
    rfl
  refine last_ (i := 9) (N := none) #[true, true, true, true, true, true, true, true, true, true] rfl rfl (one_of HT_.out (by kernel_rfl)) (by decide) (fun K hK => ?_)
  have hs12 : w8.cell? ⟨gb953, 6, none⟩ = some (.slice A0_6 l0_6.length c0_6) := (blk_cell BK953.out 6).trans rfl
  have hfs12 := blk_frozen BK953.out 6
  have hns12_1 := NB954_953.out
  have hms12_1 := NB953_954.out
  refine skip_ (w1 := ?_) (by rfl) rfl ?_ ?_
  rotate_left
  · go_simp
    rfl
  refine hK.out _ _ ?_
  clear hK K
  refine done_ (done_of HT_.out (by kernel_rfl)) ?_
  have hnb13 := NB953_954.out
  have hnc13 := NB954_953.out
  have hcz14_0 : w8.cell? ⟨gb953, 0, none⟩ = some (.slice A0_0 l0_0.length c0_0) := (blk_cell BK953.out 0).trans rfl
  have hcz14_1 : w8.cell? ⟨gb953, 1, none⟩ = some (.int .i64 a0_1) := (blk_cell BK953.out 1).trans rfl
  have hcz14_2 : w8.cell? ⟨gb953, 2, none⟩ = some (.int .i64 a0_2) := (blk_cell BK953.out 2).trans rfl
  have hcz14_3 : w8.cell? ⟨gb953, 3, none⟩ = some (.int .i64 a0_3) := (blk_cell BK953.out 3).trans rfl
  have hcz14_4 : w8.cell? ⟨gb953, 4, none⟩ = some (.int .i64 a0_4) := (blk_cell BK953.out 4).trans rfl
  have hcz14_5 : w8.cell? ⟨gb953, 5, none⟩ = some (.int .i64 a0_5) := (blk_cell BK953.out 5).trans rfl
  have hcz14_6 : w8.cell? ⟨gb953, 6, none⟩ = some (.slice A0_6 l0_6.length c0_6) := (blk_cell BK953.out 6).trans rfl
  have hfz14_0 := blk_frozen BK953.out 0
  have hfz14_1 := blk_frozen BK953.out 1
  have hfz14_2 := blk_frozen BK953.out 2
  have hfz14_3 := blk_frozen BK953.out 3
  have hfz14_4 := blk_frozen BK953.out 4
  have hfz14_5 := blk_frozen BK953.out 5
  have hfz14_6 := blk_frozen BK953.out 6
  have hcz15_0 : w8.cell? ⟨gb954, 0, none⟩ = some (.slice none 0 0) := (blk_cell BK954.out 0).trans rfl
  have hcz15_1 : w8.cell? ⟨gb954, 1, none⟩ = some (.int .i64 0) := (blk_cell BK954.out 1).trans rfl
  have hcz15_2 : w8.cell? ⟨gb954, 2, none⟩ = some (.int .i64 0) := (blk_cell BK954.out 2).trans rfl
  have hcz15_3 : w8.cell? ⟨gb954, 3, none⟩ = some (.int .i64 0) := (blk_cell BK954.out 3).trans rfl
  have hcz15_4 : w8.cell? ⟨gb954, 4, none⟩ = some (.int .i64 0) := (blk_cell BK954.out 4).trans rfl
  have hcz15_5 : w8.cell? ⟨gb954, 5, none⟩ = some (.int .i64 0) := (blk_cell BK954.out 5).trans rfl
  have hcz15_6 : w8.cell? ⟨gb954, 6, none⟩ = some (.slice none 0 0) := (blk_cell BK954.out 6).trans rfl
  have hfz15_0 := blk_frozen BK954.out 0
  have hfz15_1 := blk_frozen BK954.out 1
  have hfz15_2 := blk_frozen BK954.out 2
  have hfz15_3 := blk_frozen BK954.out 3
  have hfz15_4 := blk_frozen BK954.out 4
  have hfz15_5 := blk_frozen BK954.out 5
  have hfz15_6 := blk_frozen BK954.out 6
  try go_wp2
  refine bodyPost_ret (results_cell_row rfl _ _ gb954 51 #[.slice Ao9 t955.length co9, .int .i64 a0_1, .int .i64 a0_2, .int .i64 a0_3, .int .i64 a0_4, .int .i64 a0_5, .slice Ao11 t958.length co11] (0, 0) _ rfl (by (with_reducible repeat (first | refine blk_drewN ?_ _ | refine blk_drew ?_ | refine blk_alloc ?_ _)); refine blk_put (cs := #[.slice Ao9 t955.length co9, .int .i64 a0_1, .int .i64 a0_2, .int .i64 a0_3, .int .i64 a0_4, .int .i64 a0_5, .slice none 0 0]) ?_ 6 _ rfl; (with_reducible repeat (first | refine blk_drewN ?_ _ | refine blk_drew ?_ | refine blk_alloc ?_ _)); refine blk_put (cs := #[.slice Ao9 t955.length co9, .int .i64 a0_1, .int .i64 a0_2, .int .i64 a0_3, .int .i64 a0_4, .int .i64 0, .slice none 0 0]) ?_ 5 _ rfl; (with_reducible repeat (first | refine blk_drewN ?_ _ | refine blk_drew ?_ | refine blk_alloc ?_ _)); refine blk_put (cs := #[.slice Ao9 t955.length co9, .int .i64 a0_1, .int .i64 a0_2, .int .i64 a0_3, .int .i64 0, .int .i64 0, .slice none 0 0]) ?_ 4 _ rfl; (with_reducible repeat (first | refine blk_drewN ?_ _ | refine blk_drew ?_ | refine blk_alloc ?_ _)); refine blk_put (cs := #[.slice Ao9 t955.length co9, .int .i64 a0_1, .int .i64 a0_2, .int .i64 0, .int .i64 0, .int .i64 0, .slice none 0 0]) ?_ 3 _ rfl; (with_reducible repeat (first | refine blk_drewN ?_ _ | refine blk_drew ?_ | refine blk_alloc ?_ _)); refine blk_put (cs := #[.slice Ao9 t955.length co9, .int .i64 a0_1, .int .i64 0, .int .i64 0, .int .i64 0, .int .i64 0, .slice none 0 0]) ?_ 2 _ rfl; (with_reducible repeat (first | refine blk_drewN ?_ _ | refine blk_drew ?_ | refine blk_alloc ?_ _)); refine blk_put (cs := #[.slice Ao9 t955.length co9, .int .i64 0, .int .i64 0, .int .i64 0, .int .i64 0, .int .i64 0, .slice none 0 0]) ?_ 1 _ rfl; (with_reducible repeat (first | refine blk_drewN ?_ _ | refine blk_drew ?_ | refine blk_alloc ?_ _)); refine blk_put (cs := #[.slice none 0 0, .int .i64 0, .int .i64 0, .int .i64 0, .int .i64 0, .int .i64 0, .slice none 0 0]) ?_ 0 _ rfl; (with_reducible repeat (first | refine blk_drewN ?_ _ | refine blk_drew ?_ | refine blk_alloc ?_ _)); refine blk_far ?_ NB954_953.out _; (with_reducible repeat (first | refine blk_drewN ?_ _ | refine blk_drew ?_ | refine blk_alloc ?_ _)); refine blk_far ?_ NB954_953.out _; (with_reducible repeat (first | refine blk_drewN ?_ _ | refine blk_drew ?_ | refine blk_alloc ?_ _)); exact BK954.out) Try.underlying51 rfl (by kernel_rfl)) rfl ?_
  exact ⟨_, _, by first | rfl | (simp [errW_none, errW_some] <;> rfl) | (simp [*, errW_none, errW_some] <;> rfl), by (with_reducible repeat (first | apply Kd.S_alloc | apply Kd.S_drewN | apply Kd.S_drew)); exact Kd.S_mono (Kd.S_far (p := ⟨gb954, 6, none⟩) (Kd.S_far (p := ⟨gb954, 5, none⟩) (Kd.S_far (p := ⟨gb954, 4, none⟩) (Kd.S_far (p := ⟨gb954, 3, none⟩) (Kd.S_far (p := ⟨gb954, 2, none⟩) (Kd.S_far (p := ⟨gb954, 1, none⟩) (Kd.S_far (p := ⟨gb954, 0, none⟩) (Kd.S_far (p := ⟨gb953, 6, none⟩) (Kd.S_far (p := ⟨gb953, 0, none⟩) (Kd.S_types (Kd.S_types HO957.out BK953.out (by decide)) BK954.out (by decide)) (fun _ hk => hk.1.2) (.slice Ao9 t955.length co9)) (fun _ hk => hk.1.2) (.slice Ao11 t958.length co11)) (fun _ hk => hk.2) (.slice Ao9 t955.length co9)) (fun _ hk => hk.2) (.int .i64 a0_1)) (fun _ hk => hk.2) (.int .i64 a0_2)) (fun _ hk => hk.2) (.int .i64 a0_3)) (fun _ hk => hk.2) (.int .i64 a0_4)) (fun _ hk => hk.2) (.int .i64 a0_5)) (fun _ hk => hk.2) (.slice Ao11 t958.length co11)) (fun _ hk => trivial), by (with_reducible repeat (first | apply Kd.R_alloc | apply Kd.R_drewN | apply Kd.R_drew)); exact Kd.R_mono (Kd.R_far (p := ⟨gb954, 6, none⟩) (Kd.R_far (p := ⟨gb954, 5, none⟩) (Kd.R_far (p := ⟨gb954, 4, none⟩) (Kd.R_far (p := ⟨gb954, 3, none⟩) (Kd.R_far (p := ⟨gb954, 2, none⟩) (Kd.R_far (p := ⟨gb954, 1, none⟩) (Kd.R_far (p := ⟨gb954, 0, none⟩) (Kd.R_far (p := ⟨gb953, 6, none⟩) (Kd.R_far (p := ⟨gb953, 0, none⟩) (Kd.R_types (Kd.R_types HO960.out BK953.out (by decide)) BK954.out (by decide)) (fun _ hk => hk.1.2) (.slice Ao9 t955.length co9)) (fun _ hk => hk.1.2) (.slice Ao11 t958.length co11)) (fun _ hk => hk.2) (.slice Ao9 t955.length co9)) (fun _ hk => hk.2) (.int .i64 a0_1)) (fun _ hk => hk.2) (.int .i64 a0_2)) (fun _ hk => hk.2) (.int .i64 a0_3)) (fun _ hk => hk.2) (.int .i64 a0_4)) (fun _ hk => hk.2) (.int .i64 a0_5)) (fun _ hk => hk.2) (.slice Ao11 t958.length co11)) (fun _ hk => trivial), by repeat (first | (with_reducible first | exact HB.out | apply below_alloc | apply pw_below_drewN | apply below_drew1 | refine below_set ?_ GE953.out | refine below_set ?_ GE954.out) | exact HB.out)⟩

end Go.Proofs.Ytoomjghabiojkaa.P


namespace Go.Proofs.Ytoomjghabiojkaa.P
open Go.RowKit Go.Proofs.YtoomjghabiojkaaW.PrintWords Go.Proofs.YtoomjghabiojkaaW.PrintLast Go.Proofs.YtoomjghabiojkaaW.PrintMore
attribute [local go_sem] max2_int min2_int max_two min_two max_three min_three max_four min_four   -- for this text's walks alone
set_option linter.unusedVariables false
set_option linter.unusedSimpArgs false

def spec_l1Own.f (l0 : List Int) : Option (List Int) := (some (([] : List Int) : List Int)).bind fun y888 => (if y888.length + l0.length < 17592186044416 then (some (y888 ++ l0)) else (none))
set_option maxHeartbeats 8000000 in
set_option maxRecDepth 100000 in
theorem spec_l1Own.calls (A0 : Option Addr) (c0 : Nat) (l0 : List Int) (r : List Int) (w : World) (hr0 : Kd.C (Kd.int .i64) w A0 l0.length l0) (hc0 : l0.length ≤ c0) (h : spec_l1Own.f l0 = some r) :
    Calls Try.prog 122 #[.slice A0 l0.length c0] w fun e w' => ∃ v0_ : Value, e = .returned (v0_) ∧ Kd.R (Kd.int .i64) 3 w' w.heap.size (fun _ => True) v0_ r ∧ Below w.heap.size w w' := by
  have HR0 := Aside0.mk hr0
  have HC0 := Aside0.mk hc0
  clear hr0 hc0
  have HB := Aside0.mk (Below.refl w.heap.size w)
  have H : ((some (([] : List Int) : List Int)).bind fun y888 => (if y888.length + l0.length < 17592186044416 then (some (y888 ++ l0)) else (none))) = some r := h
  clear h
  obtain ⟨y888, hy888⟩ : ∃ y_ : List Int, y_ = (([] : List Int)) := ⟨_, rfl⟩
  replace H : (if y888.length + l0.length < 17592186044416 then (some (y888 ++ l0)) else (none)) = some r := by first | (rw [hy888]; with_reducible exact H) | (have H2_ := (Option.bind_some _ _).symm.trans H; rw [hy888]; with_reducible exact H2_) | (have H2_ := (Option.bind_some _ _).symm.trans H; with_reducible exact H2_) | with_reducible exact H | (rw [hy888]; exact H) | exact H
  have Ny888 := Aside0.mk hy888
  clear hy888
  by_cases c2 : y888.length + l0.length < 17592186044416
  · rw [if_pos c2] at H
    have LMc2 := Aside0.mk c2
    clear c2
    obtain ⟨y891, hy891⟩ : ∃ y_ : List Int, y_ = (y888 ++ l0) := ⟨_, rfl⟩
    replace H : (some y891) = some r := by first | (rw [hy891]; with_reducible exact H) | (have H2_ := (Option.bind_some _ _).symm.trans H; rw [hy891]; with_reducible exact H2_) | (have H2_ := (Option.bind_some _ _).symm.trans H; with_reducible exact H2_) | with_reducible exact H | (rw [hy891]; exact H) | exact H
    have Ny891 := Aside0.mk hy891
    clear hy891
    obtain rfl := Option.some.inj H
    go_enter Try.func122, Try.ntmps122
    go_wp2_with (first | ((with_reducible refine gate_dst (N := 3) rfl ?_); refine Kd.R_lit (Kd.int .i64) _ 3 ?hg (N := 3) ?hd (xs := ([] : List Int)) (inner := []) (ok := fun _ => True) (okp := fun _ => True) ?hr ?hp (fun _ hk => hk) trivial (Below.refl _ _) (Nat.le_refl _) (by simp) ?_; (case hd => rfl); (case hg => rfl); (case hr => first | (go_simp; done) | (go_simp; rfl)); (case hp => exact (Reps.none _ _)); intro v889 w3 ho4 hb hg_ hnew_; clear hg_ hnew_; (first | rw [← Ny888.out] at ho4 | (simp only [Int.reduceToNat] at ho4; rw [← Ny888.out] at ho4)); have n0_ := Aside0.mk (Kd.R_lower ho4 (below_size (by repeat (first | (with_reducible first | exact HB.out | apply below_alloc | apply pw_below_drewN | apply below_drew1) | exact HB.out)))); have n1_ := Aside0.mk (below_step (by repeat (first | (with_reducible first | exact HB.out | apply below_alloc | apply pw_below_drewN | apply below_drew1) | exact HB.out)) hb); clear HB; have HO890 := n0_; have HB := n1_; clear n0_ n1_; clear hb ho4) | ((with_reducible refine gate_builtin (b := .append) (xs := #[.tmp 3, .tmp 4]) rfl ?_); at_builtin; refine Kd.R_append_rows (Kd.int .i64) (w0 := w) w.heap.size rfl (.tmp 3) (.tmp 4) 49 3 (.int .i64 0) 8 rfl Try.underlying49 info3 rfl (by decide) (by omega) v889 y888 l0 _ _ _ (fun _ => True) (fun _ => False) rfl rfl ?aO ?aR (fun _ _ h => h) (fun _ h => h.elim) ?aF ?aB ?aS ?aL ?_; (case aR => repeat (first | exact (Kd.C_below HR0.out HB.out) | (with_reducible refine Kd.C_alloc ?_ _) | (with_reducible refine Kd.C_drewN ?_ _) | (with_reducible refine Kd.C_drew ?_))); (case aB => exact (by repeat (first | (with_reducible first | exact HB.out | apply below_alloc | apply pw_below_drewN | apply below_drew1) | exact HB.out))); (case aF => exact (fun _ _ => trivial)); (case aO => exact (by (with_reducible repeat (first | apply Kd.R_alloc | apply Kd.R_drewN | apply Kd.R_drew)); exact HO890.out)); (case aS => exact (below_size (by repeat (first | (with_reducible first | exact HB.out | apply below_alloc | apply pw_below_drewN | apply below_drew1) | exact HB.out)))); (case aL => have := LMc2.out; omega); intro v892 w5 ho hb hg hat; rw [← Ny891.out] at ho; have n0_ := Aside0.mk (hb); have n1_ := Aside0.mk (ho); clear HB; clear HO890; have HB := n0_; have HO893 := n1_; clear n0_ n1_; clear ho hb hg hat))
    go_ret
    exact ⟨_, by first | rfl | (simp [errW_none, errW_some] <;> rfl) | (simp [*, errW_none, errW_some] <;> rfl), by (with_reducible repeat (first | apply Kd.R_alloc | apply Kd.R_drewN | apply Kd.R_drew)); exact HO893.out, by repeat (first | (with_reducible first | exact HB.out | apply below_alloc | apply pw_below_drewN | apply below_drew1) | exact HB.out)⟩
  · rw [if_neg c2] at H
    exact absurd H (by simp)

end Go.Proofs.Ytoomjghabiojkaa.P


namespace Go.Proofs.Ytoomjghabiojkaa.P
open Go.RowKit Go.Proofs.YtoomjghabiojkaaW.PrintWords Go.Proofs.YtoomjghabiojkaaW.PrintLast Go.Proofs.YtoomjghabiojkaaW.PrintMore
attribute [local go_sem] max2_int min2_int max_two min_two max_three min_three max_four min_four   -- for this text's walks alone
set_option linter.unusedVariables false
set_option linter.unusedSimpArgs false

def spec_l8Own.f (k : Nat) (l0_0 : List (List Int)) (a0_1 : Int) (a0_2 : Int) (a0_3 : Int) (a0_4 : Int) (a0_5 : Int) (l0_6 : List Int) (a1 : Int) : Option ((List (List Int)) × Int × Int × Int × Int × Int × List Int) := (spec_l2Own.f k l0_0).bind fun t896 => ((spec_l1Own.f l0_6).bind fun t899 => (some (t896, a0_1, a0_2, a0_3, a0_4, a1, t899)))
def spec_l8Own.T1 : Bool × List (List Nat × List Nat) := (true, [([], []), ([0], [0]), ([1], [1]), ([], []), ([3], [3]), ([], []), ([], []), ([6], [6]), ([7, 2], [7]), ([2, 4, 5, 8], [2, 4, 5, 8]), ([9, 8, 0, 1, 2, 3, 4, 5, 6, 7, 8, 9], [9])])
def spec_l8Own.B1 : List Nat := [0, 1, 3, 0, 8, 0, 0, 64, 199, 511, 1023]
theorem spec_l8Own.tab1 : rtab .any (opsOf Try.f118 1) = spec_l8Own.T1 := by kernel_rfl
theorem spec_l8Own.bits1 : waitsOk spec_l8Own.T1.2 spec_l8Own.B1 = true := by kernel_rfl
set_option maxHeartbeats 8000000 in
set_option maxRecDepth 100000 in
theorem spec_l8Own.calls (k : Nat) (A0_0 : Option Addr) (c0_0 : Nat) (l0_0 : List (List Int)) (a0_1 : Int) (a0_2 : Int) (a0_3 : Int) (a0_4 : Int) (a0_5 : Int) (A0_6 : Option Addr) (c0_6 : Nat) (l0_6 : List Int) (a1 : Int) (r1 : List (List Int)) (r2 : Int) (r3 : Int) (r4 : Int) (r5 : Int) (r6 : Int) (r7 : List Int) (w : World) (hr0_0 : Kd.C (Kd.slice 5 (Kd.int .u8)) w A0_0 l0_0.length l0_0) (hc0_0 : l0_0.length ≤ c0_0) (hr0_6 : Kd.C (Kd.int .i64) w A0_6 l0_6.length l0_6) (hc0_6 : l0_6.length ≤ c0_6) (h : spec_l8Own.f k l0_0 a0_1 a0_2 a0_3 a0_4 a0_5 l0_6 a1 = some (r1, r2, r3, r4, r5, r6, r7)) :
    Calls Try.prog 118 #[.agg #[.slice A0_0 l0_0.length c0_0, .int .i64 a0_1, .int .i64 a0_2, .int .i64 a0_3, .int .i64 a0_4, .int .i64 a0_5, .slice A0_6 l0_6.length c0_6], .int .i64 a1] w fun e w' => ∃ v0_ v6_ : Value, e = .returned (.agg #[v0_, .int .i64 r2, .int .i64 r3, .int .i64 r4, .int .i64 r5, .int .i64 r6, v6_]) ∧ Kd.S (Kd.slice 5 (Kd.int .u8)) 119 w' w.heap.size (fun _ => True) v0_ r1 ∧ Kd.R (Kd.int .i64) 3 w' w.heap.size (fun _ => True) v6_ r7 ∧ Below w.heap.size w w' := by
  have hu51 := Try.underlying51
  have hu26 := Try.underlying26
  have hu48 := Try.underlying48
  have HR0_0 := Aside0.mk hr0_0
  have HC0_0 := Aside0.mk hc0_0
  clear hr0_0 hc0_0
  have HR0_6 := Aside0.mk hr0_6
  have HC0_6 := Aside0.mk hc0_6
  clear hr0_6 hc0_6
  have HB := Aside0.mk (Below.refl w.heap.size w)
  have H : ((spec_l2Own.f k l0_0).bind fun t896 => ((spec_l1Own.f l0_6).bind fun t899 => (some (t896, a0_1, a0_2, a0_3, a0_4, a1, t899)))) = some (r1, r2, r3, r4, r5, r6, r7) := h
  clear h
  replace H := Option.bind_eq_some_iff.mp H
  obtain ⟨t896, A30, H⟩ := H
  replace H : ((spec_l1Own.f l0_6).bind fun t899 => (some (t896, a0_1, a0_2, a0_3, a0_4, a1, t899))) = some (r1, r2, r3, r4, r5, r6, r7) := H
  have A3 := Aside0.mk A30
  clear A30
  replace H := Option.bind_eq_some_iff.mp H
  obtain ⟨t899, A40, H⟩ := H
  replace H : (some (t896, a0_1, a0_2, a0_3, a0_4, a1, t899)) = some (r1, r2, r3, r4, r5, r6, r7) := H
  have A4 := Aside0.mk A40
  clear A40
  simp only [Option.some.injEq, Prod.mk.injEq] at H
  obtain ⟨rfl, rfl, rfl, rfl, rfl, rfl, rfl⟩ := H
  go_enter Try.func118, Try.ntmps118
  try go_wp2_with (first | ((with_reducible refine gate_dst (N := 2) rfl ?_); refine box_event ?hg (N := 2) ?hd (cs := #[.slice A0_0 l0_0.length c0_0, .int .i64 a0_1, .int .i64 a0_2, .int .i64 a0_3, .int .i64 a0_4, .int .i64 a0_5, .slice A0_6 l0_6.length c0_6]) (t := 51) ?hr ?_; (case hd => rfl); (case hg => rfl); (case hr => first | (go_simp; done) | (go_simp; rfl)); intro gb894 hg w5 hbox hb; have n0_ := Aside0.mk (below_step (by repeat (first | (with_reducible first | exact HB.out | apply below_alloc | apply pw_below_drewN | apply below_drew1) | exact HB.out)) hb); have n1_ := Aside0.mk (hbox); have n2_ := Aside0.mk ((by rw [hg]; exact (below_size (by repeat (first | (with_reducible first | exact HB.out | apply below_alloc | apply pw_below_drewN | apply below_drew1) | exact HB.out))) : w.heap.size ≤ gb894)); have n3_ := Aside0.mk ((by rw [hg]; exact (below_size (by repeat (first | (with_reducible first | exact HB.out | apply below_alloc | apply pw_below_drewN | apply below_drew1) | exact HB.out))) : w.heap.size ≤ gb894)); clear HB; have HB := n0_; have BK894 := n1_; have GW894 := n2_; have GE894 := n3_; clear n0_ n1_ n2_ n3_; clear hb hbox hg) | ((with_reducible refine gate_dst (N := 4) rfl ?_); refine box_event ?hg (N := 4) ?hd (cs := #[.slice none 0 0, .int .i64 0, .int .i64 0, .int .i64 0, .int .i64 0, .int .i64 0, .slice none 0 0]) (t := 51) ?hr ?_; (case hd => rfl); (case hg => rfl); (case hr => first | (go_simp; done) | (go_simp; rfl)); intro gb895 hg w6 hbox hb; have n0_ := Aside0.mk (blk_below (g := gb894) (o := .cells #[.slice A0_0 l0_0.length c0_0, .int .i64 a0_1, .int .i64 a0_2, .int .i64 a0_3, .int .i64 a0_4, .int .i64 a0_5, .slice A0_6 l0_6.length c0_6] 51 (0, 0)) (by (with_reducible repeat (first | refine blk_drewN ?_ _ | refine blk_drew ?_ | refine blk_alloc ?_ _)); exact BK894.out) hb); have n1_ := Aside0.mk (below_step (by repeat (first | (with_reducible first | exact HB.out | apply below_alloc | apply pw_below_drewN | apply below_drew1 | refine below_set ?_ GE894.out) | exact HB.out)) hb); have n2_ := Aside0.mk (hbox); have n3_ := Aside0.mk ((by rw [hg]; exact (below_size (by repeat (first | (with_reducible first | exact HB.out | apply below_alloc | apply pw_below_drewN | apply below_drew1 | refine below_set ?_ GE894.out) | exact HB.out))) : w.heap.size ≤ gb895)); have n4_ := Aside0.mk ((by rw [hg]; exact (below_size (by repeat (first | (with_reducible first | exact HB.out | apply below_alloc | apply pw_below_drewN | apply below_drew1 | refine below_set ?_ GE894.out) | exact HB.out))) : w.heap.size ≤ gb895)); have n5_ := Aside0.mk ((by rw [hg]; exact Nat.ne_of_lt (blk_lt (g := gb894) (o := .cells #[.slice A0_0 l0_0.length c0_0, .int .i64 a0_1, .int .i64 a0_2, .int .i64 a0_3, .int .i64 a0_4, .int .i64 a0_5, .slice A0_6 l0_6.length c0_6] 51 (0, 0)) (by (with_reducible repeat (first | refine blk_drewN ?_ _ | refine blk_drew ?_ | refine blk_alloc ?_ _)); exact BK894.out)) : gb894 ≠ gb895)); have n6_ := Aside0.mk ((by rw [hg]; exact Nat.ne_of_gt (blk_lt (g := gb894) (o := .cells #[.slice A0_0 l0_0.length c0_0, .int .i64 a0_1, .int .i64 a0_2, .int .i64 a0_3, .int .i64 a0_4, .int .i64 a0_5, .slice A0_6 l0_6.length c0_6] 51 (0, 0)) (by (with_reducible repeat (first | refine blk_drewN ?_ _ | refine blk_drew ?_ | refine blk_alloc ?_ _)); exact BK894.out)) : gb895 ≠ gb894)); clear BK894; clear HB; have BK894 := n0_; have HB := n1_; have BK895 := n2_; have GW895 := n3_; have GE895 := n4_; have NB894_895 := n5_; have NB895_894 := n6_; clear n0_ n1_ n2_ n3_ n4_ n5_ n6_; clear hb hbox hg))
  have n0_ := Aside0.mk (blk_drew BK894.out)
  have n1_ := Aside0.mk (blk_drew BK895.out)
  have n2_ := Aside0.mk (below_drew1 HB.out)
  clear BK894
  clear BK895
  clear HB
  have BK894 := n0_
  have BK895 := n1_
  have HB := n2_
  clear n0_ n1_ n2_
  refine start_ (n := 11) (S := fun w' => w'.cell? ⟨gb894, 0, none⟩ = some (.slice A0_0 l0_0.length c0_0) ∧ w'.cell? ⟨gb894, 1, none⟩ = some (.int .i64 a0_1) ∧ w'.cell? ⟨gb894, 2, none⟩ = some (.int .i64 a0_2) ∧ w'.cell? ⟨gb894, 3, none⟩ = some (.int .i64 a0_3) ∧ w'.cell? ⟨gb894, 4, none⟩ = some (.int .i64 a0_4) ∧ w'.cell? ⟨gb894, 5, none⟩ = some (.int .i64 a0_5) ∧ w'.cell? ⟨gb894, 6, none⟩ = some (.slice A0_6 l0_6.length c0_6)) (ds := []) #[false, false, false, false, false, false, false, false, false, false, false] (by kernel_rfl) rfl rfl ⟨(blk_cell BK894.out 0).trans rfl, (blk_cell BK894.out 1).trans rfl, (blk_cell BK894.out 2).trans rfl, (blk_cell BK894.out 3).trans rfl, (blk_cell BK894.out 4).trans rfl, (blk_cell BK894.out 5).trans rfl, (blk_cell BK894.out 6).trans rfl⟩ (fun hHeld => ?_); refine with_tabW spec_l8Own.tab1 spec_l8Own.bits1 (fun HT_ HW_ => ?_)
  generalize w6.drew = w7 at BK894 BK895 HB hHeld ⊢
  refine pure_ (i := 0) (N := some 5) (v := ?_) (a' := ?_) #[true, false, false, false, false, false, false, false, false, false, false] rfl rfl (any_of HT_.out (by kernel_rfl)) (fun _ _ _ h => h) (Or.inl ⟨by rfl, ?_⟩) ?_ ?_
  rotate_left
  · intro w'
    go_simp
    with_reducible rfl
  rotate_left
  · simp only [Act.put, List.setIfInBounds_toArray, List.set_cons_zero, List.set_cons_succ, i64_w, i32_w]
    rfl
  refine pure_ (i := 3) (N := some 8) (v := ?_) (a' := ?_) #[true, false, false, true, false, false, false, false, false, false, false] rfl rfl (any_of HT_.out (by kernel_rfl)) (fun _ _ _ h => h) (Or.inl ⟨by rfl, ?_⟩) ?_ ?_
  rotate_left
  · intro w'
    go_simp
    with_reducible rfl
  rotate_left
  · simp only [Act.put, List.setIfInBounds_toArray, List.set_cons_zero, List.set_cons_succ, i64_w, i32_w]
    rfl
  refine pure_ (i := 5) (N := some 10) (v := ?_) (a' := ?_) #[true, false, false, true, false, true, false, false, false, false, false] rfl rfl (any_of HT_.out (by kernel_rfl)) (fun _ _ _ h => h) (Or.inl ⟨by rfl, ?_⟩) ?_ ?_
  rotate_left
  · intro w'
    go_simp
    with_reducible rfl
  rotate_left
  · simp only [Act.put, List.setIfInBounds_toArray, List.set_cons_zero, List.set_cons_succ, i64_w, i32_w]
    rfl
  refine pure_ (i := 6) (N := some 11) (v := ?_) (a' := ?_) #[true, false, false, true, false, true, true, false, false, false, false] rfl rfl (any_of HT_.out (by kernel_rfl)) (fun _ _ _ h => h) (Or.inl ⟨by rfl, ?_⟩) ?_ ?_
  rotate_left
  · intro w'
    go_simp
    with_reducible rfl
  rotate_left
  · simp only [Act.put, List.setIfInBounds_toArray, List.set_cons_zero, List.set_cons_succ, i64_w, i32_w]
    rfl
  refine take_ (i := 1) (N := some 6) (v := ?_) (a' := ?_) #[true, true, false, true, false, true, true, false, false, false, false] rfl rfl (take_ofW HT_.out HW_.out (by kernel_rfl)) (fun _ _ _ h => h) (Or.inl ⟨by rfl, ?_⟩) hHeld ?_ ?_
  rotate_left
  · rintro w' ⟨s0, s1, s2, s3, s4, s5, s6⟩
    go_simp
    with_reducible rfl
  rotate_left
  · simp only [Act.put, List.setIfInBounds_toArray, List.set_cons_zero, List.set_cons_succ, i64_w, i32_w]
    rfl
  refine take_ (i := 4) (N := some 9) (v := ?_) (a' := ?_) #[true, true, false, true, true, true, true, false, false, false, false] rfl rfl (take_ofW HT_.out HW_.out (by kernel_rfl)) (fun _ _ _ h => h) (Or.inl ⟨by rfl, ?_⟩) hHeld ?_ ?_
  rotate_left
  · rintro w' ⟨s0, s1, s2, s3, s4, s5, s6⟩
    go_simp
    with_reducible rfl
  rotate_left
  · simp only [Act.put, List.setIfInBounds_toArray, List.set_cons_zero, List.set_cons_succ, i64_w, i32_w]
    rfl
  refine take_ (i := 7) (N := some 12) (v := ?_) (a' := ?_) #[true, true, false, true, true, true, true, true, false, false, false] rfl rfl (take_ofW HT_.out HW_.out (by kernel_rfl)) (fun _ _ _ h => h) (Or.inl ⟨by rfl, ?_⟩) hHeld ?_ ?_
  rotate_left
  · rintro w' ⟨s0, s1, s2, s3, s4, s5, s6⟩
    go_simp
    with_reducible rfl
  rotate_left
  · simp only [Act.put, List.setIfInBounds_toArray, List.set_cons_zero, List.set_cons_succ, i64_w, i32_w]
    rfl
  refine one_ (i := 2) (N := some 7) #[true, true, true, true, true, true, true, true, false, false, false] rfl rfl (one_of HT_.out (by kernel_rfl)) (by decide) (fun K hK => ?_)
  refine goes_ Try.func89 (by kernel_rfl) rfl #[.agg #[.slice A0_0 l0_0.length c0_0]] (by rfl) rfl rfl (by (try simp only [List.map_toArray, List.map_cons, List.map_nil]); first | done | rfl | (simp only [List.length_drop, List.length_take]; rfl)) ?_
  with_reducible refine (spec_l2Own.calls k _ _ l0_0 t896 _ ?side1 ?side2 A3.out).mono ?_
  (case side1 => repeat (first | exact (Kd.C_below HR0_0.out HB.out) | (with_reducible refine Kd.C_alloc ?_ _) | (with_reducible refine Kd.C_drewN ?_ _) | (with_reducible refine Kd.C_drew ?_)))
  (case side2 => exact HC0_0.out)
  rintro e w8 ⟨v897, rfl, ho0, hb⟩
  refine ⟨_, rfl, ?_⟩
  have n0_ := Aside0.mk (Kd.S_lower ho0 (below_size (by repeat (first | (with_reducible first | exact HB.out | apply below_alloc | apply pw_below_drewN | apply below_drew1 | refine below_set ?_ GE894.out | refine below_set ?_ GE895.out) | exact HB.out))))
  have n1_ := Aside0.mk (blk_below (g := gb894) (o := .cells #[.slice A0_0 l0_0.length c0_0, .int .i64 a0_1, .int .i64 a0_2, .int .i64 a0_3, .int .i64 a0_4, .int .i64 a0_5, .slice A0_6 l0_6.length c0_6] 51 (0, 0)) (by (with_reducible repeat (first | refine blk_drewN ?_ _ | refine blk_drew ?_ | refine blk_alloc ?_ _)); exact BK894.out) hb)
  have n2_ := Aside0.mk (blk_below (g := gb895) (o := .cells #[.slice none 0 0, .int .i64 0, .int .i64 0, .int .i64 0, .int .i64 0, .int .i64 0, .slice none 0 0] 51 (0, 0)) (by (with_reducible repeat (first | refine blk_drewN ?_ _ | refine blk_drew ?_ | refine blk_alloc ?_ _)); exact BK895.out) hb)
  have n3_ := Aside0.mk (below_step (by repeat (first | (with_reducible first | exact HB.out | apply below_alloc | apply pw_below_drewN | apply below_drew1 | refine below_set ?_ GE894.out | refine below_set ?_ GE895.out) | exact HB.out)) hb)
  clear BK894
  clear BK895
  clear HB
  have HO898 := n0_
  have BK894 := n1_
  have BK895 := n2_
  have HB := n3_
  clear n0_ n1_ n2_ n3_
  (try clear hb)
  (try clear hb2)
  (try clear hk)
  (try clear hi)
  (try clear ho0)
  refine hK.out _ _ ⟨(blk_cell BK894.out 0).trans rfl, (blk_cell BK894.out 1).trans rfl, (blk_cell BK894.out 2).trans rfl, (blk_cell BK894.out 3).trans rfl, (blk_cell BK894.out 4).trans rfl, (blk_cell BK894.out 5).trans rfl, (blk_cell BK894.out 6).trans rfl⟩ (fun hHeld => ?_)
  clear hK K
  refine norm_ (a' := ?_) ?_ ?_
  rotate_left
  · show Act.put _ (some 7) _ = _
    simp only [Act.put, List.setIfInBounds_toArray, List.set_cons_zero, List.set_cons_succ, i64_w, i32_w]
    rfl
  refine one_ (i := 8) (N := some 13) #[true, true, true, true, true, true, true, true, true, false, false] rfl rfl (one_of HT_.out (by kernel_rfl)) (by decide) (fun K hK => ?_)
  refine goes_ Try.func122 (by kernel_rfl) rfl #[.slice A0_6 l0_6.length c0_6] (by rfl) rfl rfl (by (try simp only [List.map_toArray, List.map_cons, List.map_nil]); first | done | rfl | (simp only [List.length_drop, List.length_take]; rfl)) ?_
  with_reducible refine (spec_l1Own.calls _ _ l0_6 t899 _ ?side1 ?side2 A4.out).mono ?_
  (case side1 => repeat (first | exact (Kd.C_below HR0_6.out HB.out) | (with_reducible refine Kd.C_alloc ?_ _) | (with_reducible refine Kd.C_drewN ?_ _) | (with_reducible refine Kd.C_drew ?_)))
  (case side2 => exact HC0_6.out)
  rintro e w9 ⟨v900, rfl, ho0, hb⟩
  refine ⟨_, rfl, ?_⟩
  have n0_ := Aside0.mk (Kd.S_below (by (with_reducible repeat (first | apply Kd.S_alloc | apply Kd.S_drewN | apply Kd.S_drew)); exact HO898.out) hb)
  have n1_ := Aside0.mk (Kd.R_lower ho0 (below_size (by repeat (first | (with_reducible first | exact HB.out | apply below_alloc | apply pw_below_drewN | apply below_drew1 | refine below_set ?_ GE894.out | refine below_set ?_ GE895.out) | exact HB.out))))
  have n2_ := Aside0.mk (blk_below (g := gb894) (o := .cells #[.slice A0_0 l0_0.length c0_0, .int .i64 a0_1, .int .i64 a0_2, .int .i64 a0_3, .int .i64 a0_4, .int .i64 a0_5, .slice A0_6 l0_6.length c0_6] 51 (0, 0)) (by (with_reducible repeat (first | refine blk_drewN ?_ _ | refine blk_drew ?_ | refine blk_alloc ?_ _)); exact BK894.out) hb)
  have n3_ := Aside0.mk (blk_below (g := gb895) (o := .cells #[.slice none 0 0, .int .i64 0, .int .i64 0, .int .i64 0, .int .i64 0, .int .i64 0, .slice none 0 0] 51 (0, 0)) (by (with_reducible repeat (first | refine blk_drewN ?_ _ | refine blk_drew ?_ | refine blk_alloc ?_ _)); exact BK895.out) hb)
  have n4_ := Aside0.mk (below_step (by repeat (first | (with_reducible first | exact HB.out | apply below_alloc | apply pw_below_drewN | apply below_drew1 | refine below_set ?_ GE894.out | refine below_set ?_ GE895.out) | exact HB.out)) hb)
  clear HO898
  clear BK894
  clear BK895
  clear HB
  have HO898 := n0_
  have HO901 := n1_
  have BK894 := n2_
  have BK895 := n3_
  have HB := n4_
  clear n0_ n1_ n2_ n3_ n4_
  (try clear hb)
  (try clear hb2)
  (try clear hk)
  (try clear hi)
  (try clear ho0)
  obtain ⟨Ao10, co10, eo10⟩ := Kd.R_slice HO901.out
  (first | subst eo10 | (injection eo10 with f1_ f2_ f3_; have f4_ := f1_.symm; have f5_ := f3_.symm; clear f1_ f2_ f3_; subst f4_; subst f5_))
  obtain ⟨Ao11, co11, eo11⟩ := Kd.S_slice HO898.out
  (first | subst eo11 | (injection eo11 with f1_ f2_ f3_; have f4_ := f1_.symm; have f5_ := f3_.symm; clear f1_ f2_ f3_; subst f4_; subst f5_))
  refine hK.out _ _ ⟨(blk_cell BK894.out 0).trans rfl, (blk_cell BK894.out 1).trans rfl, (blk_cell BK894.out 2).trans rfl, (blk_cell BK894.out 3).trans rfl, (blk_cell BK894.out 4).trans rfl, (blk_cell BK894.out 5).trans rfl, (blk_cell BK894.out 6).trans rfl⟩ (fun hHeld => ?_)
  clear hK K
  refine norm_ (a' := ?_) ?_ ?_
  rotate_left
  · show Act.put _ (some 13) _ = _
    simp only [Act.put, List.setIfInBounds_toArray, List.set_cons_zero, List.set_cons_succ, i64_w, i32_w]
    rfl
  refine pure_ (i := 9) (N := some 14) (v := ?_) (a' := ?_) #[true, true, true, true, true, true, true, true, true, true, false] rfl rfl (any_of HT_.out (by kernel_rfl)) (fun _ _ _ h => h) (Or.inl ⟨by rfl, ?_⟩) ?_ ?_
  rotate_left
  · intro w'
    go_simp
    with_reducible rfl
  rotate_left
  · simp only [Act.put, List.setIfInBounds_toArray, List.set_cons_zero, List.set_cons_succ, i64_w, i32_w]
    rfl
  refine one_ (i := 10) (N := none) #[true, true, true, true, true, true, true, true, true, true, true] rfl rfl (one_of HT_.out (by kernel_rfl)) (by decide) (fun K hK => ?_)
  have hs12 : w9.cell? ⟨gb895, 0, none⟩ = some (.slice none 0 0) := (blk_cell BK895.out 0).trans rfl
  have hfs12 := blk_frozen BK895.out 0
  have hns12_0 := NB894_895.out
  have hms12_0 := NB895_894.out
  have hs13 : w9.cell? ⟨gb895, 1, none⟩ = some (.int .i64 0) := (blk_cell BK895.out 1).trans rfl
  have hfs13 := blk_frozen BK895.out 1
  have hns13_0 := NB894_895.out
  have hms13_0 := NB895_894.out
  have hs14 : w9.cell? ⟨gb895, 2, none⟩ = some (.int .i64 0) := (blk_cell BK895.out 2).trans rfl
  have hfs14 := blk_frozen BK895.out 2
  have hns14_0 := NB894_895.out
  have hms14_0 := NB895_894.out
  have hs15 : w9.cell? ⟨gb895, 3, none⟩ = some (.int .i64 0) := (blk_cell BK895.out 3).trans rfl
  have hfs15 := blk_frozen BK895.out 3
  have hns15_0 := NB894_895.out
  have hms15_0 := NB895_894.out
  have hs16 : w9.cell? ⟨gb895, 4, none⟩ = some (.int .i64 0) := (blk_cell BK895.out 4).trans rfl
  have hfs16 := blk_frozen BK895.out 4
  have hns16_0 := NB894_895.out
  have hms16_0 := NB895_894.out
  have hs17 : w9.cell? ⟨gb895, 5, none⟩ = some (.int .i64 0) := (blk_cell BK895.out 5).trans rfl
  have hfs17 := blk_frozen BK895.out 5
  have hns17_0 := NB894_895.out
  have hms17_0 := NB895_894.out
  have hs18 : w9.cell? ⟨gb895, 6, none⟩ = some (.slice none 0 0) := (blk_cell BK895.out 6).trans rfl
  have hfs18 := blk_frozen BK895.out 6
  have hns18_0 := NB894_895.out
  have hms18_0 := NB895_894.out
  refine skip_ (w1 := ?_) (by rfl) rfl ?_ ?_
  rotate_left
  · go_simp
    rfl
  refine hK.out _ _ ⟨((cell_far (p := ⟨gb895, _, none⟩) NB894_895.out _).trans (((cell_far (p := ⟨gb895, _, none⟩) NB894_895.out _).trans (((cell_far (p := ⟨gb895, _, none⟩) NB894_895.out _).trans (((cell_far (p := ⟨gb895, _, none⟩) NB894_895.out _).trans (((cell_far (p := ⟨gb895, _, none⟩) NB894_895.out _).trans (((cell_far (p := ⟨gb895, _, none⟩) NB894_895.out _).trans (((cell_far (p := ⟨gb895, _, none⟩) NB894_895.out _).trans (hHeld.1)))))))))))))), ((cell_far (p := ⟨gb895, _, none⟩) NB894_895.out _).trans (((cell_far (p := ⟨gb895, _, none⟩) NB894_895.out _).trans (((cell_far (p := ⟨gb895, _, none⟩) NB894_895.out _).trans (((cell_far (p := ⟨gb895, _, none⟩) NB894_895.out _).trans (((cell_far (p := ⟨gb895, _, none⟩) NB894_895.out _).trans (((cell_far (p := ⟨gb895, _, none⟩) NB894_895.out _).trans (((cell_far (p := ⟨gb895, _, none⟩) NB894_895.out _).trans (hHeld.2.1)))))))))))))), ((cell_far (p := ⟨gb895, _, none⟩) NB894_895.out _).trans (((cell_far (p := ⟨gb895, _, none⟩) NB894_895.out _).trans (((cell_far (p := ⟨gb895, _, none⟩) NB894_895.out _).trans (((cell_far (p := ⟨gb895, _, none⟩) NB894_895.out _).trans (((cell_far (p := ⟨gb895, _, none⟩) NB894_895.out _).trans (((cell_far (p := ⟨gb895, _, none⟩) NB894_895.out _).trans (((cell_far (p := ⟨gb895, _, none⟩) NB894_895.out _).trans (hHeld.2.2.1)))))))))))))), ((cell_far (p := ⟨gb895, _, none⟩) NB894_895.out _).trans (((cell_far (p := ⟨gb895, _, none⟩) NB894_895.out _).trans (((cell_far (p := ⟨gb895, _, none⟩) NB894_895.out _).trans (((cell_far (p := ⟨gb895, _, none⟩) NB894_895.out _).trans (((cell_far (p := ⟨gb895, _, none⟩) NB894_895.out _).trans (((cell_far (p := ⟨gb895, _, none⟩) NB894_895.out _).trans (((cell_far (p := ⟨gb895, _, none⟩) NB894_895.out _).trans (hHeld.2.2.2.1)))))))))))))), ((cell_far (p := ⟨gb895, _, none⟩) NB894_895.out _).trans (((cell_far (p := ⟨gb895, _, none⟩) NB894_895.out _).trans (((cell_far (p := ⟨gb895, _, none⟩) NB894_895.out _).trans (((cell_far (p := ⟨gb895, _, none⟩) NB894_895.out _).trans (((cell_far (p := ⟨gb895, _, none⟩) NB894_895.out _).trans (((cell_far (p := ⟨gb895, _, none⟩) NB894_895.out _).trans (((cell_far (p := ⟨gb895, _, none⟩) NB894_895.out _).trans (hHeld.2.2.2.2.1)))))))))))))), ((cell_far (p := ⟨gb895, _, none⟩) NB894_895.out _).trans (((cell_far (p := ⟨gb895, _, none⟩) NB894_895.out _).trans (((cell_far (p := ⟨gb895, _, none⟩) NB894_895.out _).trans (((cell_far (p := ⟨gb895, _, none⟩) NB894_895.out _).trans (((cell_far (p := ⟨gb895, _, none⟩) NB894_895.out _).trans (((cell_far (p := ⟨gb895, _, none⟩) NB894_895.out _).trans (((cell_far (p := ⟨gb895, _, none⟩) NB894_895.out _).trans (hHeld.2.2.2.2.2.1)))))))))))))), ((cell_far (p := ⟨gb895, _, none⟩) NB894_895.out _).trans (((cell_far (p := ⟨gb895, _, none⟩) NB894_895.out _).trans (((cell_far (p := ⟨gb895, _, none⟩) NB894_895.out _).trans (((cell_far (p := ⟨gb895, _, none⟩) NB894_895.out _).trans (((cell_far (p := ⟨gb895, _, none⟩) NB894_895.out _).trans (((cell_far (p := ⟨gb895, _, none⟩) NB894_895.out _).trans (((cell_far (p := ⟨gb895, _, none⟩) NB894_895.out _).trans (hHeld.2.2.2.2.2.2))))))))))))))⟩ (fun hHeld => ?_)
  clear hK K
  refine done_ (done_of HT_.out (by kernel_rfl)) ?_
  try go_wp2
  refine bodyPost_ret (results_cell_row rfl _ _ gb895 51 #[.slice Ao11 t896.length co11, .int .i64 a0_1, .int .i64 a0_2, .int .i64 a0_3, .int .i64 a0_4, .int .i64 a1, .slice Ao10 t899.length co10] (0, 0) _ rfl (by (with_reducible repeat (first | refine blk_drewN ?_ _ | refine blk_drew ?_ | refine blk_alloc ?_ _)); refine blk_put (cs := #[.slice Ao11 t896.length co11, .int .i64 a0_1, .int .i64 a0_2, .int .i64 a0_3, .int .i64 a0_4, .int .i64 a1, .slice none 0 0]) ?_ 6 _ rfl; (with_reducible repeat (first | refine blk_drewN ?_ _ | refine blk_drew ?_ | refine blk_alloc ?_ _)); refine blk_put (cs := #[.slice Ao11 t896.length co11, .int .i64 a0_1, .int .i64 a0_2, .int .i64 a0_3, .int .i64 a0_4, .int .i64 0, .slice none 0 0]) ?_ 5 _ rfl; (with_reducible repeat (first | refine blk_drewN ?_ _ | refine blk_drew ?_ | refine blk_alloc ?_ _)); refine blk_put (cs := #[.slice Ao11 t896.length co11, .int .i64 a0_1, .int .i64 a0_2, .int .i64 a0_3, .int .i64 0, .int .i64 0, .slice none 0 0]) ?_ 4 _ rfl; (with_reducible repeat (first | refine blk_drewN ?_ _ | refine blk_drew ?_ | refine blk_alloc ?_ _)); refine blk_put (cs := #[.slice Ao11 t896.length co11, .int .i64 a0_1, .int .i64 a0_2, .int .i64 0, .int .i64 0, .int .i64 0, .slice none 0 0]) ?_ 3 _ rfl; (with_reducible repeat (first | refine blk_drewN ?_ _ | refine blk_drew ?_ | refine blk_alloc ?_ _)); refine blk_put (cs := #[.slice Ao11 t896.length co11, .int .i64 a0_1, .int .i64 0, .int .i64 0, .int .i64 0, .int .i64 0, .slice none 0 0]) ?_ 2 _ rfl; (with_reducible repeat (first | refine blk_drewN ?_ _ | refine blk_drew ?_ | refine blk_alloc ?_ _)); refine blk_put (cs := #[.slice Ao11 t896.length co11, .int .i64 0, .int .i64 0, .int .i64 0, .int .i64 0, .int .i64 0, .slice none 0 0]) ?_ 1 _ rfl; (with_reducible repeat (first | refine blk_drewN ?_ _ | refine blk_drew ?_ | refine blk_alloc ?_ _)); refine blk_put (cs := #[.slice none 0 0, .int .i64 0, .int .i64 0, .int .i64 0, .int .i64 0, .int .i64 0, .slice none 0 0]) ?_ 0 _ rfl; (with_reducible repeat (first | refine blk_drewN ?_ _ | refine blk_drew ?_ | refine blk_alloc ?_ _)); exact BK895.out) Try.underlying51 rfl (by kernel_rfl)) rfl ?_
  exact ⟨_, _, by first | rfl | (simp [errW_none, errW_some] <;> rfl) | (simp [*, errW_none, errW_some] <;> rfl), by (with_reducible repeat (first | apply Kd.S_alloc | apply Kd.S_drewN | apply Kd.S_drew)); exact Kd.S_mono (Kd.S_far (p := ⟨gb895, 6, none⟩) (Kd.S_far (p := ⟨gb895, 5, none⟩) (Kd.S_far (p := ⟨gb895, 4, none⟩) (Kd.S_far (p := ⟨gb895, 3, none⟩) (Kd.S_far (p := ⟨gb895, 2, none⟩) (Kd.S_far (p := ⟨gb895, 1, none⟩) (Kd.S_far (p := ⟨gb895, 0, none⟩) (Kd.S_types HO898.out BK895.out (by decide)) (fun _ hk => hk.2) (.slice Ao11 t896.length co11)) (fun _ hk => hk.2) (.int .i64 a0_1)) (fun _ hk => hk.2) (.int .i64 a0_2)) (fun _ hk => hk.2) (.int .i64 a0_3)) (fun _ hk => hk.2) (.int .i64 a0_4)) (fun _ hk => hk.2) (.int .i64 a1)) (fun _ hk => hk.2) (.slice Ao10 t899.length co10)) (fun _ hk => trivial), by (with_reducible repeat (first | apply Kd.R_alloc | apply Kd.R_drewN | apply Kd.R_drew)); exact Kd.R_mono (Kd.R_far (p := ⟨gb895, 6, none⟩) (Kd.R_far (p := ⟨gb895, 5, none⟩) (Kd.R_far (p := ⟨gb895, 4, none⟩) (Kd.R_far (p := ⟨gb895, 3, none⟩) (Kd.R_far (p := ⟨gb895, 2, none⟩) (Kd.R_far (p := ⟨gb895, 1, none⟩) (Kd.R_far (p := ⟨gb895, 0, none⟩) (Kd.R_types HO901.out BK895.out (by decide)) (fun _ hk => hk.2) (.slice Ao11 t896.length co11)) (fun _ hk => hk.2) (.int .i64 a0_1)) (fun _ hk => hk.2) (.int .i64 a0_2)) (fun _ hk => hk.2) (.int .i64 a0_3)) (fun _ hk => hk.2) (.int .i64 a0_4)) (fun _ hk => hk.2) (.int .i64 a1)) (fun _ hk => hk.2) (.slice Ao10 t899.length co10)) (fun _ hk => trivial), by repeat (first | (with_reducible first | exact HB.out | apply below_alloc | apply pw_below_drewN | apply below_drew1 | refine below_set ?_ GE894.out | refine below_set ?_ GE895.out) | exact HB.out)⟩

end Go.Proofs.Ytoomjghabiojkaa.P


/- MarkArena: what both sides come to. -/
namespace Go.Proofs.Ytoomjghabiojkaa.P
open Go.RowKit Go.Proofs.YtoomjghabiojkaaW.PrintWords Go.Proofs.YtoomjghabiojkaaW.Mine
set_option linter.unusedVariables false
theorem szArena_f (m : List (List Int)) (b c d e f : Int) (l : List Int) (a : Int) (h0 : 0 ≤ a) (h1 : a ≤ 1048576) (hl : m.length ≤ 9223372036854775807) (h3 : ∀ x ∈ m, x.length ≤ 9223372036854775807) (h4 : l.length ≤ 9223372036854775807) :
    ∃ r, Ev (fun k => laws_szArena.f k m b c d e f l a) r ∧ ((okM m ∧ l.length ≤ 1048576) ∧ 0 ≤ r ∧ r ≤ a ∨ r = -1) := by
  obtain ⟨r, hr, hh⟩ := szMemory_f m a h0 h1 hl h3
  rcases hh with ⟨hm, h5, h6⟩ | rfl
  · have hw : wrap64 (r - (l.length : Int)) = r - l.length := wrap_ok (by omega) (by omega)
    by_cases hc : (l.length : Int) ≤ r
    · refine ⟨r - l.length, Ev.bind hr ?_, .inl ⟨⟨hm, by omega⟩, by omega, by omega⟩⟩
      rw [if_neg (by omega)]
      unfold laws_szIntS.f
      rw [hw, if_neg (by omega), Option.bind_some, if_neg (by omega)]
      exact Ev.now _
    · refine ⟨-1, Ev.bind hr ?_, .inr rfl⟩
      rw [if_neg (by omega)]
      unfold laws_szIntS.f
      rw [hw, if_pos (by omega), Option.bind_some, if_pos (by omega)]
      exact Ev.now _
  · refine ⟨-1, Ev.bind hr ?_, .inr rfl⟩
    rw [if_pos (by omega)]
    exact Ev.now _
theorem toIntS_ev (suf : List Int) : ∀ (pre zs : List Int), zs.length = suf.length → pre.length + suf.length ≤ 4611686018427387904 →
    Ev (fun k => laws_toIntS.l0 k (pre ++ suf) (pre ++ zs) (pre.length : Int)) (pre ++ suf) := by
  induction suf with
  | nil =>
    intro pre zs hz h2
    obtain rfl : zs = [] := List.eq_nil_of_length_eq_zero hz
    refine Ev.step (fun k => ?_) (Ev.now _)
    simp [laws_toIntS.l0]
  | cons x suf ih =>
    intro pre zs hz h2
    obtain ⟨z, zs, rfl⟩ : ∃ z zs', zs = z :: zs' := by
      cases zs with
      | nil => simp at hz
      | cons z zs => exact ⟨z, zs, rfl⟩
    simp only [List.length_cons] at h2 hz
    refine Ev.step (f := fun k => laws_toIntS.l0 k ((pre ++ [x]) ++ suf) ((pre ++ [x]) ++ zs) ((pre ++ [x]).length : Int)) (fun k => ?_) ?_
    · simp only [laws_toIntS.l0]
      rw [if_pos (by simp; omega), if_pos (by omega), if_pos (by simp; omega), rd_mid, wrap_len (by omega)]
      simp
    · have := ih (pre ++ [x]) zs (by omega) (by simp; omega)
      simpa using this
theorem toIntS_f (l : List Int) (h : l.length ≤ 1048576) : Ev (fun k => laws_toIntS.f k l) l := by
  refine Ev.congr (fun k => ?_) (toIntS_ev l [] (List.replicate l.length 0) (by simp) (by simp; omega))
  unfold laws_toIntS.f
  rw [if_pos (by omega), if_pos (by simp; omega)]
  simp
theorem toArena_f (m : List (List Int)) (a s n c u : Int) (l : List Int) (h : okM m) (hl : l.length ≤ 1048576) : Ev (fun k => laws_toArena.f k m a s n c u l) (m, a, s, n, c, u, l) := by
  unfold laws_toArena.f
  simp only [toMemory_f m h, Option.bind_some, show laws_toWindow.f a s n c = some (a, s, n, c) from rfl]
  exact Ev.bind (toIntS_f l hl) (Ev.now _)
theorem arenaOwn_f (m : List (List Int)) (a s n c u : Int) (l : List Int) (h : okM m) (hl : l.length ≤ 1048576) : Ev (fun k => impl_Arena_own.f k m a s n c u l) (m, a, s, n, c, u, l) := by
  refine Ev.bind (own_f m h) ?_
  have : slices_Clone_int_int.f l = some l := by
    unfold slices_Clone_int_int.f
    rw [if_pos (by omega)]
  simp only [this, Option.bind_some]
  exact Ev.now _
theorem l1Own_f (l : List Int) (hl : l.length ≤ 1048576) : spec_l1Own.f l = some l := by
  unfold spec_l1Own.f
  simp only [Option.bind_some, List.length_nil, Nat.zero_add, List.nil_append]
  rw [if_pos (by omega)]
theorem l8Own_f (m : List (List Int)) (a s n c u : Int) (l : List Int) (u2 : Int) (h : okM m) (hl : l.length ≤ 1048576) : Ev (fun k => spec_l8Own.f k m a s n c u l u2) (m, a, s, n, c, u2, l) := by
  refine Ev.bind (l2Own_f m h) ?_
  simp only [l1Own_f l hl, Option.bind_some]
  exact Ev.now _
end Go.Proofs.Ytoomjghabiojkaa.P


