/- Part 3 of the proof of the law FnExactShowsSame: contracts of the functions that it reaches. -/
import Derived.Test.YtoomjghabiojkaaQFnExactShowsSame2
namespace Go.Proofs.Ytoomjghabiojkaa.P
open Go.RowKit Go.Proofs.YtoomjghabiojkaaW.PrintWords Go.Proofs.YtoomjghabiojkaaW.PrintLast Go.Proofs.YtoomjghabiojkaaW.PrintMore
attribute [local go_sem] max2_int min2_int max_two min_two max_three min_three max_four min_four   -- for this text's walks alone
set_option linter.unusedVariables false
set_option linter.unusedSimpArgs false

def spec_l2Bytes.l0 : Nat → List Int → Int → List (List Int) → Int → Int → Int → Int → Option (List Int)
  | 0, _, _, _, _, _, _, _ => none
  | k + 1, x5, x6, x504000, x505000, x505001, x505002, x505003 => if x6 < x505002 then ((spec_l2At.f x504000 x505000 x505001 x505002 x505003 x6).bind fun t508 => (if x5.length < 140737488355328 then (spec_l2Bytes.l0 k (x5 ++ [t508]) (wrap64 (x6 + 1)) x504000 x505000 x505001 x505002 x505003) else (none))) else (some x5)
def spec_l2Bytes.f (k : Nat) (l0_0 : List (List Int)) (a1_0 : Int) (a1_1 : Int) (a1_2 : Int) (a1_3 : Int) : Option (List Int) := spec_l2Bytes.l0 k (([] : List Int)) 0 l0_0 a1_0 a1_1 a1_2 a1_3
set_option maxHeartbeats 8000000 in
set_option maxRecDepth 100000 in
theorem spec_l2Bytes.calls (k : Nat) (A0_0 : Option Addr) (c0_0 : Nat) (l0_0 : List (List Int)) (a1_0 : Int) (a1_1 : Int) (a1_2 : Int) (a1_3 : Int) (r : List Int) (w : World) (hr0_0 : Kd.C (Kd.slice 5 (Kd.int .u8)) w A0_0 l0_0.length l0_0) (hc0_0 : l0_0.length ≤ c0_0) (h : spec_l2Bytes.f k l0_0 a1_0 a1_1 a1_2 a1_3 = some r) :
    Calls Try.prog 142 #[.agg #[.slice A0_0 l0_0.length c0_0], .agg #[.int .i64 a1_0, .int .i64 a1_1, .int .i64 a1_2, .int .i64 a1_3]] w fun e w' => ∃ v0_ : Value, e = .returned (v0_) ∧ Kd.R (Kd.int .u8) 5 w' w.heap.size (fun _ => True) v0_ r ∧ Below w.heap.size w w' := by
  have hu26 := Try.underlying26
  have hu48 := Try.underlying48
  have HR0_0 := Aside0.mk hr0_0
  have HC0_0 := Aside0.mk hc0_0
  clear hr0_0 hc0_0
  have HB := Aside0.mk (Below.refl w.heap.size w)
  have H : (spec_l2Bytes.l0 k (([] : List Int)) 0 l0_0 a1_0 a1_1 a1_2 a1_3) = some r := h
  clear h
  obtain ⟨y505, hy505⟩ : ∃ y_ : List Int, y_ = (([] : List Int)) := ⟨_, rfl⟩
  replace H : (spec_l2Bytes.l0 k y505 0 l0_0 a1_0 a1_1 a1_2 a1_3) = some r := by first | (rw [hy505]; with_reducible exact H) | (have H2_ := (Option.bind_some _ _).symm.trans H; rw [hy505]; with_reducible exact H2_) | (have H2_ := (Option.bind_some _ _).symm.trans H; with_reducible exact H2_) | with_reducible exact H | (rw [hy505]; exact H) | exact H
  have Ny505 := Aside0.mk hy505
  clear hy505
  have H' := Aside0.mk H
  clear H
  go_enter Try.func142, Try.ntmps142
  go_wp2_with (first | ((with_reducible refine gate_dst (N := 2) rfl ?_); refine box_event ?hg (N := 2) ?hd (cs := #[.slice A0_0 l0_0.length c0_0]) (t := 26) ?hr ?_; (case hd => rfl); (case hg => rfl); (case hr => first | (go_simp; done) | (go_simp; rfl)); intro gb503 hg w3 hbox hb; have n0_ := Aside0.mk (below_step (by repeat (first | (with_reducible first | exact HB.out | apply below_alloc | apply pw_below_drewN | apply below_drew1) | exact HB.out)) hb); have n1_ := Aside0.mk (hbox); have n2_ := Aside0.mk ((by rw [hg]; exact (below_size (by repeat (first | (with_reducible first | exact HB.out | apply below_alloc | apply pw_below_drewN | apply below_drew1) | exact HB.out))) : w.heap.size ≤ gb503)); have n3_ := Aside0.mk ((by rw [hg]; exact (below_size (by repeat (first | (with_reducible first | exact HB.out | apply below_alloc | apply pw_below_drewN | apply below_drew1) | exact HB.out))) : w.heap.size ≤ gb503)); clear HB; have HB := n0_; have BK503 := n1_; have GW503 := n2_; have GE503 := n3_; clear n0_ n1_ n2_ n3_; clear hb hbox hg) | ((with_reducible refine gate_dst (N := 3) rfl ?_); refine box_event ?hg (N := 3) ?hd (cs := #[.int .i64 a1_0, .int .i64 a1_1, .int .i64 a1_2, .int .i64 a1_3]) (t := 48) ?hr ?_; (case hd => rfl); (case hg => rfl); (case hr => first | (go_simp; done) | (go_simp; rfl)); intro gb504 hg w4 hbox hb; have n0_ := Aside0.mk (blk_below (g := gb503) (o := .cells #[.slice A0_0 l0_0.length c0_0] 26 (0, 0)) (by (with_reducible repeat (first | refine blk_drewN ?_ _ | refine blk_drew ?_ | refine blk_alloc ?_ _)); exact BK503.out) hb); have n1_ := Aside0.mk (below_step (by repeat (first | (with_reducible first | exact HB.out | apply below_alloc | apply pw_below_drewN | apply below_drew1 | refine below_set ?_ GE503.out) | exact HB.out)) hb); have n2_ := Aside0.mk (hbox); have n3_ := Aside0.mk ((by rw [hg]; exact (below_size (by repeat (first | (with_reducible first | exact HB.out | apply below_alloc | apply pw_below_drewN | apply below_drew1 | refine below_set ?_ GE503.out) | exact HB.out))) : w.heap.size ≤ gb504)); have n4_ := Aside0.mk ((by rw [hg]; exact (below_size (by repeat (first | (with_reducible first | exact HB.out | apply below_alloc | apply pw_below_drewN | apply below_drew1 | refine below_set ?_ GE503.out) | exact HB.out))) : w.heap.size ≤ gb504)); have n5_ := Aside0.mk ((by rw [hg]; exact Nat.ne_of_lt (blk_lt (g := gb503) (o := .cells #[.slice A0_0 l0_0.length c0_0] 26 (0, 0)) (by (with_reducible repeat (first | refine blk_drewN ?_ _ | refine blk_drew ?_ | refine blk_alloc ?_ _)); exact BK503.out)) : gb503 ≠ gb504)); have n6_ := Aside0.mk ((by rw [hg]; exact Nat.ne_of_gt (blk_lt (g := gb503) (o := .cells #[.slice A0_0 l0_0.length c0_0] 26 (0, 0)) (by (with_reducible repeat (first | refine blk_drewN ?_ _ | refine blk_drew ?_ | refine blk_alloc ?_ _)); exact BK503.out)) : gb504 ≠ gb503)); clear BK503; clear HB; have BK503 := n0_; have HB := n1_; have BK504 := n2_; have GW504 := n3_; have GE504 := n4_; have NB503_504 := n5_; have NB504_503 := n6_; clear n0_ n1_ n2_ n3_ n4_ n5_ n6_; clear hb hbox hg) | ((with_reducible refine gate_dst (N := 7) rfl ?_); refine Kd.R_lit (Kd.int .u8) _ 5 ?hg (N := 7) ?hd (xs := ([] : List Int)) (inner := []) (ok := fun _ => True) (okp := fun _ => True) ?hr ?hp (fun _ hk => hk) trivial (Below.refl _ _) (Nat.le_refl _) (by simp) ?_; (case hd => rfl); (case hg => rfl); (case hr => first | (go_simp; done) | (go_simp; rfl)); (case hp => exact (Reps.none _ _)); intro v506 w5 ho6 hb hg_ hnew_; clear hg_ hnew_; (first | rw [← Ny505.out] at ho6 | (simp only [Int.reduceToNat] at ho6; rw [← Ny505.out] at ho6)); have n0_ := Aside0.mk (Kd.R_lower ho6 (below_size (by repeat (first | (with_reducible first | exact HB.out | apply below_alloc | apply pw_below_drewN | apply below_drew1 | refine below_set ?_ GE503.out | refine below_set ?_ GE504.out) | exact HB.out)))); have n1_ := Aside0.mk (blk_below (g := gb503) (o := .cells #[.slice A0_0 l0_0.length c0_0] 26 (0, 0)) (by (with_reducible repeat (first | refine blk_drewN ?_ _ | refine blk_drew ?_ | refine blk_alloc ?_ _)); exact BK503.out) hb); have n2_ := Aside0.mk (blk_below (g := gb504) (o := .cells #[.int .i64 a1_0, .int .i64 a1_1, .int .i64 a1_2, .int .i64 a1_3] 48 (0, 0)) (by (with_reducible repeat (first | refine blk_drewN ?_ _ | refine blk_drew ?_ | refine blk_alloc ?_ _)); exact BK504.out) hb); have n3_ := Aside0.mk (below_step (by repeat (first | (with_reducible first | exact HB.out | apply below_alloc | apply pw_below_drewN | apply below_drew1 | refine below_set ?_ GE503.out | refine below_set ?_ GE504.out) | exact HB.out)) hb); clear BK503; clear BK504; clear HB; have HO507 := n0_; have BK503 := n1_; have BK504 := n2_; have HB := n3_; clear n0_ n1_ n2_ n3_; clear hb ho6))
  go_loopg [5, 6] k (fun kq v5 v6 w' => ∃ (x5_1 : List Int) (x6_1 : Int), v6 = .int .i64 x6_1 ∧ Aside0 (spec_l2Bytes.l0 kq x5_1 x6_1 l0_0 a1_0 a1_1 a1_2 a1_3 = some r) ∧ Aside0 (kq ≤ k) ∧ Aside0 (Kd.R (Kd.int .u8) 5 w' w.heap.size (fun _ => True) v5 x5_1) ∧ Aside0 (w'.heap[gb503]? = some (.cells #[(.slice A0_0 l0_0.length c0_0)] 26 (0, 0))) ∧ Aside0 (w'.heap[gb504]? = some (.cells #[.int .i64 a1_0, .int .i64 a1_1, .int .i64 a1_2, .int .i64 a1_3] 48 (0, 0))) ∧ Aside0 (Below w.heap.size w w'))
  case atStart => exact ⟨(y505), (0), (by first | rfl | (simp; done) | (simp [*]; done)), H', ⟨Nat.le_refl _⟩, ⟨by (with_reducible repeat (first | apply Kd.R_alloc | apply Kd.R_drewN | apply Kd.R_drew)); exact HO507.out⟩, ⟨by (with_reducible repeat (first | refine blk_drewN ?_ _ | refine blk_drew ?_ | refine blk_alloc ?_ _)); exact BK503.out⟩, ⟨by (with_reducible repeat (first | refine blk_drewN ?_ _ | refine blk_drew ?_ | refine blk_alloc ?_ _)); exact BK504.out⟩, ⟨by repeat (first | (with_reducible first | exact HB.out | apply below_alloc | apply pw_below_drewN | apply below_drew1 | refine below_set ?_ GE503.out | refine below_set ?_ GE504.out) | exact HB.out)⟩⟩
  case round =>
    clear H'
    try clear c1
    try clear p2
    obtain ⟨x5_1, x6_1, rfl, HA, HK1, HO_5, BK503, BK504, HB⟩ := hrel
    cases gk with
    | zero => exact absurd HA.out (by simp [spec_l2Bytes.l0])
    | succ k1 =>
      have H := HA.out
      clear HA
      simp only [spec_l2Bytes.l0] at H
      by_cases c7 : x6_1 < a1_2
      · rw [if_pos c7] at H
        have c7b0 : decide (x6_1 < a1_2) = true := decide_eq_true c7
        clear c7
        replace H := Option.bind_eq_some_iff.mp H
        obtain ⟨t508, A80, H⟩ := H
        replace H : (if x5_1.length < 140737488355328 then (spec_l2Bytes.l0 k1 (x5_1 ++ [t508]) (wrap64 (x6_1 + 1)) l0_0 a1_0 a1_1 a1_2 a1_3) else (none)) = some r := H
        have A8 := Aside0.mk A80
        clear A80
        by_cases c9 : x5_1.length < 140737488355328
        · rw [if_pos c9] at H
          have LMc9 := Aside0.mk c9
          clear c9
          obtain ⟨y509, hy509⟩ : ∃ y_ : List Int, y_ = (x5_1 ++ [t508]) := ⟨_, rfl⟩
          replace H : (spec_l2Bytes.l0 k1 y509 (wrap64 (x6_1 + 1)) l0_0 a1_0 a1_1 a1_2 a1_3) = some r := by first | (rw [hy509]; with_reducible exact H) | (have H2_ := (Option.bind_some _ _).symm.trans H; rw [hy509]; with_reducible exact H2_) | (have H2_ := (Option.bind_some _ _).symm.trans H; with_reducible exact H2_) | with_reducible exact H | (rw [hy509]; exact H) | exact H
          have Ny509 := Aside0.mk hy509
          clear hy509
          have H' := Aside0.mk H
          clear H
          have hnb10 := NB504_503.out
          have hnc10 := NB503_504.out
          have hcz11_0 : wr.cell? ⟨gb504, 0, none⟩ = some (.int .i64 a1_0) := (blk_cell BK504.out 0).trans rfl
          have hcz11_1 : wr.cell? ⟨gb504, 1, none⟩ = some (.int .i64 a1_1) := (blk_cell BK504.out 1).trans rfl
          have hcz11_2 : wr.cell? ⟨gb504, 2, none⟩ = some (.int .i64 a1_2) := (blk_cell BK504.out 2).trans rfl
          have hcz11_3 : wr.cell? ⟨gb504, 3, none⟩ = some (.int .i64 a1_3) := (blk_cell BK504.out 3).trans rfl
          have hfz11_0 := blk_frozen BK504.out 0
          have hfz11_1 := blk_frozen BK504.out 1
          have hfz11_2 := blk_frozen BK504.out 2
          have hfz11_3 := blk_frozen BK504.out 3
          have hcz12_0 : wr.cell? ⟨gb503, 0, none⟩ = some (.slice A0_0 l0_0.length c0_0) := (blk_cell BK503.out 0).trans rfl
          have hfz12_0 := blk_frozen BK503.out 0
          go_wp2_with (first | ((with_reducible refine gate_callee (f := 156) rfl ?_); refine goesL_ (some 18) rfl rfl Try.func156 (by kernel_rfl) rfl #[.agg #[.slice A0_0 l0_0.length c0_0], .agg #[.int .i64 a1_0, .int .i64 a1_1, .int .i64 a1_2, .int .i64 a1_3], .int .i64 x6_1] rfl (by (try simp only [List.map_toArray, List.map_cons, List.map_nil]); first | done | rfl | (simp only [List.length_drop, List.length_take]; rfl)) ?_; (with_reducible refine (spec_l2At.calls _ _ l0_0 a1_0 a1_1 a1_2 a1_3 x6_1 t508 _ ?side1 ?side2 A8.out).mono ?_); (case side1 => repeat (first | exact (Kd.C_below HR0_0.out HB.out) | (with_reducible refine Kd.C_alloc ?_ _) | (with_reducible refine Kd.C_drewN ?_ _) | (with_reducible refine Kd.C_drew ?_))); (case side2 => exact HC0_0.out); rintro e w13 ⟨rfl, hb⟩; refine ⟨_, rfl, ?_⟩; have n0_ := Aside0.mk (Kd.R_below (by (with_reducible repeat (first | apply Kd.R_alloc | apply Kd.R_drewN | apply Kd.R_drew)); exact HO_5.out) hb); have n1_ := Aside0.mk (blk_below (g := gb503) (o := .cells #[.slice A0_0 l0_0.length c0_0] 26 (0, 0)) (by (with_reducible repeat (first | refine blk_drewN ?_ _ | refine blk_drew ?_ | refine blk_alloc ?_ _)); exact BK503.out) hb); have n2_ := Aside0.mk (blk_below (g := gb504) (o := .cells #[.int .i64 a1_0, .int .i64 a1_1, .int .i64 a1_2, .int .i64 a1_3] 48 (0, 0)) (by (with_reducible repeat (first | refine blk_drewN ?_ _ | refine blk_drew ?_ | refine blk_alloc ?_ _)); exact BK504.out) hb); have n3_ := Aside0.mk (below_step (by repeat (first | (with_reducible first | exact HB.out | apply below_alloc | apply pw_below_drewN | apply below_drew1 | refine below_set ?_ GE503.out | refine below_set ?_ GE504.out) | exact HB.out)) hb); clear HO_5; clear BK503; clear BK504; clear HB; have HO_5 := n0_; have BK503 := n1_; have BK504 := n2_; have HB := n3_; clear n0_ n1_ n2_ n3_; (try clear hb); (try clear hb2); (try clear hk); (try clear hi)) | ((with_reducible refine gate_builtin (b := .append) (xs := #[.tmp 14, .tmp 19]) rfl ?_); at_builtin; refine Kd.R_append (Kd.int .u8) (w0 := w) w.heap.size rfl (.tmp 14) (.tmp 19) 119 5 (.int .u8 0) 1 rfl Try.underlying119 info5 rfl (by decide) (by omega) u5 x5_1 t508 [.int .u8 t508] (fun _ => True) (fun _ => False) rfl rfl ?aP (fun _ hk => hk.elim) ?aF ?aO ?aB ?aS ?aL ?_; (case aP => exact rfl); (case aB => exact (by repeat (first | (with_reducible first | exact HB.out | apply below_alloc | apply pw_below_drewN | apply below_drew1 | refine below_set ?_ GE503.out | refine below_set ?_ GE504.out) | exact HB.out))); (case aF => exact (fun _ _ => trivial)); (case aO => exact (by (with_reducible repeat (first | apply Kd.R_alloc | apply Kd.R_drewN | apply Kd.R_drew)); exact HO_5.out)); (case aS => exact (below_size (by repeat (first | (with_reducible first | exact HB.out | apply below_alloc | apply pw_below_drewN | apply below_drew1 | refine below_set ?_ GE503.out | refine below_set ?_ GE504.out) | exact HB.out)))); (case aL => have := LMc9.out; omega); intro v510 w14 ho hb hg hat; rw [← Ny509.out] at ho; have n0_ := Aside0.mk (blk_grown (g := gb503) (o := .cells #[.slice A0_0 l0_0.length c0_0] 26 (0, 0)) (by (with_reducible repeat (first | refine blk_drewN ?_ _ | refine blk_drew ?_ | refine blk_alloc ?_ _)); exact BK503.out) hg (Kd.R_ne HO_5.out BK503.out (by decide))); have n1_ := Aside0.mk (blk_grown (g := gb504) (o := .cells #[.int .i64 a1_0, .int .i64 a1_1, .int .i64 a1_2, .int .i64 a1_3] 48 (0, 0)) (by (with_reducible repeat (first | refine blk_drewN ?_ _ | refine blk_drew ?_ | refine blk_alloc ?_ _)); exact BK504.out) hg (Kd.R_ne HO_5.out BK504.out (by decide))); have n2_ := Aside0.mk (hb); have n3_ := Aside0.mk (ho); clear BK503; clear BK504; clear HB; clear HO_5; have BK503 := n0_; have BK504 := n1_; have HB := n2_; have HO511 := n3_; clear n0_ n1_ n2_ n3_; clear ho hb hg hat))
          go_roundg k1
          case measure => have := HK1.out; omega
          case rel => exact ⟨(y509), (wrap64 (x6_1 + 1)), (by first | rfl | (simp; done) | (simp [*]; done)), H', ⟨by have := HK1.out; omega⟩, ⟨by (with_reducible repeat (first | apply Kd.R_alloc | apply Kd.R_drewN | apply Kd.R_drew)); exact HO511.out⟩, ⟨by (with_reducible repeat (first | refine blk_drewN ?_ _ | refine blk_drew ?_ | refine blk_alloc ?_ _)); exact BK503.out⟩, ⟨by (with_reducible repeat (first | refine blk_drewN ?_ _ | refine blk_drew ?_ | refine blk_alloc ?_ _)); exact BK504.out⟩, ⟨by repeat (first | (with_reducible first | exact HB.out | apply below_alloc | apply pw_below_drewN | apply below_drew1 | refine below_set ?_ GE503.out | refine below_set ?_ GE504.out) | exact HB.out)⟩⟩
        · rw [if_neg c9] at H
          exact absurd H (by simp)
      · rw [if_neg c7] at H
        have c7b0 : decide (x6_1 < a1_2) = false := decide_eq_false c7
        clear c7
        obtain rfl := Option.some.inj H
        have hnb15 := NB504_503.out
        have hnc15 := NB503_504.out
        have hcz16_0 : wr.cell? ⟨gb504, 0, none⟩ = some (.int .i64 a1_0) := (blk_cell BK504.out 0).trans rfl
        have hcz16_1 : wr.cell? ⟨gb504, 1, none⟩ = some (.int .i64 a1_1) := (blk_cell BK504.out 1).trans rfl
        have hcz16_2 : wr.cell? ⟨gb504, 2, none⟩ = some (.int .i64 a1_2) := (blk_cell BK504.out 2).trans rfl
        have hcz16_3 : wr.cell? ⟨gb504, 3, none⟩ = some (.int .i64 a1_3) := (blk_cell BK504.out 3).trans rfl
        have hfz16_0 := blk_frozen BK504.out 0
        have hfz16_1 := blk_frozen BK504.out 1
        have hfz16_2 := blk_frozen BK504.out 2
        have hfz16_3 := blk_frozen BK504.out 3
        go_wp2
        go_ret
        exact ⟨_, by first | rfl | (simp [errW_none, errW_some] <;> rfl) | (simp [*, errW_none, errW_some] <;> rfl), by (with_reducible repeat (first | apply Kd.R_alloc | apply Kd.R_drewN | apply Kd.R_drew)); exact HO_5.out, by repeat (first | (with_reducible first | exact HB.out | apply below_alloc | apply pw_below_drewN | apply below_drew1 | refine below_set ?_ GE503.out | refine below_set ?_ GE504.out) | exact HB.out)⟩

end Go.Proofs.Ytoomjghabiojkaa.P


/- What the reference reads of a window and writes into it. -/
namespace Go.Proofs.Ytoomjghabiojkaa.P
open Go.RowKit Go.Proofs.YtoomjghabiojkaaW.PrintWords
set_option linter.unusedVariables false
set_option linter.unusedSimpArgs false
def seeB (m : List (List Int)) (a s n : Int) : List Int := ((rowB m a).drop s.toNat).take n.toNat
theorem seeB_length {m : List (List Int)} {a s n c : Int} (hw : WinOk m a s n c) : ((seeB m a s n).length : Int) = n := by
  have := hw.n0; have := hw.n1; have := hw.s0; have := hw.s1
  simp only [seeB, List.length_take, List.length_drop]
  omega
theorem l2At_f {m : List (List Int)} {a s n c : Int} (hw : WinOk m a s n c) (i : Nat) (hi : (i : Int) < n) : spec_l2At.f m a s n c (i : Int) = some ((seeB m a s n).getD i 0) := by
  have := hw.n0; have := hw.n1; have := hw.s0; have := hw.s1; have := hw.r1; have := hw.c1
  have hw1 : wrap64 (s + (i : Int)) = s + (i : Int) := wrap_ok (by omega) (by omega)
  have hx : (s + (i : Int)).toNat = s.toNat + i := by omega
  have he : rd_Lsu8 m a = rowB m a := rfl
  unfold spec_l2At.f rd
  rw [if_pos hw.a0, if_pos hw.a1, hw1, he, if_pos (by omega), if_pos (by omega), hx]
  congr 1
  simp only [seeB, List.getD_eq_getElem?_getD, List.getElem?_take, List.getElem?_drop]
  rw [if_pos (by omega)]
end Go.Proofs.Ytoomjghabiojkaa.P


/- The reference's bytes of a window. -/
namespace Go.Proofs.Ytoomjghabiojkaa.P
open Go.RowKit Go.Proofs.YtoomjghabiojkaaW.PrintWords
set_option linter.unusedVariables false
set_option linter.unusedSimpArgs false
theorem l2Bytes_ev {m : List (List Int)} {a s n c : Int} (hw : WinOk m a s n c) : ∀ (j i : Nat), i + j = n.toNat → Ev (fun k => spec_l2Bytes.l0 k ((seeB m a s n).take i) (i : Int) m a s n c) (seeB m a s n) := by
  have hn0 := hw.n0; have hn1 := hw.n1; have hc1 := hw.c1
  have hsl := seeB_length hw
  intro j
  induction j with
  | zero =>
    intro i hi
    refine Ev.step (fun k => ?_) (Ev.now _)
    simp only [spec_l2Bytes.l0]
    rw [if_neg (by omega), List.take_of_length_le (by omega)]
  | succ j ih =>
    intro i hi
    refine Ev.step (f := fun k => spec_l2Bytes.l0 k ((seeB m a s n).take (i + 1)) ((i + 1 : Nat) : Int) m a s n c) (fun k => ?_) (ih (i + 1) (by omega))
    simp only [spec_l2Bytes.l0]
    have hlt : i < (seeB m a s n).length := by omega
    rw [if_pos (by omega), l2At_f hw i (by omega), Option.bind_some, if_pos (by simp; omega), wrap_ok (by omega) (by omega), List.take_succ_eq_append_getElem hlt, List.getD_eq_getElem?_getD, List.getElem?_eq_getElem hlt]
    simp
theorem l2Bytes_f {m : List (List Int)} {a s n c : Int} (hw : WinOk m a s n c) : Ev (fun k => spec_l2Bytes.f k m a s n c) (seeB m a s n) := by
  have := l2Bytes_ev hw n.toNat 0 (by omega)
  simpa [spec_l2Bytes.f] using this
end Go.Proofs.Ytoomjghabiojkaa.P


/- What a window of an argument sees; copying into an open row. -/
namespace Go.Proofs.Ytoomjghabiojkaa.P
open Go.RowKit Go.Proofs.YtoomjghabiojkaaW.PrintWords Go.Proofs.YtoomjghabiojkaaW.PrintLast Go.Proofs.YtoomjghabiojkaaW.PrintMore Go.Proofs.YtoomjghabiojkaaW.Mine
set_option linter.unusedVariables false
set_option linter.unusedSimpArgs false
def Bytes (w : World) (X : Option Addr) (bs : List Int) : Prop := ∀ j, j < bs.length → ∃ b, X = some b ∧ w.cell? (b.add j) = some (.int .u8 (bs.getD j 0))
theorem Bytes.below {w w' : World} {X : Option Addr} {bs : List Int} (h : Bytes w X bs) (hb : Below w.heap.size w w') : Bytes w' X bs := by
  intro j hj
  obtain ⟨b, h1, h2⟩ := h j hj
  exact ⟨b, h1, (hb.cell (World.block_lt_of_cell? w _ h2)).trans h2⟩
theorem Bytes.cut {w : World} {X : Option Addr} {bs : List Int} (h : Bytes w X bs) (l k C : Nat) (hl : l + k ≤ bs.length) (hC : bs.length ≤ C) : Bytes w (cutA X l C) ((bs.drop l).take k) := by
  intro j hj
  have hj' : j < k := by simp at hj; omega
  obtain ⟨b, h1, h2⟩ := h (l + j) (by omega)
  unfold cutA
  rw [if_neg (by omega), h1]
  refine ⟨b.add l, rfl, ?_⟩
  have e1 : (b.add l).add j = b.add (l + j) := by
    unfold Addr.add
    by_cases z1 : l = 0 <;> by_cases z2 : j = 0 <;> simp [z1, z2, Nat.add_assoc]
  rw [e1, h2]
  congr 2
  simp [List.getD_eq_getElem?_getD, List.getElem?_take, List.getElem?_drop, hj']
theorem Bytes.take {w : World} {X : Option Addr} {bs : List Int} (h : Bytes w X bs) (k : Nat) : Bytes w X (bs.take k) := by
  intro j hj
  have hj' : j < k ∧ j < bs.length := by simp at hj; omega
  obtain ⟨b, h1, h2⟩ := h j hj'.2
  refine ⟨b, h1, h2.trans ?_⟩
  congr 2
  simp [List.getD_eq_getElem?_getD, List.getElem?_take, hj'.1]
section
variable {e2 e lo hi n c i g cap base_ : Nat} {A : Option Addr} {m : List (List Int)} {row : List Int} {W w : World} {ts : List Th}
end
section
variable {ops : Array Oper} {evs : List EvT} {W : World} {base : List Th} {mods : List Md} {aF : (Nat → Lt) → Act} {X : Option Addr} {x y : Operand} {e lo hi n c i0 g cap : Nat} {A : Option Addr} {m : List (List Int)} {row : List Int}
end
end Go.Proofs.Ytoomjghabiojkaa.P


namespace Go.Proofs.Ytoomjghabiojkaa.P
open Go.RowKit Go.Proofs.YtoomjghabiojkaaW.PrintWords Go.Proofs.YtoomjghabiojkaaW.PrintLast Go.Proofs.YtoomjghabiojkaaW.PrintMore
attribute [local go_sem] max2_int min2_int max_two min_two max_three min_three max_four min_four   -- for this text's walks alone
set_option linter.unusedVariables false
set_option linter.unusedSimpArgs false

def bytes_Equal.f (l0 : List Int) (l1 : List Int) : Option (Bool) := some ((strOfNums l0).toList == (strOfNums l1).toList)
set_option maxHeartbeats 8000000 in
set_option maxRecDepth 100000 in
theorem bytes_Equal.calls (A0 : Option Addr) (c0 : Nat) (l0 : List Int) (A1 : Option Addr) (c1 : Nat) (l1 : List Int) (r : Bool) (w : World) (hr0 : Kd.C (Kd.int .u8) w A0 l0.length l0) (hc0 : l0.length ≤ c0) (hr1 : Kd.C (Kd.int .u8) w A1 l1.length l1) (hc1 : l1.length ≤ c1) (h : bytes_Equal.f l0 l1 = some r) :
    Calls Try.prog 147 #[.slice A0 l0.length c0, .slice A1 l1.length c1] w fun e w' => e = .returned (.bool r) ∧ Drawn0 w w' := by
  have HR0 := Aside0.mk hr0
  have HC0 := Aside0.mk hc0
  clear hr0 hc0
  have HR1 := Aside0.mk hr1
  have HC1 := Aside0.mk hc1
  clear hr1 hc1
  have H : (some ((strOfNums l0).toList == (strOfNums l1).toList)) = some r := h
  clear h
  obtain rfl := Option.some.inj H
  have hcv3 := Kd.C_string (P := Try.prog) (A := A0) (c := c0) Try.underlying119 Try.underlying5 Try.underlying9 HR0.out
  have hcv4 := Kd.C_string (P := Try.prog) (A := A1) (c := c1) Try.underlying119 Try.underlying5 Try.underlying9 HR1.out
  go_enter Try.func147, Try.ntmps147
  go_wp2
  go_ret
  exact ⟨by first | rfl | (simp; done) | (simp [*]; done), by repeat (first | exact Drawn0.refl _ | apply Drawn0.step)⟩

end Go.Proofs.Ytoomjghabiojkaa.P


/- slices.EqualFunc over rows of bytes, with bytes.Equal. -/
namespace Go.Proofs.Ytoomjghabiojkaa.P
open Go.RowKit Go.Proofs.YtoomjghabiojkaaW.PrintWords Go.Proofs.YtoomjghabiojkaaW.PrintLast Go.Proofs.YtoomjghabiojkaaW.PrintMore
set_option linter.unusedVariables false
set_option linter.unusedSimpArgs false
theorem C_rowC {e : Nat} {w : World} {A : Option Addr} {l : List (List Int)} {i : Nat} (h : Kd.C (Kd.slice e (Kd.int .u8)) w A l.length l) (hi : i < l.length) :
    ∃ (a : Addr) (ad : Option Addr) (cap : Nat), A = some a ∧ w.cell? (a.add i) = some (.slice ad (l[i]).length cap) ∧ (l[i]).length ≤ cap ∧ Kd.C (Kd.int .u8) w ad (l[i]).length l[i] := by
  obtain ⟨a, hA, hc⟩ := h.2.2 (by omega)
  obtain ⟨c, hcl, ⟨A2, c2, hc1, hc2, hC⟩, hcell⟩ := hc i _ (List.getElem?_eq_getElem hi)
  subst hc1
  have h0 := hcell 0 _ rfl
  refine ⟨a, A2, c2, hA, ?_, hc2, hC⟩
  rw [← h0]
  congr 1
  first | rfl | (unfold Addr.add; by_cases z : i = 0 <;> simp [z, Kd.slice])
def eqRows : List (List Int) → List (List Int) → Bool
  | [], [] => true
  | x :: xs, y :: ys => ((strOfNums x).toList == (strOfNums y).toList) && eqRows xs ys
  | _, _ => false
theorem eqRows_len : ∀ (a b : List (List Int)), a.length ≠ b.length → eqRows a b = false
  | [], [] => by simp
  | [], _ :: _ => by simp [eqRows]
  | _ :: _, [] => by simp [eqRows]
  | x :: xs, y :: ys => by
    intro h
    have := eqRows_len xs ys (by simpa using h)
    simp [eqRows, this]
set_option maxHeartbeats 1600000 in
set_option maxRecDepth 100000 in
theorem equalF_c (A0 : Option Addr) (c0 : Nat) (l0 : List (List Int)) (A1 : Option Addr) (c1 : Nat) (l1 : List (List Int)) (w : World) (hr0 : Kd.C (Kd.slice 5 (Kd.int .u8)) w A0 l0.length l0) (hr1 : Kd.C (Kd.slice 5 (Kd.int .u8)) w A1 l1.length l1) :
    Calls Try.prog 146 #[.slice A0 l0.length c0, .slice A1 l1.length c1, .func (.func 147) #[] #[]] w fun e w' => e = .returned (.bool (eqRows l0 l1)) ∧ Below w.heap.size w w' := by
  have HR0 := Aside0.mk hr0
  have HR1 := Aside0.mk hr1
  have HL0 := Aside0.mk hr0.2.1
  have HL1 := Aside0.mk hr1.2.1
  clear hr0 hr1
  by_cases hne : l0.length = l1.length
  · have HNE := Aside0.mk hne
    rw [← hne]
    generalize hn : l0.length = n
    have HN := Aside0.mk hn
    clear hn hne
    go_enter Try.func146, Try.ntmps146
    go_wp2
    go_loopw [17] (fun v17 wr => ∃ i : Nat, i ≤ n ∧ v17 = .int .i64 (i : Int) ∧ Aside0 (eqRows l0 l1 = eqRows (l0.drop i) (l1.drop i)) ∧ Aside0 (Below w.heap.size w wr)) (fun v17 _ => n - (intOf v17).toNat)
    case atStart => exact ⟨0, Nat.zero_le _, rfl, ⟨rfl⟩, ⟨Below.refl _ _⟩⟩
    case round =>
      obtain ⟨i, hi, rfl, HE, HB⟩ := hrel
      have hl0 : n ≤ 9223372036854775807 := by have := HL0.out; have := HN.out; omega
      by_cases hlt0 : i < n
      · have hlt' : (i : Int) < (n : Int) := by omega
        have hlt : i < l0.length := by have := HN.out; omega
        have hlt1 : i < l1.length := by have := HN.out; have := HNE.out; omega
        have hi0 : (0 : Int) ≤ (i : Int) := by omega
        obtain ⟨a, ad, cap, hA, hx, hcap, hC⟩ := C_rowC (Kd.C_below HR0.out HB.out) hlt
        obtain ⟨b, bd, dap, hBq, hy, hdap, hD⟩ := C_rowC (Kd.C_below HR1.out HB.out) hlt1
        subst hA hBq
        obtain ⟨x, ex⟩ : ∃ x, l0[i] = x := ⟨_, rfl⟩
        obtain ⟨y, ey⟩ : ∃ y, l1[i] = y := ⟨_, rfl⟩
        rw [ex] at hx hcap hC
        rw [ey] at hy hdap hD
        have HS := Aside0.mk (show eqRows (l0.drop i) (l1.drop i) = (((strOfNums x).toList == (strOfNums y).toList) && eqRows (l0.drop (i + 1)) (l1.drop (i + 1))) by
          rw [List.drop_eq_getElem_cons hlt, List.drop_eq_getElem_cons hlt1, ex, ey]; rfl)
        have HY := Aside0.mk (bytes_Equal.calls ad cap x bd dap y _ wr hC hcap hD hdap rfl)
        clear ex ey hC hD hcap hdap hlt hlt1
        cases hw : ((strOfNums x).toList == (strOfNums y).toList)
        · have HW := Aside0.mk hw
          clear hw
          go_wp2_with (go_at_call 147; refine HY.out.mono ?_; rintro e w1 ⟨rfl, hB1⟩; rw [HW.out]; have HB1 := Aside0.mk hB1; clear hB1)
          go_ret
          exact ⟨by rw [HE.out, HS.out, HW.out]; rfl, below_step HB.out HB1.out.below⟩
        · have HW := Aside0.mk hw
          clear hw
          go_wp2_with (go_at_call 147; refine HY.out.mono ?_; rintro e w1 ⟨rfl, hB1⟩; rw [HW.out]; have HB1 := Aside0.mk hB1; clear hB1)
          go_roundw
          case rel => exact ⟨i + 1, by omega, by go_num, ⟨by rw [HE.out, HS.out, HW.out]; rfl⟩, ⟨below_step HB.out HB1.out.below⟩⟩
          case measure => simp [intOf]; omega
      · obtain rfl : i = n := by omega
        go_wp2
        go_ret
        exact ⟨by rw [HE.out, ← HN.out, List.drop_length, HNE.out, List.drop_length]; rfl, HB.out⟩
  · have hne' : ¬ (l0.length : Int) = (l1.length : Int) := by omega
    have HNE := Aside0.mk hne
    go_enter Try.func146, Try.ntmps146
    go_wp2
    go_ret
    exact ⟨by rw [eqRows_len _ _ HNE.out]; rfl, Below.refl _ _⟩
def eqFunc_rows.f (l0 : List (List Int)) (l1 : List (List Int)) : Option Bool := some (eqRows l0 l1)
theorem eqFunc_rows.calls (A0 : Option Addr) (c0 : Nat) (l0 : List (List Int)) (A1 : Option Addr) (c1 : Nat) (l1 : List (List Int)) (r : Bool) (w : World) (hr0 : Kd.C (Kd.slice 5 (Kd.int .u8)) w A0 l0.length l0) (hc0 : l0.length ≤ c0) (hr1 : Kd.C (Kd.slice 5 (Kd.int .u8)) w A1 l1.length l1) (hc1 : l1.length ≤ c1) (h : eqFunc_rows.f l0 l1 = some r) :
    Calls Try.prog 146 #[.slice A0 l0.length c0, .slice A1 l1.length c1, .func (.func 147) #[] #[]] w fun e w' => e = .returned (.bool r) ∧ Below w.heap.size w w' := by
  obtain rfl := Option.some.inj h
  exact equalF_c A0 c0 l0 A1 c1 l1 w hr0 hr1
end Go.Proofs.Ytoomjghabiojkaa.P


namespace Go.Proofs.Ytoomjghabiojkaa.P
open Go.RowKit Go.Proofs.YtoomjghabiojkaaW.PrintWords Go.Proofs.YtoomjghabiojkaaW.PrintLast Go.Proofs.YtoomjghabiojkaaW.PrintMore
attribute [local go_sem] max2_int min2_int max_two min_two max_three min_three max_four min_four   -- for this text's walks alone
set_option linter.unusedVariables false
set_option linter.unusedSimpArgs false

def impl_Memory_seen.f (l0_0 : List (List Int)) (a1_0 : Int) (a1_1 : Int) (a1_2 : Int) (a1_3 : Int) : Option (List Int) := if 0 ≤ a1_0 then (if a1_0 < (l0_0.length : Int) then (if 0 ≤ a1_1 then (if a1_1 ≤ (wrap64 (a1_1 + a1_2)) then (if (wrap64 (a1_1 + a1_2)) ≤ ((rd_Lsu8 l0_0 a1_0).length : Int) then (some (((rd_Lsu8 l0_0 a1_0).take ((wrap64 (a1_1 + a1_2)) : Int).toNat).drop (a1_1 : Int).toNat)) else (none)) else (none)) else (none)) else (none)) else (none)
set_option maxHeartbeats 8000000 in
set_option maxRecDepth 100000 in
theorem impl_Memory_seen.calls (P0_0_ : Nat → Prop) (A0_0 : Option Addr) (c0_0 : Nat) (l0_0 : List (List Int)) (a1_0 : Int) (a1_1 : Int) (a1_2 : Int) (a1_3 : Int) (r : List Int) (w : World) (hs0_0 : Kd.V (Kd.slice 5 (Kd.int .u8)) 119 w w.heap.size (fun k_ => P0_0_ k_) (.slice A0_0 l0_0.length c0_0) l0_0) (h : impl_Memory_seen.f l0_0 a1_0 a1_1 a1_2 a1_3 = some r) :
    Calls Try.prog 131 #[.agg #[.slice A0_0 l0_0.length c0_0], .agg #[.int .i64 a1_0, .int .i64 a1_1, .int .i64 a1_2, .int .i64 a1_3]] w fun e w' => ∃ v0_ : Value, e = .returned (v0_) ∧ Kd.V (Kd.int .u8) 5 w' w.heap.size (fun k_ => (P0_0_ k_ ∨ w.heap.size ≤ k_)) v0_ r ∧ Below w.heap.size w w' := by
  have hu26 := Try.underlying26
  have hu48 := Try.underlying48
  have HO0_0 := Aside0.mk (show Kd.V (Kd.slice 5 (Kd.int .u8)) 119 w w.heap.size (fun k_ => (P0_0_ k_ ∨ w.heap.size ≤ k_)) (.slice A0_0 l0_0.length c0_0) l0_0 from Kd.V_mono hs0_0 (fun k_ hk => .inl hk))
  have HB := Aside0.mk (Below.refl w.heap.size w)
  have H : (if 0 ≤ a1_0 then (if a1_0 < (l0_0.length : Int) then (if 0 ≤ a1_1 then (if a1_1 ≤ (wrap64 (a1_1 + a1_2)) then (if (wrap64 (a1_1 + a1_2)) ≤ ((rd_Lsu8 l0_0 a1_0).length : Int) then (some (((rd_Lsu8 l0_0 a1_0).take ((wrap64 (a1_1 + a1_2)) : Int).toNat).drop (a1_1 : Int).toNat)) else (none)) else (none)) else (none)) else (none)) else (none)) = some r := h
  clear h
  by_cases c3 : 0 ≤ a1_0
  · rw [if_pos c3] at H
    have c3b0 : decide (0 ≤ a1_0) = true := decide_eq_true c3
    clear c3
    by_cases c4 : a1_0 < (l0_0.length : Int)
    · rw [if_pos c4] at H
      have c4b0 : decide (a1_0 < (l0_0.length : Int)) = true := decide_eq_true c4
      clear c4
      by_cases c5 : 0 ≤ a1_1
      · rw [if_pos c5] at H
        have c5b0 := eq_true c5
        have c5b1 : decide (0 ≤ a1_1) = true := decide_eq_true c5
        clear c5
        by_cases c6 : a1_1 ≤ (wrap64 (a1_1 + a1_2))
        · rw [if_pos c6] at H
          have c6b0 := eq_true c6
          have c6b1 : decide (a1_1 ≤ (wrap64 (a1_1 + a1_2))) = true := decide_eq_true c6
          by_cases c7 : (wrap64 (a1_1 + a1_2)) ≤ ((rd_Lsu8 l0_0 a1_0).length : Int)
          · rw [if_pos c7] at H
            have c7b0 := eq_true c7
            have c7b1 : decide ((wrap64 (a1_1 + a1_2)) ≤ ((rd_Lsu8 l0_0 a1_0).length : Int)) = true := decide_eq_true c7
            obtain ⟨y573, hy573⟩ : ∃ y_ : List Int, y_ = (((rd_Lsu8 l0_0 a1_0).take ((wrap64 (a1_1 + a1_2)) : Int).toNat).drop (a1_1 : Int).toNat) := ⟨_, rfl⟩
            replace H : (some y573) = some r := by first | (rw [hy573]; with_reducible exact H) | (have H2_ := (Option.bind_some _ _).symm.trans H; rw [hy573]; with_reducible exact H2_) | (have H2_ := (Option.bind_some _ _).symm.trans H; with_reducible exact H2_) | with_reducible exact H | (rw [hy573]; exact H) | exact H
            have Ny573 := Aside0.mk hy573
            clear hy573
            obtain rfl := Option.some.inj H
            go_enter Try.func131, Try.ntmps131
            go_wp2_with (first | ((with_reducible refine gate_dst (N := 2) rfl ?_); refine box_event ?hg (N := 2) ?hd (cs := #[.slice A0_0 l0_0.length c0_0]) (t := 26) ?hr ?_; (case hd => rfl); (case hg => rfl); (case hr => first | (go_simp; done) | (go_simp; rfl)); intro gb570 hg w8 hbox hb; have n0_ := Aside0.mk (Kd.V_below (Kd.V_elderB (by (with_reducible repeat (first | apply Kd.V_alloc | apply Kd.V_drewN | apply Kd.V_drew)); exact HO0_0.out) gb570 (Nat.le_of_eq hg.symm)) hb); have n1_ := Aside0.mk (below_step (by repeat (first | (with_reducible first | exact HB.out | apply below_alloc | apply pw_below_drewN | apply below_drew1) | exact HB.out)) hb); have n2_ := Aside0.mk (hbox); have n3_ := Aside0.mk ((by rw [hg]; exact (below_size (by repeat (first | (with_reducible first | exact HB.out | apply below_alloc | apply pw_below_drewN | apply below_drew1) | exact HB.out))) : w.heap.size ≤ gb570)); have n4_ := Aside0.mk ((by rw [hg]; exact (below_size (by repeat (first | (with_reducible first | exact HB.out | apply below_alloc | apply pw_below_drewN | apply below_drew1) | exact HB.out))) : w.heap.size ≤ gb570)); clear HO0_0; clear HB; have HO0_0 := n0_; have HB := n1_; have BK570 := n2_; have GW570 := n3_; have GE570 := n4_; clear n0_ n1_ n2_ n3_ n4_; clear hb hbox hg) | ((with_reducible refine gate_dst (N := 3) rfl ?_); refine box_event ?hg (N := 3) ?hd (cs := #[.int .i64 a1_0, .int .i64 a1_1, .int .i64 a1_2, .int .i64 a1_3]) (t := 48) ?hr ?_; (case hd => rfl); (case hg => rfl); (case hr => first | (go_simp; done) | (go_simp; rfl)); intro gb571 hg w9 hbox hb; have n0_ := Aside0.mk (Kd.V_below (Kd.V_elderB (by (with_reducible repeat (first | apply Kd.V_alloc | apply Kd.V_drewN | apply Kd.V_drew)); exact HO0_0.out) gb571 (Nat.le_of_eq hg.symm)) hb); have n1_ := Aside0.mk (blk_below (g := gb570) (o := .cells #[.slice A0_0 l0_0.length c0_0] 26 (0, 0)) (by (with_reducible repeat (first | refine blk_drewN ?_ _ | refine blk_drew ?_ | refine blk_alloc ?_ _)); exact BK570.out) hb); have n2_ := Aside0.mk (below_step (by repeat (first | (with_reducible first | exact HB.out | apply below_alloc | apply pw_below_drewN | apply below_drew1 | refine below_set ?_ GE570.out) | exact HB.out)) hb); have n3_ := Aside0.mk (hbox); have n4_ := Aside0.mk ((by rw [hg]; exact (below_size (by repeat (first | (with_reducible first | exact HB.out | apply below_alloc | apply pw_below_drewN | apply below_drew1 | refine below_set ?_ GE570.out) | exact HB.out))) : w.heap.size ≤ gb571)); have n5_ := Aside0.mk ((by rw [hg]; exact (below_size (by repeat (first | (with_reducible first | exact HB.out | apply below_alloc | apply pw_below_drewN | apply below_drew1 | refine below_set ?_ GE570.out) | exact HB.out))) : w.heap.size ≤ gb571)); have n6_ := Aside0.mk ((by rw [hg]; exact Nat.ne_of_lt (blk_lt (g := gb570) (o := .cells #[.slice A0_0 l0_0.length c0_0] 26 (0, 0)) (by (with_reducible repeat (first | refine blk_drewN ?_ _ | refine blk_drew ?_ | refine blk_alloc ?_ _)); exact BK570.out)) : gb570 ≠ gb571)); have n7_ := Aside0.mk ((by rw [hg]; exact Nat.ne_of_gt (blk_lt (g := gb570) (o := .cells #[.slice A0_0 l0_0.length c0_0] 26 (0, 0)) (by (with_reducible repeat (first | refine blk_drewN ?_ _ | refine blk_drew ?_ | refine blk_alloc ?_ _)); exact BK570.out)) : gb571 ≠ gb570)); clear HO0_0; clear BK570; clear HB; have HO0_0 := n0_; have BK570 := n1_; have HB := n2_; have BK571 := n3_; have GW571 := n4_; have GE571 := n5_; have NB570_571 := n6_; have NB571_570 := n7_; clear n0_ n1_ n2_ n3_ n4_ n5_ n6_ n7_; clear hb hbox hg; have hnb10 := NB570_571.out; have hnc10 := NB571_570.out; have hcz11_0 : w9.cell? ⟨gb570, 0, none⟩ = some (.slice A0_0 l0_0.length c0_0) := (blk_cell BK570.out 0).trans rfl; have hfz11_0 := blk_frozen BK570.out 0; have hcz12_0 : w9.cell? ⟨gb571, 0, none⟩ = some (.int .i64 a1_0) := (blk_cell BK571.out 0).trans rfl; have hcz12_1 : w9.cell? ⟨gb571, 1, none⟩ = some (.int .i64 a1_1) := (blk_cell BK571.out 1).trans rfl; have hcz12_2 : w9.cell? ⟨gb571, 2, none⟩ = some (.int .i64 a1_2) := (blk_cell BK571.out 2).trans rfl; have hcz12_3 : w9.cell? ⟨gb571, 3, none⟩ = some (.int .i64 a1_3) := (blk_cell BK571.out 3).trans rfl; have hfz12_0 := blk_frozen BK571.out 0; have hfz12_1 := blk_frozen BK571.out 1; have hfz12_2 := blk_frozen BK571.out 2; have hfz12_3 := blk_frozen BK571.out 3; have p572 : 0 ≤ (a1_0 : Int) := of_decide_eq_true (by first | (with_reducible assumption) | assumption); have q572 : a1_0 < (l0_0.length : Int) := of_decide_eq_true (by first | (with_reducible assumption) | assumption); obtain ⟨ad572, A572_0, c572_0, e572, hx572_0, hl572_0, hi572_0⟩ := at_Lsu8 (Kd.V_reads' HO0_0.out).2.2 a1_0 p572 q572; cases e572; obtain ⟨ce572, hce572, hMe572, hcc572⟩ := Kd.V_get HO0_0.out [] a1_0 p572 (by first | exact q572 | exact of_decide_eq_true (by first | (with_reducible assumption) | assumption) | (have e_ := (Kd.V_reads' HO0_0.out).1; omega)); obtain ⟨ua572_0, uc572_0, rfl, ul572_0, ge572_0⟩ := Kd.FK_slice_open hMe572; have hv572_0 := hcc572 0 _ rfl; rw [Nat.add_zero, show ((Kd.slice 5 (Kd.int .u8))).sz = 1 from rfl, Nat.mul_one] at hv572_0; replace hv572_0 := Option.some.inj (hv572_0.symm.trans hx572_0); injection hv572_0 with hva_ hvn_ hvc_; rw [hva_] at ge572_0; rw [hvc_] at ul572_0; have HL572_0 := Aside0.mk (show Kd.V (Kd.int .u8) 5 _ w.heap.size _ _ (rd_Lsu8 l0_0 a1_0) from Kd.V_mk ul572_0 ge572_0); clear hva_ hvn_ hvc_ ge572_0 ul572_0; clear hcc572 hce572; have HR572_0 := Aside0.mk hi572_0; have HC572_0 := Aside0.mk hl572_0; clear hi572_0 hl572_0; replace p572 := eq_true p572; replace q572 := eq_true q572; have q13 : ((wrap64 (a1_1 + a1_2)) : Int) ≤ (((rd_Lsu8 l0_0 a1_0).length : Int) : Int) := of_decide_eq_true (by first | (with_reducible assumption) | assumption); obtain ⟨i013, hi013, _, hsz13, _⟩ := info_parts info5; have hroom13 : (rd_Lsu8 l0_0 a1_0).length ≤ c572_0 := HC572_0.out; have hC13 : Kd.F (Kd.int .u8) _ _ A572_0 (rd_Lsu8 l0_0 a1_0).length (rd_Lsu8 l0_0 a1_0) := (Kd.V_at (base := w.heap.size) HL572_0.out).2.2; have ql13 : (a1_1 : Int) ≤ ((wrap64 (a1_1 + a1_2)) : Int) := of_decide_eq_true (by first | (with_reducible assumption) | assumption); have q013 : (0 : Int) ≤ (a1_1 : Int) := of_decide_eq_true (by first | (with_reducible assumption) | assumption); have hcut13 := cut_mid (P := Try.prog) 119 5 .i64 .i64 Try.underlying119 hi013 1 hsz13 A572_0 (rd_Lsu8 l0_0 a1_0).length c572_0 a1_1 (wrap64 (a1_1 + a1_2)) q013 ql13 q13 hroom13; have hr13 := Kd.F_mid (lo := (a1_1 : Int).toNat) (hi := ((wrap64 (a1_1 + a1_2)) : Int).toNat) (c := c572_0) hC13 (by omega) (by omega) hroom13; obtain ⟨A13, hA13⟩ : ∃ A1, A1 = (if c572_0 = (a1_1 : Int).toNat then A572_0 else (A572_0 : Option Addr).map (·.add ((a1_1 : Int).toNat * 1))) := ⟨_, rfl⟩; obtain ⟨c13, hc13⟩ : ∃ c1, c1 = c572_0 - (a1_1 : Int).toNat := ⟨_, rfl⟩; have hy13 : y573.length = ((wrap64 (a1_1 + a1_2)) : Int).toNat - (a1_1 : Int).toNat := (by rw [Ny573.out, List.length_drop, List.length_take] <;> omega); rw [show ((rd_Lsu8 l0_0 a1_0).take ((wrap64 (a1_1 + a1_2)) : Int).toNat).drop (a1_1 : Int).toNat = y573 from Ny573.out.symm] at hr13; replace hr13 : Kd.F (Kd.int .u8) _ _ A13 y573.length y573 := (by rw [hA13]; exact hr13); rw [← hy13, ← hA13, ← hc13] at hcut13; have HO577 := Aside0.mk (show Kd.V (Kd.int .u8) 5 _ w.heap.size _ (.slice A13 y573.length c13) y573 from Kd.V_mk (by rw [hy13, hc13]; exact Nat.sub_le_sub_right (Nat.le_trans (by omega) hroom13) _) hr13); have HC577 := Aside0.mk (show y573.length ≤ c13 from by rw [hy13, hc13]; exact Nat.sub_le_sub_right (Nat.le_trans (by omega) hroom13) _); clear hr13 hC13 hroom13 hi013 hsz13 hc13; have KY13 := Aside0.mk hy13; have KA13 := Aside0.mk hA13; clear hy13 hA13; replace q13 := eq_true q13))
            repeat (go_quiet (first | ((with_reducible refine gate_dst (N := 2) rfl ?_); refine box_event ?hg (N := 2) ?hd (cs := #[.slice A0_0 l0_0.length c0_0]) (t := 26) ?hr ?_; (case hd => rfl); (case hg => rfl); (case hr => first | (go_simp; done) | (go_simp; rfl)); intro gb570 hg w8 hbox hb; have n0_ := Aside0.mk (Kd.V_below (Kd.V_elderB (by (with_reducible repeat (first | apply Kd.V_alloc | apply Kd.V_drewN | apply Kd.V_drew)); exact HO0_0.out) gb570 (Nat.le_of_eq hg.symm)) hb); have n1_ := Aside0.mk (below_step (by repeat (first | (with_reducible first | exact HB.out | apply below_alloc | apply pw_below_drewN | apply below_drew1) | exact HB.out)) hb); have n2_ := Aside0.mk (hbox); have n3_ := Aside0.mk ((by rw [hg]; exact (below_size (by repeat (first | (with_reducible first | exact HB.out | apply below_alloc | apply pw_below_drewN | apply below_drew1) | exact HB.out))) : w.heap.size ≤ gb570)); have n4_ := Aside0.mk ((by rw [hg]; exact (below_size (by repeat (first | (with_reducible first | exact HB.out | apply below_alloc | apply pw_below_drewN | apply below_drew1) | exact HB.out))) : w.heap.size ≤ gb570)); clear HO0_0; clear HB; have HO0_0 := n0_; have HB := n1_; have BK570 := n2_; have GW570 := n3_; have GE570 := n4_; clear n0_ n1_ n2_ n3_ n4_; clear hb hbox hg) | ((with_reducible refine gate_dst (N := 3) rfl ?_); refine box_event ?hg (N := 3) ?hd (cs := #[.int .i64 a1_0, .int .i64 a1_1, .int .i64 a1_2, .int .i64 a1_3]) (t := 48) ?hr ?_; (case hd => rfl); (case hg => rfl); (case hr => first | (go_simp; done) | (go_simp; rfl)); intro gb571 hg w9 hbox hb; have n0_ := Aside0.mk (Kd.V_below (Kd.V_elderB (by (with_reducible repeat (first | apply Kd.V_alloc | apply Kd.V_drewN | apply Kd.V_drew)); exact HO0_0.out) gb571 (Nat.le_of_eq hg.symm)) hb); have n1_ := Aside0.mk (blk_below (g := gb570) (o := .cells #[.slice A0_0 l0_0.length c0_0] 26 (0, 0)) (by (with_reducible repeat (first | refine blk_drewN ?_ _ | refine blk_drew ?_ | refine blk_alloc ?_ _)); exact BK570.out) hb); have n2_ := Aside0.mk (below_step (by repeat (first | (with_reducible first | exact HB.out | apply below_alloc | apply pw_below_drewN | apply below_drew1 | refine below_set ?_ GE570.out) | exact HB.out)) hb); have n3_ := Aside0.mk (hbox); have n4_ := Aside0.mk ((by rw [hg]; exact (below_size (by repeat (first | (with_reducible first | exact HB.out | apply below_alloc | apply pw_below_drewN | apply below_drew1 | refine below_set ?_ GE570.out) | exact HB.out))) : w.heap.size ≤ gb571)); have n5_ := Aside0.mk ((by rw [hg]; exact (below_size (by repeat (first | (with_reducible first | exact HB.out | apply below_alloc | apply pw_below_drewN | apply below_drew1 | refine below_set ?_ GE570.out) | exact HB.out))) : w.heap.size ≤ gb571)); have n6_ := Aside0.mk ((by rw [hg]; exact Nat.ne_of_lt (blk_lt (g := gb570) (o := .cells #[.slice A0_0 l0_0.length c0_0] 26 (0, 0)) (by (with_reducible repeat (first | refine blk_drewN ?_ _ | refine blk_drew ?_ | refine blk_alloc ?_ _)); exact BK570.out)) : gb570 ≠ gb571)); have n7_ := Aside0.mk ((by rw [hg]; exact Nat.ne_of_gt (blk_lt (g := gb570) (o := .cells #[.slice A0_0 l0_0.length c0_0] 26 (0, 0)) (by (with_reducible repeat (first | refine blk_drewN ?_ _ | refine blk_drew ?_ | refine blk_alloc ?_ _)); exact BK570.out)) : gb571 ≠ gb570)); clear HO0_0; clear BK570; clear HB; have HO0_0 := n0_; have BK570 := n1_; have HB := n2_; have BK571 := n3_; have GW571 := n4_; have GE571 := n5_; have NB570_571 := n6_; have NB571_570 := n7_; clear n0_ n1_ n2_ n3_ n4_ n5_ n6_ n7_; clear hb hbox hg; have hnb10 := NB570_571.out; have hnc10 := NB571_570.out; have hcz11_0 : w9.cell? ⟨gb570, 0, none⟩ = some (.slice A0_0 l0_0.length c0_0) := (blk_cell BK570.out 0).trans rfl; have hfz11_0 := blk_frozen BK570.out 0; have hcz12_0 : w9.cell? ⟨gb571, 0, none⟩ = some (.int .i64 a1_0) := (blk_cell BK571.out 0).trans rfl; have hcz12_1 : w9.cell? ⟨gb571, 1, none⟩ = some (.int .i64 a1_1) := (blk_cell BK571.out 1).trans rfl; have hcz12_2 : w9.cell? ⟨gb571, 2, none⟩ = some (.int .i64 a1_2) := (blk_cell BK571.out 2).trans rfl; have hcz12_3 : w9.cell? ⟨gb571, 3, none⟩ = some (.int .i64 a1_3) := (blk_cell BK571.out 3).trans rfl; have hfz12_0 := blk_frozen BK571.out 0; have hfz12_1 := blk_frozen BK571.out 1; have hfz12_2 := blk_frozen BK571.out 2; have hfz12_3 := blk_frozen BK571.out 3; have p572 : 0 ≤ (a1_0 : Int) := of_decide_eq_true (by first | (with_reducible assumption) | assumption); have q572 : a1_0 < (l0_0.length : Int) := of_decide_eq_true (by first | (with_reducible assumption) | assumption); obtain ⟨ad572, A572_0, c572_0, e572, hx572_0, hl572_0, hi572_0⟩ := at_Lsu8 (Kd.V_reads' HO0_0.out).2.2 a1_0 p572 q572; cases e572; obtain ⟨ce572, hce572, hMe572, hcc572⟩ := Kd.V_get HO0_0.out [] a1_0 p572 (by first | exact q572 | exact of_decide_eq_true (by first | (with_reducible assumption) | assumption) | (have e_ := (Kd.V_reads' HO0_0.out).1; omega)); obtain ⟨ua572_0, uc572_0, rfl, ul572_0, ge572_0⟩ := Kd.FK_slice_open hMe572; have hv572_0 := hcc572 0 _ rfl; rw [Nat.add_zero, show ((Kd.slice 5 (Kd.int .u8))).sz = 1 from rfl, Nat.mul_one] at hv572_0; replace hv572_0 := Option.some.inj (hv572_0.symm.trans hx572_0); injection hv572_0 with hva_ hvn_ hvc_; rw [hva_] at ge572_0; rw [hvc_] at ul572_0; have HL572_0 := Aside0.mk (show Kd.V (Kd.int .u8) 5 _ w.heap.size _ _ (rd_Lsu8 l0_0 a1_0) from Kd.V_mk ul572_0 ge572_0); clear hva_ hvn_ hvc_ ge572_0 ul572_0; clear hcc572 hce572; have HR572_0 := Aside0.mk hi572_0; have HC572_0 := Aside0.mk hl572_0; clear hi572_0 hl572_0; replace p572 := eq_true p572; replace q572 := eq_true q572; have q13 : ((wrap64 (a1_1 + a1_2)) : Int) ≤ (((rd_Lsu8 l0_0 a1_0).length : Int) : Int) := of_decide_eq_true (by first | (with_reducible assumption) | assumption); obtain ⟨i013, hi013, _, hsz13, _⟩ := info_parts info5; have hroom13 : (rd_Lsu8 l0_0 a1_0).length ≤ c572_0 := HC572_0.out; have hC13 : Kd.F (Kd.int .u8) _ _ A572_0 (rd_Lsu8 l0_0 a1_0).length (rd_Lsu8 l0_0 a1_0) := (Kd.V_at (base := w.heap.size) HL572_0.out).2.2; have ql13 : (a1_1 : Int) ≤ ((wrap64 (a1_1 + a1_2)) : Int) := of_decide_eq_true (by first | (with_reducible assumption) | assumption); have q013 : (0 : Int) ≤ (a1_1 : Int) := of_decide_eq_true (by first | (with_reducible assumption) | assumption); have hcut13 := cut_mid (P := Try.prog) 119 5 .i64 .i64 Try.underlying119 hi013 1 hsz13 A572_0 (rd_Lsu8 l0_0 a1_0).length c572_0 a1_1 (wrap64 (a1_1 + a1_2)) q013 ql13 q13 hroom13; have hr13 := Kd.F_mid (lo := (a1_1 : Int).toNat) (hi := ((wrap64 (a1_1 + a1_2)) : Int).toNat) (c := c572_0) hC13 (by omega) (by omega) hroom13; obtain ⟨A13, hA13⟩ : ∃ A1, A1 = (if c572_0 = (a1_1 : Int).toNat then A572_0 else (A572_0 : Option Addr).map (·.add ((a1_1 : Int).toNat * 1))) := ⟨_, rfl⟩; obtain ⟨c13, hc13⟩ : ∃ c1, c1 = c572_0 - (a1_1 : Int).toNat := ⟨_, rfl⟩; have hy13 : y573.length = ((wrap64 (a1_1 + a1_2)) : Int).toNat - (a1_1 : Int).toNat := (by rw [Ny573.out, List.length_drop, List.length_take] <;> omega); rw [show ((rd_Lsu8 l0_0 a1_0).take ((wrap64 (a1_1 + a1_2)) : Int).toNat).drop (a1_1 : Int).toNat = y573 from Ny573.out.symm] at hr13; replace hr13 : Kd.F (Kd.int .u8) _ _ A13 y573.length y573 := (by rw [hA13]; exact hr13); rw [← hy13, ← hA13, ← hc13] at hcut13; have HO577 := Aside0.mk (show Kd.V (Kd.int .u8) 5 _ w.heap.size _ (.slice A13 y573.length c13) y573 from Kd.V_mk (by rw [hy13, hc13]; exact Nat.sub_le_sub_right (Nat.le_trans (by omega) hroom13) _) hr13); have HC577 := Aside0.mk (show y573.length ≤ c13 from by rw [hy13, hc13]; exact Nat.sub_le_sub_right (Nat.le_trans (by omega) hroom13) _); clear hr13 hC13 hroom13 hi013 hsz13 hc13; have KY13 := Aside0.mk hy13; have KA13 := Aside0.mk hA13; clear hy13 hA13; replace q13 := eq_true q13)); try go_wp2_with (first | ((with_reducible refine gate_dst (N := 2) rfl ?_); refine box_event ?hg (N := 2) ?hd (cs := #[.slice A0_0 l0_0.length c0_0]) (t := 26) ?hr ?_; (case hd => rfl); (case hg => rfl); (case hr => first | (go_simp; done) | (go_simp; rfl)); intro gb570 hg w8 hbox hb; have n0_ := Aside0.mk (Kd.V_below (Kd.V_elderB (by (with_reducible repeat (first | apply Kd.V_alloc | apply Kd.V_drewN | apply Kd.V_drew)); exact HO0_0.out) gb570 (Nat.le_of_eq hg.symm)) hb); have n1_ := Aside0.mk (below_step (by repeat (first | (with_reducible first | exact HB.out | apply below_alloc | apply pw_below_drewN | apply below_drew1) | exact HB.out)) hb); have n2_ := Aside0.mk (hbox); have n3_ := Aside0.mk ((by rw [hg]; exact (below_size (by repeat (first | (with_reducible first | exact HB.out | apply below_alloc | apply pw_below_drewN | apply below_drew1) | exact HB.out))) : w.heap.size ≤ gb570)); have n4_ := Aside0.mk ((by rw [hg]; exact (below_size (by repeat (first | (with_reducible first | exact HB.out | apply below_alloc | apply pw_below_drewN | apply below_drew1) | exact HB.out))) : w.heap.size ≤ gb570)); clear HO0_0; clear HB; have HO0_0 := n0_; have HB := n1_; have BK570 := n2_; have GW570 := n3_; have GE570 := n4_; clear n0_ n1_ n2_ n3_ n4_; clear hb hbox hg) | ((with_reducible refine gate_dst (N := 3) rfl ?_); refine box_event ?hg (N := 3) ?hd (cs := #[.int .i64 a1_0, .int .i64 a1_1, .int .i64 a1_2, .int .i64 a1_3]) (t := 48) ?hr ?_; (case hd => rfl); (case hg => rfl); (case hr => first | (go_simp; done) | (go_simp; rfl)); intro gb571 hg w9 hbox hb; have n0_ := Aside0.mk (Kd.V_below (Kd.V_elderB (by (with_reducible repeat (first | apply Kd.V_alloc | apply Kd.V_drewN | apply Kd.V_drew)); exact HO0_0.out) gb571 (Nat.le_of_eq hg.symm)) hb); have n1_ := Aside0.mk (blk_below (g := gb570) (o := .cells #[.slice A0_0 l0_0.length c0_0] 26 (0, 0)) (by (with_reducible repeat (first | refine blk_drewN ?_ _ | refine blk_drew ?_ | refine blk_alloc ?_ _)); exact BK570.out) hb); have n2_ := Aside0.mk (below_step (by repeat (first | (with_reducible first | exact HB.out | apply below_alloc | apply pw_below_drewN | apply below_drew1 | refine below_set ?_ GE570.out) | exact HB.out)) hb); have n3_ := Aside0.mk (hbox); have n4_ := Aside0.mk ((by rw [hg]; exact (below_size (by repeat (first | (with_reducible first | exact HB.out | apply below_alloc | apply pw_below_drewN | apply below_drew1 | refine below_set ?_ GE570.out) | exact HB.out))) : w.heap.size ≤ gb571)); have n5_ := Aside0.mk ((by rw [hg]; exact (below_size (by repeat (first | (with_reducible first | exact HB.out | apply below_alloc | apply pw_below_drewN | apply below_drew1 | refine below_set ?_ GE570.out) | exact HB.out))) : w.heap.size ≤ gb571)); have n6_ := Aside0.mk ((by rw [hg]; exact Nat.ne_of_lt (blk_lt (g := gb570) (o := .cells #[.slice A0_0 l0_0.length c0_0] 26 (0, 0)) (by (with_reducible repeat (first | refine blk_drewN ?_ _ | refine blk_drew ?_ | refine blk_alloc ?_ _)); exact BK570.out)) : gb570 ≠ gb571)); have n7_ := Aside0.mk ((by rw [hg]; exact Nat.ne_of_gt (blk_lt (g := gb570) (o := .cells #[.slice A0_0 l0_0.length c0_0] 26 (0, 0)) (by (with_reducible repeat (first | refine blk_drewN ?_ _ | refine blk_drew ?_ | refine blk_alloc ?_ _)); exact BK570.out)) : gb571 ≠ gb570)); clear HO0_0; clear BK570; clear HB; have HO0_0 := n0_; have BK570 := n1_; have HB := n2_; have BK571 := n3_; have GW571 := n4_; have GE571 := n5_; have NB570_571 := n6_; have NB571_570 := n7_; clear n0_ n1_ n2_ n3_ n4_ n5_ n6_ n7_; clear hb hbox hg; have hnb10 := NB570_571.out; have hnc10 := NB571_570.out; have hcz11_0 : w9.cell? ⟨gb570, 0, none⟩ = some (.slice A0_0 l0_0.length c0_0) := (blk_cell BK570.out 0).trans rfl; have hfz11_0 := blk_frozen BK570.out 0; have hcz12_0 : w9.cell? ⟨gb571, 0, none⟩ = some (.int .i64 a1_0) := (blk_cell BK571.out 0).trans rfl; have hcz12_1 : w9.cell? ⟨gb571, 1, none⟩ = some (.int .i64 a1_1) := (blk_cell BK571.out 1).trans rfl; have hcz12_2 : w9.cell? ⟨gb571, 2, none⟩ = some (.int .i64 a1_2) := (blk_cell BK571.out 2).trans rfl; have hcz12_3 : w9.cell? ⟨gb571, 3, none⟩ = some (.int .i64 a1_3) := (blk_cell BK571.out 3).trans rfl; have hfz12_0 := blk_frozen BK571.out 0; have hfz12_1 := blk_frozen BK571.out 1; have hfz12_2 := blk_frozen BK571.out 2; have hfz12_3 := blk_frozen BK571.out 3; have p572 : 0 ≤ (a1_0 : Int) := of_decide_eq_true (by first | (with_reducible assumption) | assumption); have q572 : a1_0 < (l0_0.length : Int) := of_decide_eq_true (by first | (with_reducible assumption) | assumption); obtain ⟨ad572, A572_0, c572_0, e572, hx572_0, hl572_0, hi572_0⟩ := at_Lsu8 (Kd.V_reads' HO0_0.out).2.2 a1_0 p572 q572; cases e572; obtain ⟨ce572, hce572, hMe572, hcc572⟩ := Kd.V_get HO0_0.out [] a1_0 p572 (by first | exact q572 | exact of_decide_eq_true (by first | (with_reducible assumption) | assumption) | (have e_ := (Kd.V_reads' HO0_0.out).1; omega)); obtain ⟨ua572_0, uc572_0, rfl, ul572_0, ge572_0⟩ := Kd.FK_slice_open hMe572; have hv572_0 := hcc572 0 _ rfl; rw [Nat.add_zero, show ((Kd.slice 5 (Kd.int .u8))).sz = 1 from rfl, Nat.mul_one] at hv572_0; replace hv572_0 := Option.some.inj (hv572_0.symm.trans hx572_0); injection hv572_0 with hva_ hvn_ hvc_; rw [hva_] at ge572_0; rw [hvc_] at ul572_0; have HL572_0 := Aside0.mk (show Kd.V (Kd.int .u8) 5 _ w.heap.size _ _ (rd_Lsu8 l0_0 a1_0) from Kd.V_mk ul572_0 ge572_0); clear hva_ hvn_ hvc_ ge572_0 ul572_0; clear hcc572 hce572; have HR572_0 := Aside0.mk hi572_0; have HC572_0 := Aside0.mk hl572_0; clear hi572_0 hl572_0; replace p572 := eq_true p572; replace q572 := eq_true q572; have q13 : ((wrap64 (a1_1 + a1_2)) : Int) ≤ (((rd_Lsu8 l0_0 a1_0).length : Int) : Int) := of_decide_eq_true (by first | (with_reducible assumption) | assumption); obtain ⟨i013, hi013, _, hsz13, _⟩ := info_parts info5; have hroom13 : (rd_Lsu8 l0_0 a1_0).length ≤ c572_0 := HC572_0.out; have hC13 : Kd.F (Kd.int .u8) _ _ A572_0 (rd_Lsu8 l0_0 a1_0).length (rd_Lsu8 l0_0 a1_0) := (Kd.V_at (base := w.heap.size) HL572_0.out).2.2; have ql13 : (a1_1 : Int) ≤ ((wrap64 (a1_1 + a1_2)) : Int) := of_decide_eq_true (by first | (with_reducible assumption) | assumption); have q013 : (0 : Int) ≤ (a1_1 : Int) := of_decide_eq_true (by first | (with_reducible assumption) | assumption); have hcut13 := cut_mid (P := Try.prog) 119 5 .i64 .i64 Try.underlying119 hi013 1 hsz13 A572_0 (rd_Lsu8 l0_0 a1_0).length c572_0 a1_1 (wrap64 (a1_1 + a1_2)) q013 ql13 q13 hroom13; have hr13 := Kd.F_mid (lo := (a1_1 : Int).toNat) (hi := ((wrap64 (a1_1 + a1_2)) : Int).toNat) (c := c572_0) hC13 (by omega) (by omega) hroom13; obtain ⟨A13, hA13⟩ : ∃ A1, A1 = (if c572_0 = (a1_1 : Int).toNat then A572_0 else (A572_0 : Option Addr).map (·.add ((a1_1 : Int).toNat * 1))) := ⟨_, rfl⟩; obtain ⟨c13, hc13⟩ : ∃ c1, c1 = c572_0 - (a1_1 : Int).toNat := ⟨_, rfl⟩; have hy13 : y573.length = ((wrap64 (a1_1 + a1_2)) : Int).toNat - (a1_1 : Int).toNat := (by rw [Ny573.out, List.length_drop, List.length_take] <;> omega); rw [show ((rd_Lsu8 l0_0 a1_0).take ((wrap64 (a1_1 + a1_2)) : Int).toNat).drop (a1_1 : Int).toNat = y573 from Ny573.out.symm] at hr13; replace hr13 : Kd.F (Kd.int .u8) _ _ A13 y573.length y573 := (by rw [hA13]; exact hr13); rw [← hy13, ← hA13, ← hc13] at hcut13; have HO577 := Aside0.mk (show Kd.V (Kd.int .u8) 5 _ w.heap.size _ (.slice A13 y573.length c13) y573 from Kd.V_mk (by rw [hy13, hc13]; exact Nat.sub_le_sub_right (Nat.le_trans (by omega) hroom13) _) hr13); have HC577 := Aside0.mk (show y573.length ≤ c13 from by rw [hy13, hc13]; exact Nat.sub_le_sub_right (Nat.le_trans (by omega) hroom13) _); clear hr13 hC13 hroom13 hi013 hsz13 hc13; have KY13 := Aside0.mk hy13; have KA13 := Aside0.mk hA13; clear hy13 hA13; replace q13 := eq_true q13)))
            go_ret
            exact ⟨_, by first | rfl | (simp [errW_none, errW_some] <;> rfl) | (simp [*, errW_none, errW_some] <;> rfl), by (with_reducible repeat (first | apply Kd.V_alloc | apply Kd.V_drewN | apply Kd.V_drew)); exact Kd.V_mono HO577.out (fun _ hk => hk.1.1), by repeat (first | (with_reducible first | exact HB.out | apply below_alloc | apply pw_below_drewN | apply below_drew1 | refine below_set ?_ GE570.out | refine below_set ?_ GE571.out) | exact HB.out)⟩
          · rw [if_neg c7] at H
            exact absurd H (by simp)
        · rw [if_neg c6] at H
          exact absurd H (by simp)
      · rw [if_neg c5] at H
        exact absurd H (by simp)
    · rw [if_neg c4] at H
      exact absurd H (by simp)
  · rw [if_neg c3] at H
    exact absurd H (by simp)

end Go.Proofs.Ytoomjghabiojkaa.P


namespace Go.Proofs.Ytoomjghabiojkaa.P
open Go.RowKit Go.Proofs.YtoomjghabiojkaaW.PrintWords Go.Proofs.YtoomjghabiojkaaW.PrintLast Go.Proofs.YtoomjghabiojkaaW.PrintMore
attribute [local go_sem] max2_int min2_int max_two min_two max_three min_three max_four min_four   -- for this text's walks alone
set_option linter.unusedVariables false
set_option linter.unusedSimpArgs false

def impl_Machine_shown.l0 : Nat → List (List Int) → List (SimplWindow) → Int → Int → List (List Int) → List (SimplWindow) → List Bool → Option ((List (List Int)))
  | 0, _, _, _, _, _, _, _ => none
  | k + 1, x3, x9, x10, x11, x743000, x743001, x743002 => if x11 < x10 then (if 0 ≤ x11 then (if x11 < (x9.length : Int) then ((some (([] : List Int) : List Int)).bind fun y748 => (if x11 < (x743002.length : Int) then (if rdOf false x743002 x11 = true then ((impl_Memory_seen.f x743000 ((rd_TimplWindow x9 x11).f0) ((rd_TimplWindow x9 x11).f1) ((rd_TimplWindow x9 x11).f2) ((rd_TimplWindow x9 x11).f3)).bind fun t752 => (if y748.length + t752.length < 140737488355328 then (if x3.length < 5864062014805 then (impl_Machine_shown.l0 k (x3 ++ [(y748 ++ t752)]) x9 x10 (wrap64 (x11 + 1)) x743000 x743001 x743002) else (none)) else (none))) else (if x3.length < 5864062014805 then (impl_Machine_shown.l0 k (x3 ++ [y748]) x9 x10 (wrap64 (x11 + 1)) x743000 x743001 x743002) else (none))) else (none))) else (none)) else (none)) else (some x3)
def impl_Machine_shown.f (k : Nat) (l0_0 : List (List Int)) (l0_1 : List (SimplWindow)) (l0_2 : List Bool) : Option ((List (List Int))) := impl_Machine_shown.l0 k (([] : List (List Int))) l0_1 (l0_1.length : Int) 0 l0_0 l0_1 l0_2
set_option maxHeartbeats 8000000 in
set_option maxRecDepth 100000 in
theorem impl_Machine_shown.calls (k : Nat) (A0_0 : Option Addr) (c0_0 : Nat) (l0_0 : List (List Int)) (A0_1 : Option Addr) (c0_1 : Nat) (l0_1 : List (SimplWindow)) (A0_2 : Option Addr) (c0_2 : Nat) (l0_2 : List Bool) (r : List (List Int)) (w : World) (hr0_0 : Kd.C (Kd.slice 5 (Kd.int .u8)) w A0_0 l0_0.length l0_0) (hc0_0 : l0_0.length ≤ c0_0) (hr0_1 : Kd.C kimplWindow w A0_1 l0_1.length l0_1) (hc0_1 : l0_1.length ≤ c0_1) (hr0_2 : Kd.C Kd.bool w A0_2 l0_2.length l0_2) (hc0_2 : l0_2.length ≤ c0_2) (h : impl_Machine_shown.f k l0_0 l0_1 l0_2 = some r) :
    Calls Try.prog 112 #[.agg #[.slice A0_0 l0_0.length c0_0, .slice A0_1 l0_1.length c0_1, .slice A0_2 l0_2.length c0_2]] w fun e w' => ∃ v0_ : Value, e = .returned (v0_) ∧ Kd.S (Kd.slice 5 (Kd.int .u8)) 119 w' w.heap.size (fun _ => True) v0_ r ∧ Below w.heap.size w w' := by
  have hu60 := Try.underlying60
  have hu48 := Try.underlying48
  have hu26 := Try.underlying26
  have HR0_0 := Aside0.mk hr0_0
  have HC0_0 := Aside0.mk hc0_0
  clear hr0_0 hc0_0
  have HR0_1 := Aside0.mk hr0_1
  have HC0_1 := Aside0.mk hc0_1
  clear hr0_1 hc0_1
  have HR0_2 := Aside0.mk hr0_2
  have HC0_2 := Aside0.mk hc0_2
  clear hr0_2 hc0_2
  have HB := Aside0.mk (Below.refl w.heap.size w)
  have H : (impl_Machine_shown.l0 k (([] : List (List Int))) l0_1 (l0_1.length : Int) 0 l0_0 l0_1 l0_2) = some r := h
  clear h
  obtain ⟨y743, hy743⟩ : ∃ y_ : List (List Int), y_ = (([] : List (List Int))) := ⟨_, rfl⟩
  replace H : (impl_Machine_shown.l0 k y743 l0_1 (l0_1.length : Int) 0 l0_0 l0_1 l0_2) = some r := by first | (rw [hy743]; with_reducible exact H) | (have H2_ := (Option.bind_some _ _).symm.trans H; rw [hy743]; with_reducible exact H2_) | (have H2_ := (Option.bind_some _ _).symm.trans H; with_reducible exact H2_) | with_reducible exact H | (rw [hy743]; exact H) | exact H
  have Ny743 := Aside0.mk hy743
  clear hy743
  have H' := Aside0.mk H
  clear H
  go_enter Try.func112, Try.ntmps112
  go_wp2_with (first | ((with_reducible refine gate_dst (N := 1) rfl ?_); refine box_event ?hg (N := 1) ?hd (cs := #[.slice A0_0 l0_0.length c0_0, .slice A0_1 l0_1.length c0_1, .slice A0_2 l0_2.length c0_2]) (t := 60) ?hr ?_; (case hd => rfl); (case hg => rfl); (case hr => first | (go_simp; done) | (go_simp; rfl)); intro gb742 hg w2 hbox hb; have n0_ := Aside0.mk (below_step (by repeat (first | (with_reducible first | exact HB.out | apply below_alloc | apply pw_below_drewN | apply below_drew1) | exact HB.out)) hb); have n1_ := Aside0.mk (hbox); have n2_ := Aside0.mk ((by rw [hg]; exact (below_size (by repeat (first | (with_reducible first | exact HB.out | apply below_alloc | apply pw_below_drewN | apply below_drew1) | exact HB.out))) : w.heap.size ≤ gb742)); have n3_ := Aside0.mk ((by rw [hg]; exact (below_size (by repeat (first | (with_reducible first | exact HB.out | apply below_alloc | apply pw_below_drewN | apply below_drew1) | exact HB.out))) : w.heap.size ≤ gb742)); clear HB; have HB := n0_; have BK742 := n1_; have GW742 := n2_; have GE742 := n3_; clear n0_ n1_ n2_ n3_; clear hb hbox hg) | ((with_reducible refine gate_dst (N := 7) rfl ?_); refine Kd.S_lit (Kd.slice 5 (Kd.int .u8)) _ 119 ?hg (N := 7) ?hd (xs := ([] : List (List Int))) (inner := []) (ok := fun _ => True) (okp := fun _ => True) ?hr ?hp (fun _ hk => hk) trivial (Below.refl _ _) (Nat.le_refl _) (by simp) ?_; (case hd => rfl); (case hg => rfl); (case hr => first | (go_simp; done) | (go_simp; rfl)); (case hp => exact (Reps.none _ _)); intro v744 w3 ho4 hb hg_ hnew_; clear hg_ hnew_; (first | rw [← Ny743.out] at ho4 | (simp only [Int.reduceToNat] at ho4; rw [← Ny743.out] at ho4)); have n0_ := Aside0.mk (Kd.S_lower ho4 (below_size (by repeat (first | (with_reducible first | exact HB.out | apply below_alloc | apply pw_below_drewN | apply below_drew1 | refine below_set ?_ GE742.out) | exact HB.out)))); have n1_ := Aside0.mk (blk_below (g := gb742) (o := .cells #[.slice A0_0 l0_0.length c0_0, .slice A0_1 l0_1.length c0_1, .slice A0_2 l0_2.length c0_2] 60 (0, 0)) (by (with_reducible repeat (first | refine blk_drewN ?_ _ | refine blk_drew ?_ | refine blk_alloc ?_ _)); exact BK742.out) hb); have n2_ := Aside0.mk (below_step (by repeat (first | (with_reducible first | exact HB.out | apply below_alloc | apply pw_below_drewN | apply below_drew1 | refine below_set ?_ GE742.out) | exact HB.out)) hb); clear BK742; clear HB; have HO745 := n0_; have BK742 := n1_; have HB := n2_; clear n0_ n1_ n2_; clear hb ho4; have hcz5_0 : w3.cell? ⟨gb742, 0, none⟩ = some (.slice A0_0 l0_0.length c0_0) := (blk_cell BK742.out 0).trans rfl; have hcz5_1 : w3.cell? ⟨gb742, 1, none⟩ = some (.slice A0_1 l0_1.length c0_1) := (blk_cell BK742.out 1).trans rfl; have hcz5_2 : w3.cell? ⟨gb742, 2, none⟩ = some (.slice A0_2 l0_2.length c0_2) := (blk_cell BK742.out 2).trans rfl; have hfz5_0 := blk_frozen BK742.out 0; have hfz5_1 := blk_frozen BK742.out 1; have hfz5_2 := blk_frozen BK742.out 2))
  go_loopg [3, 11] k (fun kq v3 v11 w' => ∃ (x3_1 : List (List Int)) (x11_1 : Int), v11 = .int .i64 x11_1 ∧ Aside0 (impl_Machine_shown.l0 kq x3_1 l0_1 (l0_1.length : Int) x11_1 l0_0 l0_1 l0_2 = some r) ∧ Aside0 (kq ≤ k) ∧ Aside0 (Kd.S (Kd.slice 5 (Kd.int .u8)) 119 w' w.heap.size (fun _ => True) v3 x3_1) ∧ Aside0 (w'.heap[gb742]? = some (.cells #[(.slice A0_0 l0_0.length c0_0), (.slice A0_1 l0_1.length c0_1), (.slice A0_2 l0_2.length c0_2)] 60 (0, 0))) ∧ Aside0 (Below w.heap.size w w'))
  case atStart => exact ⟨(y743), (0), (by first | rfl | (simp; done) | (simp [*]; done)), H', ⟨Nat.le_refl _⟩, ⟨by (with_reducible repeat (first | apply Kd.S_alloc | apply Kd.S_drewN | apply Kd.S_drew)); exact HO745.out⟩, ⟨by (with_reducible repeat (first | refine blk_drewN ?_ _ | refine blk_drew ?_ | refine blk_alloc ?_ _)); exact BK742.out⟩, ⟨by repeat (first | (with_reducible first | exact HB.out | apply below_alloc | apply pw_below_drewN | apply below_drew1 | refine below_set ?_ GE742.out) | exact HB.out)⟩⟩
  case round =>
    clear H'
    try clear c1
    try clear p2
    try clear hcz5_0
    try clear hcz5_1
    try clear hcz5_2
    try clear hfz5_0
    try clear hfz5_1
    try clear hfz5_2
    obtain ⟨x3_1, x11_1, rfl, HA, HK1, HO_3, BK742, HB⟩ := hrel
    cases gk with
    | zero => exact absurd HA.out (by simp [impl_Machine_shown.l0])
    | succ k1 =>
      have H := HA.out
      clear HA
      simp only [impl_Machine_shown.l0] at H
      by_cases c6 : x11_1 < (l0_1.length : Int)
      · rw [if_pos c6] at H
        have c6b0 : decide (x11_1 < (l0_1.length : Int)) = true := decide_eq_true c6
        clear c6
        by_cases c7 : 0 ≤ x11_1
        · rw [if_pos c7] at H
          have c7b0 : decide (0 ≤ x11_1) = true := decide_eq_true c7
          clear c7
          by_cases c8 : x11_1 < (l0_1.length : Int)
          · rw [if_pos c8] at H
            have c8b0 : decide (x11_1 < (l0_1.length : Int)) = true := decide_eq_true c8
            clear c8
            obtain ⟨y748, hy748⟩ : ∃ y_ : List Int, y_ = (([] : List Int)) := ⟨_, rfl⟩
            replace H : (if x11_1 < (l0_2.length : Int) then (if rdOf false l0_2 x11_1 = true then ((impl_Memory_seen.f l0_0 ((rd_TimplWindow l0_1 x11_1).f0) ((rd_TimplWindow l0_1 x11_1).f1) ((rd_TimplWindow l0_1 x11_1).f2) ((rd_TimplWindow l0_1 x11_1).f3)).bind fun t752 => (if y748.length + t752.length < 140737488355328 then (if x3_1.length < 5864062014805 then (impl_Machine_shown.l0 k1 (x3_1 ++ [(y748 ++ t752)]) l0_1 (l0_1.length : Int) (wrap64 (x11_1 + 1)) l0_0 l0_1 l0_2) else (none)) else (none))) else (if x3_1.length < 5864062014805 then (impl_Machine_shown.l0 k1 (x3_1 ++ [y748]) l0_1 (l0_1.length : Int) (wrap64 (x11_1 + 1)) l0_0 l0_1 l0_2) else (none))) else (none)) = some r := by first | (rw [hy748]; with_reducible exact H) | (have H2_ := (Option.bind_some _ _).symm.trans H; rw [hy748]; with_reducible exact H2_) | (have H2_ := (Option.bind_some _ _).symm.trans H; with_reducible exact H2_) | with_reducible exact H | (rw [hy748]; exact H) | exact H
            have Ny748 := Aside0.mk hy748
            clear hy748
            by_cases c9 : x11_1 < (l0_2.length : Int)
            · rw [if_pos c9] at H
              have c9b0 : decide (x11_1 < (l0_2.length : Int)) = true := decide_eq_true c9
              clear c9
              obtain ⟨bq10, hbq10⟩ : ∃ b_ : Bool, b_ = (rdOf false l0_2 x11_1) := ⟨_, rfl⟩
              replace H : (if bq10 = true then ((impl_Memory_seen.f l0_0 ((rd_TimplWindow l0_1 x11_1).f0) ((rd_TimplWindow l0_1 x11_1).f1) ((rd_TimplWindow l0_1 x11_1).f2) ((rd_TimplWindow l0_1 x11_1).f3)).bind fun t752 => (if y748.length + t752.length < 140737488355328 then (if x3_1.length < 5864062014805 then (impl_Machine_shown.l0 k1 (x3_1 ++ [(y748 ++ t752)]) l0_1 (l0_1.length : Int) (wrap64 (x11_1 + 1)) l0_0 l0_1 l0_2) else (none)) else (none))) else (if x3_1.length < 5864062014805 then (impl_Machine_shown.l0 k1 (x3_1 ++ [y748]) l0_1 (l0_1.length : Int) (wrap64 (x11_1 + 1)) l0_0 l0_1 l0_2) else (none))) = some r := by rw [← hbq10] at H; exact H
              have Nbq10 := Aside0.mk hbq10
              clear hbq10
              by_cases c11 : bq10 = true
              · subst c11
                have H1 : ((impl_Memory_seen.f l0_0 ((rd_TimplWindow l0_1 x11_1).f0) ((rd_TimplWindow l0_1 x11_1).f1) ((rd_TimplWindow l0_1 x11_1).f2) ((rd_TimplWindow l0_1 x11_1).f3)).bind fun t752 => (if y748.length + t752.length < 140737488355328 then (if x3_1.length < 5864062014805 then (impl_Machine_shown.l0 k1 (x3_1 ++ [(y748 ++ t752)]) l0_1 (l0_1.length : Int) (wrap64 (x11_1 + 1)) l0_0 l0_1 l0_2) else (none)) else (none))) = some r := by rw [if_pos rfl] at H; exact H
                clear H
                have H := H1
                clear H1
                replace H := Option.bind_eq_some_iff.mp H
                obtain ⟨t752, A120, H⟩ := H
                replace H : (if y748.length + t752.length < 140737488355328 then (if x3_1.length < 5864062014805 then (impl_Machine_shown.l0 k1 (x3_1 ++ [(y748 ++ t752)]) l0_1 (l0_1.length : Int) (wrap64 (x11_1 + 1)) l0_0 l0_1 l0_2) else (none)) else (none)) = some r := H
                have A12 := Aside0.mk A120
                clear A120
                by_cases c13 : y748.length + t752.length < 140737488355328
                · rw [if_pos c13] at H
                  have LMc13 := Aside0.mk c13
                  clear c13
                  obtain ⟨y755, hy755⟩ : ∃ y_ : List Int, y_ = (y748 ++ t752) := ⟨_, rfl⟩
                  replace H : (if x3_1.length < 5864062014805 then (impl_Machine_shown.l0 k1 (x3_1 ++ [y755]) l0_1 (l0_1.length : Int) (wrap64 (x11_1 + 1)) l0_0 l0_1 l0_2) else (none)) = some r := by first | (rw [hy755]; with_reducible exact H) | (have H2_ := (Option.bind_some _ _).symm.trans H; rw [hy755]; with_reducible exact H2_) | (have H2_ := (Option.bind_some _ _).symm.trans H; with_reducible exact H2_) | with_reducible exact H | (rw [hy755]; exact H) | exact H
                  have Ny755 := Aside0.mk hy755
                  clear hy755
                  by_cases c14 : x3_1.length < 5864062014805
                  · rw [if_pos c14] at H
                    have LMc14 := Aside0.mk c14
                    clear c14
                    obtain ⟨y758, hy758⟩ : ∃ y_ : List (List Int), y_ = (x3_1 ++ [y755]) := ⟨_, rfl⟩
                    replace H : (impl_Machine_shown.l0 k1 y758 l0_1 (l0_1.length : Int) (wrap64 (x11_1 + 1)) l0_0 l0_1 l0_2) = some r := by first | (rw [hy758]; with_reducible exact H) | (have H2_ := (Option.bind_some _ _).symm.trans H; rw [hy758]; with_reducible exact H2_) | (have H2_ := (Option.bind_some _ _).symm.trans H; with_reducible exact H2_) | with_reducible exact H | (rw [hy758]; exact H) | exact H
                    have Ny758 := Aside0.mk hy758
                    clear hy758
                    have H' := Aside0.mk H
                    clear H
                    have p746 : 0 ≤ (x11_1 : Int) := of_decide_eq_true (by first | (with_reducible assumption) | assumption)
                    have q746 : x11_1 < (l0_1.length : Int) := of_decide_eq_true (by first | (with_reducible assumption) | assumption)
                    obtain ⟨ad746, e746, hx746_0, hx746_1, hx746_2, hx746_3⟩ := at_TimplWindow HR0_1.out x11_1 p746 q746
                    cases e746
                    replace hx746_0 := (HB.out.cell (World.block_lt_of_cell? w _ hx746_0)).trans hx746_0
                    replace hx746_1 := (HB.out.cell (World.block_lt_of_cell? w _ hx746_1)).trans hx746_1
                    replace hx746_2 := (HB.out.cell (World.block_lt_of_cell? w _ hx746_2)).trans hx746_2
                    replace hx746_3 := (HB.out.cell (World.block_lt_of_cell? w _ hx746_3)).trans hx746_3
                    replace p746 := eq_true p746
                    replace q746 := eq_true q746
                    go_wp2_with (first | ((with_reducible refine gate_dst (N := 5) rfl ?_); refine box_event ?hg (N := 5) ?hd (cs := #[.int .i64 0, .int .i64 0, .int .i64 0, .int .i64 0]) (t := 48) ?hr ?_; (case hd => rfl); (case hg => rfl); (case hr => first | (go_simp; done) | (go_simp; rfl)); intro gb747 hg w15 hbox hb; have n0_ := Aside0.mk (Kd.S_below (by (with_reducible repeat (first | apply Kd.S_alloc | apply Kd.S_drewN | apply Kd.S_drew)); exact HO_3.out) hb); have n1_ := Aside0.mk (blk_below (g := gb742) (o := .cells #[.slice A0_0 l0_0.length c0_0, .slice (some ad746) l0_1.length c0_1, .slice A0_2 l0_2.length c0_2] 60 (0, 0)) (by (with_reducible repeat (first | refine blk_drewN ?_ _ | refine blk_drew ?_ | refine blk_alloc ?_ _)); exact BK742.out) hb); have n2_ := Aside0.mk (below_step (by repeat (first | (with_reducible first | exact HB.out | apply below_alloc | apply pw_below_drewN | apply below_drew1 | refine below_set ?_ GE742.out) | exact HB.out)) hb); have n3_ := Aside0.mk (hbox); have n4_ := Aside0.mk ((by rw [hg]; exact (below_size (by repeat (first | (with_reducible first | exact HB.out | apply below_alloc | apply pw_below_drewN | apply below_drew1 | refine below_set ?_ GE742.out) | exact HB.out))) : w.heap.size ≤ gb747)); have n5_ := Aside0.mk ((by rw [hg]; exact (below_size (by repeat (first | (with_reducible first | exact HB.out | apply below_alloc | apply pw_below_drewN | apply below_drew1 | refine below_set ?_ GE742.out) | exact HB.out))) : w.heap.size ≤ gb747)); have n6_ := Aside0.mk ((by rw [hg]; exact Nat.ne_of_lt (blk_lt (g := gb742) (o := .cells #[.slice A0_0 l0_0.length c0_0, .slice (some ad746) l0_1.length c0_1, .slice A0_2 l0_2.length c0_2] 60 (0, 0)) (by (with_reducible repeat (first | refine blk_drewN ?_ _ | refine blk_drew ?_ | refine blk_alloc ?_ _)); exact BK742.out)) : gb742 ≠ gb747)); have n7_ := Aside0.mk ((by rw [hg]; exact Nat.ne_of_gt (blk_lt (g := gb742) (o := .cells #[.slice A0_0 l0_0.length c0_0, .slice (some ad746) l0_1.length c0_1, .slice A0_2 l0_2.length c0_2] 60 (0, 0)) (by (with_reducible repeat (first | refine blk_drewN ?_ _ | refine blk_drew ?_ | refine blk_alloc ?_ _)); exact BK742.out)) : gb747 ≠ gb742)); clear HO_3; clear BK742; clear HB; have HO_3 := n0_; have BK742 := n1_; have HB := n2_; have BK747 := n3_; have GW747 := n4_; have GE747 := n5_; have NB742_747 := n6_; have NB747_742 := n7_; clear n0_ n1_ n2_ n3_ n4_ n5_ n6_ n7_; clear hb hbox hg; have hnb16 := NB747_742.out; have hnc16 := NB742_747.out; have hcz17_0 : w15.cell? ⟨gb747, 0, none⟩ = some (.int .i64 0) := (blk_cell BK747.out 0).trans rfl; have hcz17_1 : w15.cell? ⟨gb747, 1, none⟩ = some (.int .i64 0) := (blk_cell BK747.out 1).trans rfl; have hcz17_2 : w15.cell? ⟨gb747, 2, none⟩ = some (.int .i64 0) := (blk_cell BK747.out 2).trans rfl; have hcz17_3 : w15.cell? ⟨gb747, 3, none⟩ = some (.int .i64 0) := (blk_cell BK747.out 3).trans rfl; have hfz17_0 := blk_frozen BK747.out 0; have hfz17_1 := blk_frozen BK747.out 1; have hfz17_2 := blk_frozen BK747.out 2; have hfz17_3 := blk_frozen BK747.out 3) | ((with_reducible refine gate_dst (N := 16) rfl ?_); refine Kd.R_lit (Kd.int .u8) _ 5 ?hg (N := 16) ?hd (xs := ([] : List Int)) (inner := []) (ok := fun _ => True) (okp := fun _ => True) ?hr ?hp (fun _ hk => hk) trivial (Below.refl _ _) (Nat.le_refl _) (by simp) ?_; (case hd => rfl); (case hg => rfl); (case hr => first | (go_simp; done) | (go_simp; rfl)); (case hp => exact (Reps.none _ _)); intro v749 w18 ho19 hb hg_ hnew_; clear hg_ hnew_; (first | rw [← Ny748.out] at ho19 | (simp only [Int.reduceToNat] at ho19; rw [← Ny748.out] at ho19)); have n0_ := Aside0.mk (Kd.S_elder' (by (with_reducible repeat (first | apply Kd.S_alloc | apply Kd.S_drewN | apply Kd.S_drew)); exact (Kd.S_mono (Kd.S_far (p := ⟨gb747, 3, none⟩) (Kd.S_far (p := ⟨gb747, 2, none⟩) (Kd.S_far (p := ⟨gb747, 1, none⟩) (Kd.S_far (p := ⟨gb747, 0, none⟩) (Kd.S_types HO_3.out BK747.out (by decide)) (fun _ hk => hk.2) (.int .i64 ((rd_TimplWindow l0_1 x11_1).f0))) (fun _ hk => hk.2) (.int .i64 ((rd_TimplWindow l0_1 x11_1).f1))) (fun _ hk => hk.2) (.int .i64 ((rd_TimplWindow l0_1 x11_1).f2))) (fun _ hk => hk.2) (.int .i64 ((rd_TimplWindow l0_1 x11_1).f3))) (fun _ h_ => h_.1))) (Kd.R_base ho19) hb); have n1_ := Aside0.mk (Kd.R_lower ho19 (below_size (by repeat (first | (with_reducible first | exact HB.out | apply below_alloc | apply pw_below_drewN | apply below_drew1 | refine below_set ?_ GE742.out | refine below_set ?_ GE747.out) | exact HB.out)))); have n2_ := Aside0.mk (blk_below (g := gb742) (o := .cells #[.slice A0_0 l0_0.length c0_0, .slice (some ad746) l0_1.length c0_1, .slice A0_2 l0_2.length c0_2] 60 (0, 0)) (by (with_reducible repeat (first | refine blk_drewN ?_ _ | refine blk_drew ?_ | refine blk_alloc ?_ _)); refine blk_far ?_ NB742_747.out _; (with_reducible repeat (first | refine blk_drewN ?_ _ | refine blk_drew ?_ | refine blk_alloc ?_ _)); refine blk_far ?_ NB742_747.out _; (with_reducible repeat (first | refine blk_drewN ?_ _ | refine blk_drew ?_ | refine blk_alloc ?_ _)); refine blk_far ?_ NB742_747.out _; (with_reducible repeat (first | refine blk_drewN ?_ _ | refine blk_drew ?_ | refine blk_alloc ?_ _)); refine blk_far ?_ NB742_747.out _; (with_reducible repeat (first | refine blk_drewN ?_ _ | refine blk_drew ?_ | refine blk_alloc ?_ _)); exact BK742.out) hb); have n3_ := Aside0.mk (blk_below (g := gb747) (o := .cells #[.int .i64 ((rd_TimplWindow l0_1 x11_1).f0), .int .i64 ((rd_TimplWindow l0_1 x11_1).f1), .int .i64 ((rd_TimplWindow l0_1 x11_1).f2), .int .i64 ((rd_TimplWindow l0_1 x11_1).f3)] 48 (0, 0)) (by (with_reducible repeat (first | refine blk_drewN ?_ _ | refine blk_drew ?_ | refine blk_alloc ?_ _)); refine blk_put (cs := #[.int .i64 ((rd_TimplWindow l0_1 x11_1).f0), .int .i64 ((rd_TimplWindow l0_1 x11_1).f1), .int .i64 ((rd_TimplWindow l0_1 x11_1).f2), .int .i64 0]) ?_ 3 _ rfl; (with_reducible repeat (first | refine blk_drewN ?_ _ | refine blk_drew ?_ | refine blk_alloc ?_ _)); refine blk_put (cs := #[.int .i64 ((rd_TimplWindow l0_1 x11_1).f0), .int .i64 ((rd_TimplWindow l0_1 x11_1).f1), .int .i64 0, .int .i64 0]) ?_ 2 _ rfl; (with_reducible repeat (first | refine blk_drewN ?_ _ | refine blk_drew ?_ | refine blk_alloc ?_ _)); refine blk_put (cs := #[.int .i64 ((rd_TimplWindow l0_1 x11_1).f0), .int .i64 0, .int .i64 0, .int .i64 0]) ?_ 1 _ rfl; (with_reducible repeat (first | refine blk_drewN ?_ _ | refine blk_drew ?_ | refine blk_alloc ?_ _)); refine blk_put (cs := #[.int .i64 0, .int .i64 0, .int .i64 0, .int .i64 0]) ?_ 0 _ rfl; (with_reducible repeat (first | refine blk_drewN ?_ _ | refine blk_drew ?_ | refine blk_alloc ?_ _)); exact BK747.out) hb); have n4_ := Aside0.mk (below_step (by repeat (first | (with_reducible first | exact HB.out | apply below_alloc | apply pw_below_drewN | apply below_drew1 | refine below_set ?_ GE742.out | refine below_set ?_ GE747.out) | exact HB.out)) hb); clear HO_3; clear BK742; clear BK747; clear HB; have HO_3 := n0_; have HO750 := n1_; have BK742 := n2_; have BK747 := n3_; have HB := n4_; clear n0_ n1_ n2_ n3_ n4_; clear hb ho19; have hcz20_0 : w18.cell? ⟨gb742, 0, none⟩ = some (.slice A0_0 l0_0.length c0_0) := (blk_cell BK742.out 0).trans rfl; have hcz20_1 : w18.cell? ⟨gb742, 1, none⟩ = some (.slice (some ad746) l0_1.length c0_1) := (blk_cell BK742.out 1).trans rfl; have hcz20_2 : w18.cell? ⟨gb742, 2, none⟩ = some (.slice A0_2 l0_2.length c0_2) := (blk_cell BK742.out 2).trans rfl; have hfz20_0 := blk_frozen BK742.out 0; have hfz20_1 := blk_frozen BK742.out 1; have hfz20_2 := blk_frozen BK742.out 2; have p751 : 0 ≤ (x11_1 : Int) := of_decide_eq_true (by first | (with_reducible assumption) | assumption); have q751 : x11_1 < (l0_2.length : Int) := of_decide_eq_true (by first | (with_reducible assumption) | assumption); obtain ⟨ad751, e751, hx751_0⟩ := Kd.at_bool HR0_2.out x11_1 p751 q751; (try rw [← Nbq10.out] at hx751_0); cases e751; replace hx751_0 := (HB.out.cell (World.block_lt_of_cell? w _ hx751_0)).trans hx751_0; replace p751 := eq_true p751; replace q751 := eq_true q751; have hcz21_0 : w18.cell? ⟨gb747, 0, none⟩ = some (.int .i64 ((rd_TimplWindow l0_1 x11_1).f0)) := (blk_cell BK747.out 0).trans rfl; have hcz21_1 : w18.cell? ⟨gb747, 1, none⟩ = some (.int .i64 ((rd_TimplWindow l0_1 x11_1).f1)) := (blk_cell BK747.out 1).trans rfl; have hcz21_2 : w18.cell? ⟨gb747, 2, none⟩ = some (.int .i64 ((rd_TimplWindow l0_1 x11_1).f2)) := (blk_cell BK747.out 2).trans rfl; have hcz21_3 : w18.cell? ⟨gb747, 3, none⟩ = some (.int .i64 ((rd_TimplWindow l0_1 x11_1).f3)) := (blk_cell BK747.out 3).trans rfl; have hfz21_0 := blk_frozen BK747.out 0; have hfz21_1 := blk_frozen BK747.out 1; have hfz21_2 := blk_frozen BK747.out 2; have hfz21_3 := blk_frozen BK747.out 3) | ((with_reducible refine gate_callee (f := 131) rfl ?_); refine goesL_ (some 26) rfl rfl Try.func131 (by kernel_rfl) rfl #[.agg #[.slice A0_0 l0_0.length c0_0], .agg #[.int .i64 ((rd_TimplWindow l0_1 x11_1).f0), .int .i64 ((rd_TimplWindow l0_1 x11_1).f1), .int .i64 ((rd_TimplWindow l0_1 x11_1).f2), .int .i64 ((rd_TimplWindow l0_1 x11_1).f3)]] rfl (by (try simp only [List.map_toArray, List.map_cons, List.map_nil]); first | done | rfl | (simp only [List.length_drop, List.length_take]; rfl)) ?_; (with_reducible refine (impl_Memory_seen.calls (fun k_ => k_ < w.heap.size) _ _ l0_0 ((rd_TimplWindow l0_1 x11_1).f0) ((rd_TimplWindow l0_1 x11_1).f1) ((rd_TimplWindow l0_1 x11_1).f2) ((rd_TimplWindow l0_1 x11_1).f3) t752 _ ?side1 A12.out).mono ?_); (case side1 => exact Kd.V_mk HC0_0.out (Kd.F_below (Kd.C_F (Kd.heap_slice 5 (Kd.heap_int .u8)) HR0_0.out) (by repeat (first | (with_reducible first | exact HB.out | apply below_alloc | apply pw_below_drewN | apply below_drew1 | refine below_set ?_ GE742.out | refine below_set ?_ GE747.out) | exact HB.out)))); rintro e w22 ⟨v753, rfl, ho0, hb⟩; refine ⟨_, rfl, ?_⟩; have n0_ := Aside0.mk (Kd.S_below (by (with_reducible repeat (first | apply Kd.S_alloc | apply Kd.S_drewN | apply Kd.S_drew)); exact HO_3.out) hb); have n1_ := Aside0.mk (Kd.R_below (by (with_reducible repeat (first | apply Kd.R_alloc | apply Kd.R_drewN | apply Kd.R_drew)); exact HO750.out) hb); have n2_ := Aside0.mk (Kd.V_lower (Kd.V_mono (ok' := fun k_ => some k_ ≠ (u3 : Value).ownBlock ∧ some k_ ≠ (v749 : Value).ownBlock ∧ k_ ≠ gb742 ∧ k_ ≠ gb747) ho0 (fun k_ hk_ => ⟨Or.elim hk_ (fun hs_ => fun e_ => Nat.not_le.2 hs_ (Kd.S_base HO_3.out k_ e_.symm)) (fun hn_ => (Kd.fresh' (Kd.S_lt (by (with_reducible repeat (first | apply Kd.S_alloc | apply Kd.S_drewN | apply Kd.S_drew)); exact HO_3.out)) k_ hn_)), Or.elim hk_ (fun hs_ => fun e_ => Nat.not_le.2 hs_ (Kd.R_base HO750.out k_ e_.symm)) (fun hn_ => (Kd.fresh' (Kd.R_lt (by (with_reducible repeat (first | apply Kd.R_alloc | apply Kd.R_drewN | apply Kd.R_drew)); exact HO750.out)) k_ hn_)), Or.elim hk_ (fun hs_ => fun e_ => Nat.not_le.2 hs_ (by rw [e_]; exact GW742.out)) (fun hn_ => (Kd.freshB (g := gb742) (o := .cells #[.slice A0_0 l0_0.length c0_0, .slice (some ad746) l0_1.length c0_1, .slice (some ad751) l0_2.length c0_2] 60 (0, 0)) (by (with_reducible repeat (first | refine blk_drewN ?_ _ | refine blk_drew ?_ | refine blk_alloc ?_ _)); exact BK742.out) k_ hn_)), Or.elim hk_ (fun hs_ => fun e_ => Nat.not_le.2 hs_ (by rw [e_]; exact GW747.out)) (fun hn_ => (Kd.freshB (g := gb747) (o := .cells #[.int .i64 ((rd_TimplWindow l0_1 x11_1).f0), .int .i64 ((rd_TimplWindow l0_1 x11_1).f1), .int .i64 ((rd_TimplWindow l0_1 x11_1).f2), .int .i64 ((rd_TimplWindow l0_1 x11_1).f3)] 48 (0, 0)) (by (with_reducible repeat (first | refine blk_drewN ?_ _ | refine blk_drew ?_ | refine blk_alloc ?_ _)); exact BK747.out) k_ hn_))⟩)) (below_size (by repeat (first | (with_reducible first | exact HB.out | apply below_alloc | apply pw_below_drewN | apply below_drew1 | refine below_set ?_ GE742.out | refine below_set ?_ GE747.out) | exact HB.out)))); have n3_ := Aside0.mk (blk_below (g := gb742) (o := .cells #[.slice A0_0 l0_0.length c0_0, .slice (some ad746) l0_1.length c0_1, .slice (some ad751) l0_2.length c0_2] 60 (0, 0)) (by (with_reducible repeat (first | refine blk_drewN ?_ _ | refine blk_drew ?_ | refine blk_alloc ?_ _)); exact BK742.out) hb); have n4_ := Aside0.mk (blk_below (g := gb747) (o := .cells #[.int .i64 ((rd_TimplWindow l0_1 x11_1).f0), .int .i64 ((rd_TimplWindow l0_1 x11_1).f1), .int .i64 ((rd_TimplWindow l0_1 x11_1).f2), .int .i64 ((rd_TimplWindow l0_1 x11_1).f3)] 48 (0, 0)) (by (with_reducible repeat (first | refine blk_drewN ?_ _ | refine blk_drew ?_ | refine blk_alloc ?_ _)); exact BK747.out) hb); have n5_ := Aside0.mk (below_step (by repeat (first | (with_reducible first | exact HB.out | apply below_alloc | apply pw_below_drewN | apply below_drew1 | refine below_set ?_ GE742.out | refine below_set ?_ GE747.out) | exact HB.out)) hb); clear HO_3; clear HO750; clear BK742; clear BK747; clear HB; have HO_3 := n0_; have HO750 := n1_; have HO754 := n2_; have BK742 := n3_; have BK747 := n4_; have HB := n5_; clear n0_ n1_ n2_ n3_ n4_ n5_; (try clear hb); (try clear hb2); (try clear hk); (try clear hi); (try clear ho0); obtain ⟨Ao24, co24, eo24⟩ := Kd.V_slice HO754.out; subst eo24) | ((with_reducible refine gate_builtin (b := .append) (xs := #[.tmp 22, .tmp 26]) rfl ?_); at_builtin; refine Kd.R_append_rows (Kd.int .u8) (w0 := w) w.heap.size rfl (.tmp 22) (.tmp 26) 119 5 (.int .u8 0) 1 rfl Try.underlying119 info5 rfl (by decide) (by omega) v749 y748 t752 _ _ _ (fun _ => True) (fun _ => False) rfl rfl ?aO ?aR (fun _ _ h => h) (fun _ h => h.elim) ?aF ?aB ?aS ?aL ?_; (case aR => repeat (first | exact (Kd.V_reads' HO754.out).2.2 | (with_reducible refine Kd.C_alloc ?_ _) | (with_reducible refine Kd.C_drewN ?_ _) | (with_reducible refine Kd.C_drew ?_))); (case aB => exact (by repeat (first | (with_reducible first | exact HB.out | apply below_alloc | apply pw_below_drewN | apply below_drew1 | refine below_set ?_ GE742.out | refine below_set ?_ GE747.out) | exact HB.out))); (case aF => exact (fun _ _ => trivial)); (case aO => exact (by (with_reducible repeat (first | apply Kd.R_alloc | apply Kd.R_drewN | apply Kd.R_drew)); exact HO750.out)); (case aS => exact (below_size (by repeat (first | (with_reducible first | exact HB.out | apply below_alloc | apply pw_below_drewN | apply below_drew1 | refine below_set ?_ GE742.out | refine below_set ?_ GE747.out) | exact HB.out)))); (case aL => have := LMc13.out; omega); intro v756 w23 ho hb hg hat; rw [← Ny755.out] at ho; have n0_ := Aside0.mk (Kd.S_after (ok := (fun _ => True)) (by (with_reducible repeat (first | apply Kd.S_alloc | apply Kd.S_drewN | apply Kd.S_drew)); exact HO_3.out) hg hat); have n1_ := Aside0.mk (blk_grown (g := gb742) (o := .cells #[.slice A0_0 l0_0.length c0_0, .slice (some ad746) l0_1.length c0_1, .slice (some ad751) l0_2.length c0_2] 60 (0, 0)) (by (with_reducible repeat (first | refine blk_drewN ?_ _ | refine blk_drew ?_ | refine blk_alloc ?_ _)); exact BK742.out) hg (Kd.R_ne HO750.out BK742.out (by decide))); have n2_ := Aside0.mk (blk_grown (g := gb747) (o := .cells #[.int .i64 ((rd_TimplWindow l0_1 x11_1).f0), .int .i64 ((rd_TimplWindow l0_1 x11_1).f1), .int .i64 ((rd_TimplWindow l0_1 x11_1).f2), .int .i64 ((rd_TimplWindow l0_1 x11_1).f3)] 48 (0, 0)) (by (with_reducible repeat (first | refine blk_drewN ?_ _ | refine blk_drew ?_ | refine blk_alloc ?_ _)); exact BK747.out) hg (Kd.R_ne HO750.out BK747.out (by decide))); have n3_ := Aside0.mk (Kd.V_afterv (ok := (fun k_ => some k_ ≠ (u3 : Value).ownBlock ∧ k_ ≠ gb742 ∧ k_ ≠ gb747)) (by (with_reducible repeat (first | apply Kd.V_alloc | apply Kd.V_drewN | apply Kd.V_drew)); exact Kd.V_mono HO754.out (fun _ hk => ⟨⟨hk.1, ⟨hk.2.2.1, hk.2.2.2⟩⟩, hk.2.1⟩)) hg hat); have n4_ := Aside0.mk (hb); have n5_ := Aside0.mk (ho); clear HO_3; clear BK742; clear BK747; clear HO754; clear HB; clear HO750; have HO_3 := n0_; have BK742 := n1_; have BK747 := n2_; have HO754 := n3_; have HB := n4_; have HO757 := n5_; clear n0_ n1_ n2_ n3_ n4_ n5_; clear ho hb hg hat; obtain ⟨Ao26, co26, eo26⟩ := Kd.R_slice HO757.out; subst eo26) | ((with_reducible refine gate_builtin (b := .append) (xs := #[.tmp 28, .tmp 30]) rfl ?_); at_builtin; refine Kd.S_append (Kd.slice 5 (Kd.int .u8)) (w0 := w) w.heap.size rfl (.tmp 28) (.tmp 30) 22 119 (.slice none 0 0) 24 rfl Try.underlying22 info119 rfl (by decide) (by omega) u3 x3_1 y755 [.slice Ao26 y755.length co26] (fun _ => True) (fun k_ => some k_ = (.slice Ao26 y755.length co26 : Value).ownBlock) rfl rfl ?aP (fun k_ hk_ => ((Kd.R_mono (ok' := fun k_ => ((fun _ => True)) k_ ∧ some k_ ≠ (u3 : Value).ownBlock) (Kd.R_apart' (HO757.out) (Kd.S_typed HO_3.out) (by decide)) (fun k_ hk => ⟨trivial, hk.2⟩))).1 k_ hk_.symm) ?aF ?aO ?aB ?aS ?aL ?_; (case aP => exact Kd.M_row (Kd.R_mono (Kd.R_tight rfl (Kd.R_mono (ok' := fun k_ => ((fun _ => True)) k_ ∧ some k_ ≠ (u3 : Value).ownBlock) (Kd.R_apart' (HO757.out) (Kd.S_typed HO_3.out) (by decide)) (fun k_ hk => ⟨trivial, hk.2⟩))) (fun _ h_ => h_))); (case aB => exact (by repeat (first | (with_reducible first | exact HB.out | apply below_alloc | apply pw_below_drewN | apply below_drew1 | refine below_set ?_ GE742.out | refine below_set ?_ GE747.out) | exact HB.out))); (case aF => exact (fun _ _ => trivial)); (case aO => exact (by (with_reducible repeat (first | apply Kd.S_alloc | apply Kd.S_drewN | apply Kd.S_drew)); exact Kd.S_mono HO_3.out (fun k_ hk => ⟨trivial, fun e_ => hk.2 e_⟩))); (case aS => exact (below_size (by repeat (first | (with_reducible first | exact HB.out | apply below_alloc | apply pw_below_drewN | apply below_drew1 | refine below_set ?_ GE742.out | refine below_set ?_ GE747.out) | exact HB.out)))); (case aL => have := LMc14.out; omega); intro v759 w25 ho hb hg hat; rw [← Ny758.out] at ho; have n0_ := Aside0.mk (blk_grown (g := gb742) (o := .cells #[.slice A0_0 l0_0.length c0_0, .slice (some ad746) l0_1.length c0_1, .slice (some ad751) l0_2.length c0_2] 60 (0, 0)) (by (with_reducible repeat (first | refine blk_drewN ?_ _ | refine blk_drew ?_ | refine blk_alloc ?_ _)); exact BK742.out) hg (Kd.S_ne HO_3.out BK742.out (by decide))); have n1_ := Aside0.mk (blk_grown (g := gb747) (o := .cells #[.int .i64 ((rd_TimplWindow l0_1 x11_1).f0), .int .i64 ((rd_TimplWindow l0_1 x11_1).f1), .int .i64 ((rd_TimplWindow l0_1 x11_1).f2), .int .i64 ((rd_TimplWindow l0_1 x11_1).f3)] 48 (0, 0)) (by (with_reducible repeat (first | refine blk_drewN ?_ _ | refine blk_drew ?_ | refine blk_alloc ?_ _)); exact BK747.out) hg (Kd.S_ne HO_3.out BK747.out (by decide))); have n2_ := Aside0.mk (Kd.V_afterv (ok := (fun k_ => some k_ ≠ (.slice Ao26 y755.length co26 : Value).ownBlock ∧ k_ ≠ gb742 ∧ k_ ≠ gb747)) (by (with_reducible repeat (first | apply Kd.V_alloc | apply Kd.V_drewN | apply Kd.V_drew)); exact Kd.V_mono HO754.out (fun _ hk => ⟨⟨hk.2, ⟨hk.1.2.1, hk.1.2.2⟩⟩, hk.1.1⟩)) hg hat); have n3_ := Aside0.mk (hb); have n4_ := Aside0.mk (ho); clear BK742; clear BK747; clear HO754; clear HB; clear HO_3; clear HO757; have BK742 := n0_; have BK747 := n1_; have HO754 := n2_; have HB := n3_; have HO760 := n4_; clear n0_ n1_ n2_ n3_ n4_; clear ho hb hg hat))
                    go_roundg k1
                    case measure => have := HK1.out; omega
                    case rel => exact ⟨(y758), (wrap64 (x11_1 + 1)), (by first | rfl | (simp; done) | (simp [*]; done)), H', ⟨by have := HK1.out; omega⟩, ⟨by (with_reducible repeat (first | apply Kd.S_alloc | apply Kd.S_drewN | apply Kd.S_drew)); exact HO760.out⟩, ⟨by (with_reducible repeat (first | refine blk_drewN ?_ _ | refine blk_drew ?_ | refine blk_alloc ?_ _)); exact BK742.out⟩, ⟨by repeat (first | (with_reducible first | exact HB.out | apply below_alloc | apply pw_below_drewN | apply below_drew1 | refine below_set ?_ GE742.out | refine below_set ?_ GE747.out) | exact HB.out)⟩⟩
                  · rw [if_neg c14] at H
                    exact absurd H (by simp)
                · rw [if_neg c13] at H
                  exact absurd H (by simp)
              · replace c11 := Bool.eq_false_iff.mpr c11
                subst c11
                have H1 : (if x3_1.length < 5864062014805 then (impl_Machine_shown.l0 k1 (x3_1 ++ [y748]) l0_1 (l0_1.length : Int) (wrap64 (x11_1 + 1)) l0_0 l0_1 l0_2) else (none)) = some r := by rw [if_neg (show ¬ (false = true) by decide)] at H; exact H
                clear H
                have H := H1
                clear H1
                by_cases c27 : x3_1.length < 5864062014805
                · rw [if_pos c27] at H
                  have LMc27 := Aside0.mk c27
                  clear c27
                  obtain ⟨y761, hy761⟩ : ∃ y_ : List (List Int), y_ = (x3_1 ++ [y748]) := ⟨_, rfl⟩
                  replace H : (impl_Machine_shown.l0 k1 y761 l0_1 (l0_1.length : Int) (wrap64 (x11_1 + 1)) l0_0 l0_1 l0_2) = some r := by first | (rw [hy761]; with_reducible exact H) | (have H2_ := (Option.bind_some _ _).symm.trans H; rw [hy761]; with_reducible exact H2_) | (have H2_ := (Option.bind_some _ _).symm.trans H; with_reducible exact H2_) | with_reducible exact H | (rw [hy761]; exact H) | exact H
                  have Ny761 := Aside0.mk hy761
                  clear hy761
                  have H' := Aside0.mk H
                  clear H
                  have p746 : 0 ≤ (x11_1 : Int) := of_decide_eq_true (by first | (with_reducible assumption) | assumption)
                  have q746 : x11_1 < (l0_1.length : Int) := of_decide_eq_true (by first | (with_reducible assumption) | assumption)
                  obtain ⟨ad746, e746, hx746_0, hx746_1, hx746_2, hx746_3⟩ := at_TimplWindow HR0_1.out x11_1 p746 q746
                  cases e746
                  replace hx746_0 := (HB.out.cell (World.block_lt_of_cell? w _ hx746_0)).trans hx746_0
                  replace hx746_1 := (HB.out.cell (World.block_lt_of_cell? w _ hx746_1)).trans hx746_1
                  replace hx746_2 := (HB.out.cell (World.block_lt_of_cell? w _ hx746_2)).trans hx746_2
                  replace hx746_3 := (HB.out.cell (World.block_lt_of_cell? w _ hx746_3)).trans hx746_3
                  replace p746 := eq_true p746
                  replace q746 := eq_true q746
                  go_wp2_with (first | ((with_reducible refine gate_dst (N := 5) rfl ?_); refine box_event ?hg (N := 5) ?hd (cs := #[.int .i64 0, .int .i64 0, .int .i64 0, .int .i64 0]) (t := 48) ?hr ?_; (case hd => rfl); (case hg => rfl); (case hr => first | (go_simp; done) | (go_simp; rfl)); intro gb747 hg w28 hbox hb; have n0_ := Aside0.mk (Kd.S_below (by (with_reducible repeat (first | apply Kd.S_alloc | apply Kd.S_drewN | apply Kd.S_drew)); exact HO_3.out) hb); have n1_ := Aside0.mk (blk_below (g := gb742) (o := .cells #[.slice A0_0 l0_0.length c0_0, .slice (some ad746) l0_1.length c0_1, .slice A0_2 l0_2.length c0_2] 60 (0, 0)) (by (with_reducible repeat (first | refine blk_drewN ?_ _ | refine blk_drew ?_ | refine blk_alloc ?_ _)); exact BK742.out) hb); have n2_ := Aside0.mk (below_step (by repeat (first | (with_reducible first | exact HB.out | apply below_alloc | apply pw_below_drewN | apply below_drew1 | refine below_set ?_ GE742.out) | exact HB.out)) hb); have n3_ := Aside0.mk (hbox); have n4_ := Aside0.mk ((by rw [hg]; exact (below_size (by repeat (first | (with_reducible first | exact HB.out | apply below_alloc | apply pw_below_drewN | apply below_drew1 | refine below_set ?_ GE742.out) | exact HB.out))) : w.heap.size ≤ gb747)); have n5_ := Aside0.mk ((by rw [hg]; exact (below_size (by repeat (first | (with_reducible first | exact HB.out | apply below_alloc | apply pw_below_drewN | apply below_drew1 | refine below_set ?_ GE742.out) | exact HB.out))) : w.heap.size ≤ gb747)); have n6_ := Aside0.mk ((by rw [hg]; exact Nat.ne_of_lt (blk_lt (g := gb742) (o := .cells #[.slice A0_0 l0_0.length c0_0, .slice (some ad746) l0_1.length c0_1, .slice A0_2 l0_2.length c0_2] 60 (0, 0)) (by (with_reducible repeat (first | refine blk_drewN ?_ _ | refine blk_drew ?_ | refine blk_alloc ?_ _)); exact BK742.out)) : gb742 ≠ gb747)); have n7_ := Aside0.mk ((by rw [hg]; exact Nat.ne_of_gt (blk_lt (g := gb742) (o := .cells #[.slice A0_0 l0_0.length c0_0, .slice (some ad746) l0_1.length c0_1, .slice A0_2 l0_2.length c0_2] 60 (0, 0)) (by (with_reducible repeat (first | refine blk_drewN ?_ _ | refine blk_drew ?_ | refine blk_alloc ?_ _)); exact BK742.out)) : gb747 ≠ gb742)); clear HO_3; clear BK742; clear HB; have HO_3 := n0_; have BK742 := n1_; have HB := n2_; have BK747 := n3_; have GW747 := n4_; have GE747 := n5_; have NB742_747 := n6_; have NB747_742 := n7_; clear n0_ n1_ n2_ n3_ n4_ n5_ n6_ n7_; clear hb hbox hg; have hnb29 := NB747_742.out; have hnc29 := NB742_747.out; have hcz30_0 : w28.cell? ⟨gb747, 0, none⟩ = some (.int .i64 0) := (blk_cell BK747.out 0).trans rfl; have hcz30_1 : w28.cell? ⟨gb747, 1, none⟩ = some (.int .i64 0) := (blk_cell BK747.out 1).trans rfl; have hcz30_2 : w28.cell? ⟨gb747, 2, none⟩ = some (.int .i64 0) := (blk_cell BK747.out 2).trans rfl; have hcz30_3 : w28.cell? ⟨gb747, 3, none⟩ = some (.int .i64 0) := (blk_cell BK747.out 3).trans rfl; have hfz30_0 := blk_frozen BK747.out 0; have hfz30_1 := blk_frozen BK747.out 1; have hfz30_2 := blk_frozen BK747.out 2; have hfz30_3 := blk_frozen BK747.out 3) | ((with_reducible refine gate_dst (N := 16) rfl ?_); refine Kd.R_lit (Kd.int .u8) _ 5 ?hg (N := 16) ?hd (xs := ([] : List Int)) (inner := []) (ok := fun _ => True) (okp := fun _ => True) ?hr ?hp (fun _ hk => hk) trivial (Below.refl _ _) (Nat.le_refl _) (by simp) ?_; (case hd => rfl); (case hg => rfl); (case hr => first | (go_simp; done) | (go_simp; rfl)); (case hp => exact (Reps.none _ _)); intro v749 w31 ho32 hb hg_ hnew_; clear hg_ hnew_; (first | rw [← Ny748.out] at ho32 | (simp only [Int.reduceToNat] at ho32; rw [← Ny748.out] at ho32)); have n0_ := Aside0.mk (Kd.S_elder' (by (with_reducible repeat (first | apply Kd.S_alloc | apply Kd.S_drewN | apply Kd.S_drew)); exact (Kd.S_mono (Kd.S_far (p := ⟨gb747, 3, none⟩) (Kd.S_far (p := ⟨gb747, 2, none⟩) (Kd.S_far (p := ⟨gb747, 1, none⟩) (Kd.S_far (p := ⟨gb747, 0, none⟩) (Kd.S_types HO_3.out BK747.out (by decide)) (fun _ hk => hk.2) (.int .i64 ((rd_TimplWindow l0_1 x11_1).f0))) (fun _ hk => hk.2) (.int .i64 ((rd_TimplWindow l0_1 x11_1).f1))) (fun _ hk => hk.2) (.int .i64 ((rd_TimplWindow l0_1 x11_1).f2))) (fun _ hk => hk.2) (.int .i64 ((rd_TimplWindow l0_1 x11_1).f3))) (fun _ h_ => h_.1))) (Kd.R_base ho32) hb); have n1_ := Aside0.mk (Kd.R_lower ho32 (below_size (by repeat (first | (with_reducible first | exact HB.out | apply below_alloc | apply pw_below_drewN | apply below_drew1 | refine below_set ?_ GE742.out | refine below_set ?_ GE747.out) | exact HB.out)))); have n2_ := Aside0.mk (blk_below (g := gb742) (o := .cells #[.slice A0_0 l0_0.length c0_0, .slice (some ad746) l0_1.length c0_1, .slice A0_2 l0_2.length c0_2] 60 (0, 0)) (by (with_reducible repeat (first | refine blk_drewN ?_ _ | refine blk_drew ?_ | refine blk_alloc ?_ _)); refine blk_far ?_ NB742_747.out _; (with_reducible repeat (first | refine blk_drewN ?_ _ | refine blk_drew ?_ | refine blk_alloc ?_ _)); refine blk_far ?_ NB742_747.out _; (with_reducible repeat (first | refine blk_drewN ?_ _ | refine blk_drew ?_ | refine blk_alloc ?_ _)); refine blk_far ?_ NB742_747.out _; (with_reducible repeat (first | refine blk_drewN ?_ _ | refine blk_drew ?_ | refine blk_alloc ?_ _)); refine blk_far ?_ NB742_747.out _; (with_reducible repeat (first | refine blk_drewN ?_ _ | refine blk_drew ?_ | refine blk_alloc ?_ _)); exact BK742.out) hb); have n3_ := Aside0.mk (blk_below (g := gb747) (o := .cells #[.int .i64 ((rd_TimplWindow l0_1 x11_1).f0), .int .i64 ((rd_TimplWindow l0_1 x11_1).f1), .int .i64 ((rd_TimplWindow l0_1 x11_1).f2), .int .i64 ((rd_TimplWindow l0_1 x11_1).f3)] 48 (0, 0)) (by (with_reducible repeat (first | refine blk_drewN ?_ _ | refine blk_drew ?_ | refine blk_alloc ?_ _)); refine blk_put (cs := #[.int .i64 ((rd_TimplWindow l0_1 x11_1).f0), .int .i64 ((rd_TimplWindow l0_1 x11_1).f1), .int .i64 ((rd_TimplWindow l0_1 x11_1).f2), .int .i64 0]) ?_ 3 _ rfl; (with_reducible repeat (first | refine blk_drewN ?_ _ | refine blk_drew ?_ | refine blk_alloc ?_ _)); refine blk_put (cs := #[.int .i64 ((rd_TimplWindow l0_1 x11_1).f0), .int .i64 ((rd_TimplWindow l0_1 x11_1).f1), .int .i64 0, .int .i64 0]) ?_ 2 _ rfl; (with_reducible repeat (first | refine blk_drewN ?_ _ | refine blk_drew ?_ | refine blk_alloc ?_ _)); refine blk_put (cs := #[.int .i64 ((rd_TimplWindow l0_1 x11_1).f0), .int .i64 0, .int .i64 0, .int .i64 0]) ?_ 1 _ rfl; (with_reducible repeat (first | refine blk_drewN ?_ _ | refine blk_drew ?_ | refine blk_alloc ?_ _)); refine blk_put (cs := #[.int .i64 0, .int .i64 0, .int .i64 0, .int .i64 0]) ?_ 0 _ rfl; (with_reducible repeat (first | refine blk_drewN ?_ _ | refine blk_drew ?_ | refine blk_alloc ?_ _)); exact BK747.out) hb); have n4_ := Aside0.mk (below_step (by repeat (first | (with_reducible first | exact HB.out | apply below_alloc | apply pw_below_drewN | apply below_drew1 | refine below_set ?_ GE742.out | refine below_set ?_ GE747.out) | exact HB.out)) hb); clear HO_3; clear BK742; clear BK747; clear HB; have HO_3 := n0_; have HO750 := n1_; have BK742 := n2_; have BK747 := n3_; have HB := n4_; clear n0_ n1_ n2_ n3_ n4_; clear hb ho32; have hcz33_0 : w31.cell? ⟨gb742, 0, none⟩ = some (.slice A0_0 l0_0.length c0_0) := (blk_cell BK742.out 0).trans rfl; have hcz33_1 : w31.cell? ⟨gb742, 1, none⟩ = some (.slice (some ad746) l0_1.length c0_1) := (blk_cell BK742.out 1).trans rfl; have hcz33_2 : w31.cell? ⟨gb742, 2, none⟩ = some (.slice A0_2 l0_2.length c0_2) := (blk_cell BK742.out 2).trans rfl; have hfz33_0 := blk_frozen BK742.out 0; have hfz33_1 := blk_frozen BK742.out 1; have hfz33_2 := blk_frozen BK742.out 2; have p751 : 0 ≤ (x11_1 : Int) := of_decide_eq_true (by first | (with_reducible assumption) | assumption); have q751 : x11_1 < (l0_2.length : Int) := of_decide_eq_true (by first | (with_reducible assumption) | assumption); obtain ⟨ad751, e751, hx751_0⟩ := Kd.at_bool HR0_2.out x11_1 p751 q751; (try rw [← Nbq10.out] at hx751_0); cases e751; replace hx751_0 := (HB.out.cell (World.block_lt_of_cell? w _ hx751_0)).trans hx751_0; replace p751 := eq_true p751; replace q751 := eq_true q751; obtain ⟨Ao35, co35, eo35⟩ := Kd.R_slice HO750.out; subst eo35) | ((with_reducible refine gate_builtin (b := .append) (xs := #[.tmp 28, .tmp 30]) rfl ?_); at_builtin; refine Kd.S_append (Kd.slice 5 (Kd.int .u8)) (w0 := w) w.heap.size rfl (.tmp 28) (.tmp 30) 22 119 (.slice none 0 0) 24 rfl Try.underlying22 info119 rfl (by decide) (by omega) u3 x3_1 y748 [.slice Ao35 y748.length co35] (fun _ => True) (fun k_ => some k_ = (.slice Ao35 y748.length co35 : Value).ownBlock) rfl rfl ?aP (fun k_ hk_ => ((Kd.R_mono (ok' := fun k_ => ((fun _ => True)) k_ ∧ some k_ ≠ (u3 : Value).ownBlock) (Kd.R_apart' (HO750.out) (Kd.S_typed HO_3.out) (by decide)) (fun k_ hk => ⟨trivial, hk.2⟩))).1 k_ hk_.symm) ?aF ?aO ?aB ?aS ?aL ?_; (case aP => exact Kd.M_row (Kd.R_mono (Kd.R_tight rfl (Kd.R_mono (ok' := fun k_ => ((fun _ => True)) k_ ∧ some k_ ≠ (u3 : Value).ownBlock) (Kd.R_apart' (HO750.out) (Kd.S_typed HO_3.out) (by decide)) (fun k_ hk => ⟨trivial, hk.2⟩))) (fun _ h_ => h_))); (case aB => exact (by repeat (first | (with_reducible first | exact HB.out | apply below_alloc | apply pw_below_drewN | apply below_drew1 | refine below_set ?_ GE742.out | refine below_set ?_ GE747.out) | exact HB.out))); (case aF => exact (fun _ _ => trivial)); (case aO => exact (by (with_reducible repeat (first | apply Kd.S_alloc | apply Kd.S_drewN | apply Kd.S_drew)); exact Kd.S_mono HO_3.out (fun k_ hk => ⟨trivial, fun e_ => hk.2 e_⟩))); (case aS => exact (below_size (by repeat (first | (with_reducible first | exact HB.out | apply below_alloc | apply pw_below_drewN | apply below_drew1 | refine below_set ?_ GE742.out | refine below_set ?_ GE747.out) | exact HB.out)))); (case aL => have := LMc27.out; omega); intro v762 w34 ho hb hg hat; rw [← Ny761.out] at ho; have n0_ := Aside0.mk (blk_grown (g := gb742) (o := .cells #[.slice A0_0 l0_0.length c0_0, .slice (some ad746) l0_1.length c0_1, .slice (some ad751) l0_2.length c0_2] 60 (0, 0)) (by (with_reducible repeat (first | refine blk_drewN ?_ _ | refine blk_drew ?_ | refine blk_alloc ?_ _)); exact BK742.out) hg (Kd.S_ne HO_3.out BK742.out (by decide))); have n1_ := Aside0.mk (blk_grown (g := gb747) (o := .cells #[.int .i64 ((rd_TimplWindow l0_1 x11_1).f0), .int .i64 ((rd_TimplWindow l0_1 x11_1).f1), .int .i64 ((rd_TimplWindow l0_1 x11_1).f2), .int .i64 ((rd_TimplWindow l0_1 x11_1).f3)] 48 (0, 0)) (by (with_reducible repeat (first | refine blk_drewN ?_ _ | refine blk_drew ?_ | refine blk_alloc ?_ _)); exact BK747.out) hg (Kd.S_ne HO_3.out BK747.out (by decide))); have n2_ := Aside0.mk (hb); have n3_ := Aside0.mk (ho); clear BK742; clear BK747; clear HB; clear HO_3; clear HO750; have BK742 := n0_; have BK747 := n1_; have HB := n2_; have HO763 := n3_; clear n0_ n1_ n2_ n3_; clear ho hb hg hat))
                  go_roundg k1
                  case measure => have := HK1.out; omega
                  case rel => exact ⟨(y761), (wrap64 (x11_1 + 1)), (by first | rfl | (simp; done) | (simp [*]; done)), H', ⟨by have := HK1.out; omega⟩, ⟨by (with_reducible repeat (first | apply Kd.S_alloc | apply Kd.S_drewN | apply Kd.S_drew)); exact HO763.out⟩, ⟨by (with_reducible repeat (first | refine blk_drewN ?_ _ | refine blk_drew ?_ | refine blk_alloc ?_ _)); exact BK742.out⟩, ⟨by repeat (first | (with_reducible first | exact HB.out | apply below_alloc | apply pw_below_drewN | apply below_drew1 | refine below_set ?_ GE742.out | refine below_set ?_ GE747.out) | exact HB.out)⟩⟩
                · rw [if_neg c27] at H
                  exact absurd H (by simp)
            · rw [if_neg c9] at H
              exact absurd H (by simp)
          · rw [if_neg c8] at H
            exact absurd H (by simp)
        · rw [if_neg c7] at H
          exact absurd H (by simp)
      · rw [if_neg c6] at H
        have c6b0 : decide (x11_1 < (l0_1.length : Int)) = false := decide_eq_false c6
        clear c6
        obtain rfl := Option.some.inj H
        go_wp2
        go_ret
        exact ⟨_, by first | rfl | (simp [errW_none, errW_some] <;> rfl) | (simp [*, errW_none, errW_some] <;> rfl), by (with_reducible repeat (first | apply Kd.S_alloc | apply Kd.S_drewN | apply Kd.S_drew)); exact HO_3.out, by repeat (first | (with_reducible first | exact HB.out | apply below_alloc | apply pw_below_drewN | apply below_drew1 | refine below_set ?_ GE742.out) | exact HB.out)⟩

end Go.Proofs.Ytoomjghabiojkaa.P


namespace Go.Proofs.Ytoomjghabiojkaa.P
open Go.RowKit Go.Proofs.YtoomjghabiojkaaW.PrintWords Go.Proofs.YtoomjghabiojkaaW.PrintLast Go.Proofs.YtoomjghabiojkaaW.PrintMore
attribute [local go_sem] max2_int min2_int max_two min_two max_three min_three max_four min_four   -- for this text's walks alone
set_option linter.unusedVariables false
set_option linter.unusedSimpArgs false

def slices_Equal_bool_bool.l0 : Nat → List Bool → List Bool → Int → Int → Option (Bool)
  | 0, _, _, _, _ => none
  | k + 1, x0, x1, x12, x13 => if x13 < x12 then (if 0 ≤ x13 then (if x13 < (x0.length : Int) then (if x13 < (x1.length : Int) then (if ((rdOf false x0 x13) != (rdOf false x1 x13)) = true then (some false) else (slices_Equal_bool_bool.l0 k x0 x1 x12 (wrap64 (x13 + 1)))) else (none)) else (none)) else (none)) else (some true)
def slices_Equal_bool_bool.f (k : Nat) (l0 : List Bool) (l1 : List Bool) : Option (Bool) := if (l0.length : Int) = (l1.length : Int) then (slices_Equal_bool_bool.l0 k l0 l1 (l0.length : Int) 0) else (some false)
set_option maxHeartbeats 8000000 in
set_option maxRecDepth 100000 in
theorem slices_Equal_bool_bool.calls (k : Nat) (A0 : Option Addr) (c0 : Nat) (l0 : List Bool) (A1 : Option Addr) (c1 : Nat) (l1 : List Bool) (r : Bool) (w : World) (hr0 : Kd.C Kd.bool w A0 l0.length l0) (hc0 : l0.length ≤ c0) (hr1 : Kd.C Kd.bool w A1 l1.length l1) (hc1 : l1.length ≤ c1) (h : slices_Equal_bool_bool.f k l0 l1 = some r) :
    Calls Try.prog 145 #[.slice A0 l0.length c0, .slice A1 l1.length c1] w fun e w' => e = .returned (.bool r) ∧ Drawn0 w w' := by
  have HR0 := Aside0.mk hr0
  have HC0 := Aside0.mk hc0
  clear hr0 hc0
  have HR1 := Aside0.mk hr1
  have HC1 := Aside0.mk hc1
  clear hr1 hc1
  have H : (if (l0.length : Int) = (l1.length : Int) then (slices_Equal_bool_bool.l0 k l0 l1 (l0.length : Int) 0) else (some false)) = some r := h
  clear h
  by_cases c3 : (l0.length : Int) = (l1.length : Int)
  · rw [if_pos c3] at H
    have c3b0 : ((l0.length : Int) == (l1.length : Int)) = true := beq_iff_eq.mpr c3
    have c3b1 : ((l0.length : Int) != (l1.length : Int)) = false := bne_eq_false_iff_eq.mpr c3
    have c3b2 : (l0.length == l1.length) = true := by first | simpa using c3 | (simp at c3 ⊢; omega)
    clear c3
    have H' := Aside0.mk H
    clear H
    go_enter Try.func145, Try.ntmps145
    go_wp2
    repeat (go_quiet (fail); try go_wp2)
    go_loopg [13] k (fun kq v13 w' => ∃ (x13_1 : Int), v13 = .int .i64 x13_1 ∧ Aside0 (slices_Equal_bool_bool.l0 kq l0 l1 (l0.length : Int) x13_1 = some r) ∧ Aside0 (kq ≤ k) ∧ Drawn0 w w')
    case atStart => exact ⟨(0), (by first | rfl | (simp; done) | (simp [*]; done)), H', ⟨Nat.le_refl _⟩, by repeat (first | exact Drawn0.refl _ | apply Drawn0.step)⟩
    case round =>
      clear H'
      try clear c1
      try clear p2
      try clear c3
      try clear c3b0
      try clear c3b1
      try clear c3b2
      obtain ⟨x13_1, rfl, HA, HK1, ⟨m1, rfl⟩⟩ := hrel
      cases gk with
      | zero => exact absurd HA.out (by simp [slices_Equal_bool_bool.l0])
      | succ k1 =>
        have H := HA.out
        clear HA
        simp only [slices_Equal_bool_bool.l0] at H
        by_cases c4 : x13_1 < (l0.length : Int)
        · rw [if_pos c4] at H
          have c4b0 : decide (x13_1 < (l0.length : Int)) = true := decide_eq_true c4
          clear c4
          by_cases c5 : 0 ≤ x13_1
          · rw [if_pos c5] at H
            have c5b0 : decide (0 ≤ x13_1) = true := decide_eq_true c5
            clear c5
            by_cases c6 : x13_1 < (l0.length : Int)
            · rw [if_pos c6] at H
              have c6b0 : decide (x13_1 < (l0.length : Int)) = true := decide_eq_true c6
              clear c6
              by_cases c7 : x13_1 < (l1.length : Int)
              · rw [if_pos c7] at H
                have c7b0 : decide (x13_1 < (l1.length : Int)) = true := decide_eq_true c7
                clear c7
                by_cases c8 : ((rdOf false l0 x13_1) != (rdOf false l1 x13_1)) = true
                · rw [if_pos c8] at H
                  have c8b0 : ((rdOf false l0 x13_1) != (rdOf false l1 x13_1)) = true := c8
                  (try (have c8b1 : decide ((rdOf false l0 x13_1) = (rdOf false l1 x13_1)) = false := by simpa using c8))
                  (try (have c8b2 : ((rdOf false l0 x13_1) == (rdOf false l1 x13_1)) = false := by simpa using c8))
                  (try (have c8b3 : ¬ ((rdOf false l0 x13_1) = (rdOf false l1 x13_1)) := by simpa using c8))
                  clear c8
                  obtain rfl := Option.some.inj H
                  have p764 : 0 ≤ (x13_1 : Int) := of_decide_eq_true (by first | (with_reducible assumption) | assumption)
                  have q764 : x13_1 < (l0.length : Int) := of_decide_eq_true (by first | (with_reducible assumption) | assumption)
                  obtain ⟨ad764, e764, hx764_0⟩ := Kd.at_bool HR0.out x13_1 p764 q764
                  cases e764
                  replace p764 := eq_true p764
                  replace q764 := eq_true q764
                  have p765 : 0 ≤ (x13_1 : Int) := of_decide_eq_true (by first | (with_reducible assumption) | assumption)
                  have q765 : x13_1 < (l1.length : Int) := of_decide_eq_true (by first | (with_reducible assumption) | assumption)
                  obtain ⟨ad765, e765, hx765_0⟩ := Kd.at_bool HR1.out x13_1 p765 q765
                  cases e765
                  replace p765 := eq_true p765
                  replace q765 := eq_true q765
                  go_wp2
                  repeat (go_quiet (fail); try go_wp2)
                  go_ret
                  exact ⟨by first | rfl | (simp; done) | (simp [*]; done), by repeat (first | exact Drawn0.refl _ | apply Drawn0.step)⟩
                · rw [if_neg c8] at H
                  have c8b0 : ((rdOf false l0 x13_1) != (rdOf false l1 x13_1)) = false := by simpa using c8
                  (try (have c8b1 : decide ((rdOf false l0 x13_1) = (rdOf false l1 x13_1)) = true := by simpa using c8))
                  (try (have c8b2 : ((rdOf false l0 x13_1) == (rdOf false l1 x13_1)) = true := by simpa using c8))
                  clear c8
                  have H' := Aside0.mk H
                  clear H
                  have p764 : 0 ≤ (x13_1 : Int) := of_decide_eq_true (by first | (with_reducible assumption) | assumption)
                  have q764 : x13_1 < (l0.length : Int) := of_decide_eq_true (by first | (with_reducible assumption) | assumption)
                  obtain ⟨ad764, e764, hx764_0⟩ := Kd.at_bool HR0.out x13_1 p764 q764
                  cases e764
                  replace p764 := eq_true p764
                  replace q764 := eq_true q764
                  have p765 : 0 ≤ (x13_1 : Int) := of_decide_eq_true (by first | (with_reducible assumption) | assumption)
                  have q765 : x13_1 < (l1.length : Int) := of_decide_eq_true (by first | (with_reducible assumption) | assumption)
                  obtain ⟨ad765, e765, hx765_0⟩ := Kd.at_bool HR1.out x13_1 p765 q765
                  cases e765
                  replace p765 := eq_true p765
                  replace q765 := eq_true q765
                  go_wp2
                  repeat (go_quiet (fail); try go_wp2)
                  go_roundg k1
                  case measure => have := HK1.out; omega
                  case rel => exact ⟨(wrap64 (x13_1 + 1)), (by first | rfl | (simp; done) | (simp [*]; done)), H', ⟨by have := HK1.out; omega⟩, by repeat (first | exact Drawn0.refl _ | apply Drawn0.step)⟩
              · rw [if_neg c7] at H
                exact absurd H (by simp)
            · rw [if_neg c6] at H
              exact absurd H (by simp)
          · rw [if_neg c5] at H
            exact absurd H (by simp)
        · rw [if_neg c4] at H
          have c4b0 : decide (x13_1 < (l0.length : Int)) = false := decide_eq_false c4
          clear c4
          obtain rfl := Option.some.inj H
          go_wp2
          repeat (go_quiet (fail); try go_wp2)
          go_ret
          exact ⟨by first | rfl | (simp; done) | (simp [*]; done), by repeat (first | exact Drawn0.refl _ | apply Drawn0.step)⟩
  · rw [if_neg c3] at H
    have c3b0 : ((l0.length : Int) == (l1.length : Int)) = false := beq_eq_false_iff_ne.mpr c3
    have c3b1 : ((l0.length : Int) != (l1.length : Int)) = true := bne_iff_ne.mpr c3
    have c3b2 : (l0.length == l1.length) = false := by first | simpa using c3 | (simp at c3 ⊢; omega)
    obtain rfl := Option.some.inj H
    go_enter Try.func145, Try.ntmps145
    go_wp2
    repeat (go_quiet (fail); try go_wp2)
    go_ret
    exact ⟨by first | rfl | (simp; done) | (simp [*]; done), by repeat (first | exact Drawn0.refl _ | apply Drawn0.step)⟩

end Go.Proofs.Ytoomjghabiojkaa.P


-- written by wip/gen_fn.py
namespace Go.Proofs.Ytoomjghabiojkaa.P
open Go.RowKit Go.Proofs.YtoomjghabiojkaaW.PrintWords Go.Proofs.YtoomjghabiojkaaW.PrintLast Go.Proofs.YtoomjghabiojkaaW.PrintMore Go.Proofs.YtoomjghabiojkaaW.Mine
open List (setIfInBounds_toArray set_cons_zero set_cons_succ)
attribute [local go_sem] max2_int min2_int max_two min_two max_three min_three max_four min_four
set_option linter.unusedVariables false
set_option linter.unusedSimpArgs false
set_option maxHeartbeats 8000000 in
set_option maxRecDepth 100000 in
theorem impl_showsSame_w0 (A0_0 : Option Addr) (c0_0 : Nat) (l0_0 : List (List Int)) (A0_1 : Option Addr) (c0_1 : Nat) (l0_1 : List (SimplWindow)) (A0_2 : Option Addr) (c0_2 : Nat) (l0_2 : List Bool) (A1_0 : Option Addr) (c1_0 : Nat) (l1_0 : List (List Int)) (A1_1 : Option Addr) (c1_1 : Nat) (l1_1 : List (SimplWindow)) (A1_2 : Option Addr) (c1_2 : Nat) (l1_2 : List Bool) (w : World) (hr0_0 : Kd.C (Kd.slice 5 (Kd.int .u8)) w A0_0 l0_0.length l0_0) (hc0_0 : l0_0.length ≤ c0_0) (hr0_1 : Kd.C kimplWindow w A0_1 l0_1.length l0_1) (hc0_1 : l0_1.length ≤ c0_1) (hr0_2 : Kd.C Kd.bool w A0_2 l0_2.length l0_2) (hc0_2 : l0_2.length ≤ c0_2) (hr1_0 : Kd.C (Kd.slice 5 (Kd.int .u8)) w A1_0 l1_0.length l1_0) (hc1_0 : l1_0.length ≤ c1_0) (hr1_1 : Kd.C kimplWindow w A1_1 l1_1.length l1_1) (hc1_1 : l1_1.length ≤ c1_1) (hr1_2 : Kd.C Kd.bool w A1_2 l1_2.length l1_2) (hc1_2 : l1_2.length ≤ c1_2) (H1 : ∃ k, slices_Equal_bool_bool.f k l0_2 l1_2 = some false) :
    Calls Try.prog 110 #[.agg #[.slice A0_0 l0_0.length c0_0, .slice A0_1 l0_1.length c0_1, .slice A0_2 l0_2.length c0_2], .agg #[.slice A1_0 l1_0.length c1_0, .slice A1_1 l1_1.length c1_1, .slice A1_2 l1_2.length c1_2]] w fun e w' => e = .returned (.bool false) ∧ Below w.heap.size w w' := by
  have HR0_0 := Aside0.mk hr0_0; have HC0_0 := Aside0.mk hc0_0; clear hr0_0 hc0_0
  have HR0_1 := Aside0.mk hr0_1; have HC0_1 := Aside0.mk hc0_1; clear hr0_1 hc0_1
  have HR0_2 := Aside0.mk hr0_2; have HC0_2 := Aside0.mk hc0_2; clear hr0_2 hc0_2
  have HR1_0 := Aside0.mk hr1_0; have HC1_0 := Aside0.mk hc1_0; clear hr1_0 hc1_0
  have HR1_1 := Aside0.mk hr1_1; have HC1_1 := Aside0.mk hc1_1; clear hr1_1 hc1_1
  have HR1_2 := Aside0.mk hr1_2; have HC1_2 := Aside0.mk hc1_2; clear hr1_2 hc1_2
  obtain ⟨k, H1_⟩ := H1; have H1 := Aside0.mk H1_; clear H1_
  have HS0 : Aside0 (Stk w [] w) := ⟨Stk.nil w⟩
  go_enter Try.func110, Try.ntmps110
  refine reg (aF := ?_) (nw := ?_) [evB 0 2 [] 60 (fun s => #[.slice A0_0 l0_0.length c0_0, .slice A0_1 l0_1.length c0_1, .slice A0_2 l0_2.length c0_2]) 9999 [] (fun s => #[.slice A0_0 l0_0.length c0_0, .slice A0_1 l0_1.length c0_1, .slice A0_2 l0_2.length c0_2]), evB 1 3 [] 60 (fun s => #[.slice A1_0 l1_0.length c1_0, .slice A1_1 l1_1.length c1_1, .slice A1_2 l1_2.length c1_2]) 9999 [] (fun s => #[.slice A1_0 l1_0.length c1_0, .slice A1_1 l1_1.length c1_1, .slice A1_2 l1_2.length c1_2]), evP 2 4 [] (fun s => .bool false)] [] [] false 3 rfl rfl (by kernel_rfl) rfl (mf0) ?aF ?nw HS0.out ?hs ?_
  rotate_left 2
  case aF => intro s; simp only [putE, EvT.val, Act.put, setIfInBounds_toArray, set_cons_zero, set_cons_succ]; rfl
  case nw => intro s; simp only [thA, bsA, List.nil_append, List.cons_append, List.append_nil, if_true, if_false, Nat.reduceLT, set_cons_zero, set_cons_succ]; rfl
  case hs => exact ⟨bv rfl (fun s w => by go_simp; try rfl), bv rfl (fun s w => by go_simp; try rfl), pu rfl, trivial⟩
  intro s1 w1 h; have HS1 := Aside0.mk h; clear h HS0
  refine tl0 ?_
  refine reg0 (aF := ?_) [evP 0 5 [] (fun s => .pointer (some ⟨(s1 0).lo, 2, none⟩)), evL 1 6 [] (fun s => .slice A0_2 l0_2.length c0_2), evP 2 7 [] (fun s => .pointer (some ⟨(s1 1).lo, 2, none⟩)), evL 3 8 [] (fun s => .slice A1_2 l1_2.length c1_2), evC 4 (some 9) [] (fun s x => .bool false) (fun s x => []), evP 5 10 [] (fun s => .bool false), evP 6 11 [] (fun s => undef), evP 7 12 [] (fun s => undef), evP 8 13 [] (fun s => undef), evP 9 14 [] (fun s => undef), evP 10 15 [] (fun s => undef), evP 11 16 [] (fun s => .bool false)] [12] true 13 rfl rfl (by kernel_rfl) rfl (fun _ => rfl) ?aF HS1.out ?hs ?_
  rotate_left 1
  case aF => intro s; simp only [putE, EvT.val, Act.put, setIfInBounds_toArray, set_cons_zero, set_cons_succ]; rfl
  case hs => exact ⟨pu rfl (hr := fun s w => by go_simp; try rfl), ld rfl 0 (fun s => rfl) (fun s w h => by have h0 := h 0 _ rfl; have h1 := h 1 _ rfl; have h2 := h 2 _ rfl; clear h; go_simp; try rfl), pu rfl (hr := fun s w => by go_simp; try rfl), ld rfl 1 (fun s => rfl) (fun s w h => by have h0 := h 0 _ rfl; have h1 := h 1 _ rfl; have h2 := h 2 _ rfl; clear h; go_simp; try rfl), cl rfl (fun s => #[.slice A0_2 l0_2.length c0_2, .slice A1_2 l1_2.length c1_2]) Try.func145 (fun s w1 h => (slices_Equal_bool_bool.calls _ _ _ _ _ _ _ _ _ (Kd.C_below HR0_2.out h.hb) HC0_2.out (Kd.C_below HR1_2.out h.hb) HC1_2.out H1.out).mono (by rintro e w2 ⟨rfl, hd⟩; exact fin0 hd.below)), pu rfl, pf rfl, pf rfl, pf rfl, pf rfl, pf rfl, pu rfl, trivial⟩
  intro s2 w2 h; have HS2 := Aside0.mk h; clear h HS1
  refine tlP (v := .bool false) 4 rfl ?_
  simp only [Act.put, setIfInBounds_toArray, set_cons_zero, set_cons_succ]
  refine tl0 ?_
  refine wp_ret ?_
  go_ret
  exact ⟨by first | rfl | simp, HS2.out.hb⟩
set_option maxHeartbeats 8000000 in
set_option maxRecDepth 100000 in
theorem impl_showsSame_w1 (A0_0 : Option Addr) (c0_0 : Nat) (l0_0 : List (List Int)) (A0_1 : Option Addr) (c0_1 : Nat) (l0_1 : List (SimplWindow)) (A0_2 : Option Addr) (c0_2 : Nat) (l0_2 : List Bool) (A1_0 : Option Addr) (c1_0 : Nat) (l1_0 : List (List Int)) (A1_1 : Option Addr) (c1_1 : Nat) (l1_1 : List (SimplWindow)) (A1_2 : Option Addr) (c1_2 : Nat) (l1_2 : List Bool) (r2_0 : List (List Int)) (r3_0 : List (List Int)) (w : World) (hr0_0 : Kd.C (Kd.slice 5 (Kd.int .u8)) w A0_0 l0_0.length l0_0) (hc0_0 : l0_0.length ≤ c0_0) (hr0_1 : Kd.C kimplWindow w A0_1 l0_1.length l0_1) (hc0_1 : l0_1.length ≤ c0_1) (hr0_2 : Kd.C Kd.bool w A0_2 l0_2.length l0_2) (hc0_2 : l0_2.length ≤ c0_2) (hr1_0 : Kd.C (Kd.slice 5 (Kd.int .u8)) w A1_0 l1_0.length l1_0) (hc1_0 : l1_0.length ≤ c1_0) (hr1_1 : Kd.C kimplWindow w A1_1 l1_1.length l1_1) (hc1_1 : l1_1.length ≤ c1_1) (hr1_2 : Kd.C Kd.bool w A1_2 l1_2.length l1_2) (hc1_2 : l1_2.length ≤ c1_2) (H1 : ∃ k, slices_Equal_bool_bool.f k l0_2 l1_2 = some true) (H2 : ∃ k, impl_Machine_shown.f k l0_0 l0_1 l0_2 = some r2_0) (H3 : ∃ k, impl_Machine_shown.f k l1_0 l1_1 l1_2 = some r3_0) (H4 : eqFunc_rows.f r2_0 r3_0 = some false) :
    Calls Try.prog 110 #[.agg #[.slice A0_0 l0_0.length c0_0, .slice A0_1 l0_1.length c0_1, .slice A0_2 l0_2.length c0_2], .agg #[.slice A1_0 l1_0.length c1_0, .slice A1_1 l1_1.length c1_1, .slice A1_2 l1_2.length c1_2]] w fun e w' => e = .returned (.bool false) ∧ Below w.heap.size w w' := by
  have HR0_0 := Aside0.mk hr0_0; have HC0_0 := Aside0.mk hc0_0; clear hr0_0 hc0_0
  have HR0_1 := Aside0.mk hr0_1; have HC0_1 := Aside0.mk hc0_1; clear hr0_1 hc0_1
  have HR0_2 := Aside0.mk hr0_2; have HC0_2 := Aside0.mk hc0_2; clear hr0_2 hc0_2
  have HR1_0 := Aside0.mk hr1_0; have HC1_0 := Aside0.mk hc1_0; clear hr1_0 hc1_0
  have HR1_1 := Aside0.mk hr1_1; have HC1_1 := Aside0.mk hc1_1; clear hr1_1 hc1_1
  have HR1_2 := Aside0.mk hr1_2; have HC1_2 := Aside0.mk hc1_2; clear hr1_2 hc1_2
  obtain ⟨k, H1_⟩ := H1; have H1 := Aside0.mk H1_; clear H1_
  obtain ⟨k, H2_⟩ := H2; have H2 := Aside0.mk H2_; clear H2_
  obtain ⟨k, H3_⟩ := H3; have H3 := Aside0.mk H3_; clear H3_
  have H4_ := Aside0.mk H4; clear H4; have H4 := H4_; clear H4_
  have HS0 : Aside0 (Stk w [] w) := ⟨Stk.nil w⟩
  go_enter Try.func110, Try.ntmps110
  refine reg (aF := ?_) (nw := ?_) [evB 0 2 [] 60 (fun s => #[.slice A0_0 l0_0.length c0_0, .slice A0_1 l0_1.length c0_1, .slice A0_2 l0_2.length c0_2]) 9999 [] (fun s => #[.slice A0_0 l0_0.length c0_0, .slice A0_1 l0_1.length c0_1, .slice A0_2 l0_2.length c0_2]), evB 1 3 [] 60 (fun s => #[.slice A1_0 l1_0.length c1_0, .slice A1_1 l1_1.length c1_1, .slice A1_2 l1_2.length c1_2]) 9999 [] (fun s => #[.slice A1_0 l1_0.length c1_0, .slice A1_1 l1_1.length c1_1, .slice A1_2 l1_2.length c1_2]), evP 2 4 [] (fun s => .bool false)] [] [] false 3 rfl rfl (by kernel_rfl) rfl (mf0) ?aF ?nw HS0.out ?hs ?_
  rotate_left 2
  case aF => intro s; simp only [putE, EvT.val, Act.put, setIfInBounds_toArray, set_cons_zero, set_cons_succ]; rfl
  case nw => intro s; simp only [thA, bsA, List.nil_append, List.cons_append, List.append_nil, if_true, if_false, Nat.reduceLT, set_cons_zero, set_cons_succ]; rfl
  case hs => exact ⟨bv rfl (fun s w => by go_simp; try rfl), bv rfl (fun s w => by go_simp; try rfl), pu rfl, trivial⟩
  intro s1 w1 h; have HS1 := Aside0.mk h; clear h HS0
  refine tl0 ?_
  refine reg (aF := ?_) (nw := ?_) [evP 0 5 [] (fun s => .pointer (some ⟨(s1 0).lo, 2, none⟩)), evL 1 6 [] (fun s => .slice A0_2 l0_2.length c0_2), evP 2 7 [] (fun s => .pointer (some ⟨(s1 1).lo, 2, none⟩)), evL 3 8 [] (fun s => .slice A1_2 l1_2.length c1_2), evC 4 (some 9) [] (fun s x => .bool true) (fun s x => []), evP 5 10 [] (fun s => .bool true), evL 6 11 [] (fun s => .agg #[.slice A0_0 l0_0.length c0_0, .slice A0_1 l0_1.length c0_1, .slice A0_2 l0_2.length c0_2]), evC 7 (some 12) [] (fun s x => .slice x.A r2_0.length x.c) (fun s x => [rowS (Kd.slice 5 (Kd.int .u8)) 119 w x.lo x.hi x.A x.c r2_0]), evL 8 13 [] (fun s => .agg #[.slice A1_0 l1_0.length c1_0, .slice A1_1 l1_1.length c1_1, .slice A1_2 l1_2.length c1_2]), evC 9 (some 14) [] (fun s x => .slice x.A r3_0.length x.c) (fun s x => [rowS (Kd.slice 5 (Kd.int .u8)) 119 w x.lo x.hi x.A x.c r3_0]), evC 10 (some 15) [7, 9] (fun s x => .bool false) (fun s x => []), evP 11 16 [] (fun s => .bool false)] [12] [] true 13 rfl rfl (by kernel_rfl) rfl (mf0) ?aF ?nw HS1.out ?hs ?_
  rotate_left 2
  case aF => intro s; simp only [putE, EvT.val, Act.put, setIfInBounds_toArray, set_cons_zero, set_cons_succ]; rfl
  case nw => intro s; simp only [thA, bsA, List.nil_append, List.cons_append, List.append_nil, if_true, if_false, Nat.reduceLT, set_cons_zero, set_cons_succ]; rfl
  case hs => exact ⟨pu rfl (hr := fun s w => by go_simp; try rfl), ld rfl 0 (fun s => rfl) (fun s w h => by have h0 := h 0 _ rfl; have h1 := h 1 _ rfl; have h2 := h 2 _ rfl; clear h; go_simp; try rfl), pu rfl (hr := fun s w => by go_simp; try rfl), ld rfl 1 (fun s => rfl) (fun s w h => by have h0 := h 0 _ rfl; have h1 := h 1 _ rfl; have h2 := h 2 _ rfl; clear h; go_simp; try rfl), cl rfl (fun s => #[.slice A0_2 l0_2.length c0_2, .slice A1_2 l1_2.length c1_2]) Try.func145 (fun s w1 h => (slices_Equal_bool_bool.calls _ _ _ _ _ _ _ _ _ (Kd.C_below HR0_2.out h.hb) HC0_2.out (Kd.C_below HR1_2.out h.hb) HC1_2.out H1.out).mono (by rintro e w2 ⟨rfl, hd⟩; exact fin0 hd.below)), pu rfl, ld rfl 0 (fun s => rfl) (fun s w h => by have h0 := h 0 _ rfl; have h1 := h 1 _ rfl; have h2 := h 2 _ rfl; clear h; go_simp; try rfl), cl rfl (fun s => #[.agg #[.slice A0_0 l0_0.length c0_0, .slice A0_1 l0_1.length c0_1, .slice A0_2 l0_2.length c0_2]]) Try.func112 (fun s w1 h => (impl_Machine_shown.calls _ _ _ _ _ _ _ _ _ _ _ _ (Kd.C_below HR0_0.out h.hb) HC0_0.out (Kd.C_below HR0_1.out h.hb) HC0_1.out (Kd.C_below HR0_2.out h.hb) HC0_2.out H2.out).mono (by rintro e w2 ⟨v0_, rfl, ho0, hb⟩; obtain ⟨x, rfl, hx⟩ := fin_S ho0 hb h.hb.size; exact ⟨x, rfl, hx⟩)), ld rfl 1 (fun s => rfl) (fun s w h => by have h0 := h 0 _ rfl; have h1 := h 1 _ rfl; have h2 := h 2 _ rfl; clear h; go_simp; try rfl), cl rfl (fun s => #[.agg #[.slice A1_0 l1_0.length c1_0, .slice A1_1 l1_1.length c1_1, .slice A1_2 l1_2.length c1_2]]) Try.func112 (fun s w1 h => (impl_Machine_shown.calls _ _ _ _ _ _ _ _ _ _ _ _ (Kd.C_below HR1_0.out h.hb) HC1_0.out (Kd.C_below HR1_1.out h.hb) HC1_1.out (Kd.C_below HR1_2.out h.hb) HC1_2.out H3.out).mono (by rintro e w2 ⟨v0_, rfl, ho0, hb⟩; obtain ⟨x, rfl, hx⟩ := fin_S ho0 hb h.hb.size; exact ⟨x, rfl, hx⟩)), cl rfl (fun s => #[.slice (s 7).A r2_0.length (s 7).c, .slice (s 9).A r3_0.length (s 9).c, .func (.func 147) #[] #[]]) Try.func146 (fun s w1 h => (eqFunc_rows.calls _ _ _ _ _ _ _ _ (Kd.S_reads' (h.get 0 rfl)).2.2 (Kd.S_reads' (h.get 0 rfl)).2.1 (Kd.S_reads' (h.get 1 rfl)).2.2 (Kd.S_reads' (h.get 1 rfl)).2.1 H4.out).mono (by rintro e w2 ⟨rfl, hb⟩; exact fin0 hb)), pu rfl, trivial⟩
  intro s2 w2 h; have HS2 := Aside0.mk h; clear h HS1
  refine tlP (v := .bool false) 4 rfl ?_
  simp only [Act.put, setIfInBounds_toArray, set_cons_zero, set_cons_succ]
  refine tl0 ?_
  refine wp_ret ?_
  go_ret
  exact ⟨by first | rfl | simp, HS2.out.hb⟩
set_option maxHeartbeats 8000000 in
set_option maxRecDepth 100000 in
theorem impl_showsSame_w2 (A0_0 : Option Addr) (c0_0 : Nat) (l0_0 : List (List Int)) (A0_1 : Option Addr) (c0_1 : Nat) (l0_1 : List (SimplWindow)) (A0_2 : Option Addr) (c0_2 : Nat) (l0_2 : List Bool) (A1_0 : Option Addr) (c1_0 : Nat) (l1_0 : List (List Int)) (A1_1 : Option Addr) (c1_1 : Nat) (l1_1 : List (SimplWindow)) (A1_2 : Option Addr) (c1_2 : Nat) (l1_2 : List Bool) (r2_0 : List (List Int)) (r3_0 : List (List Int)) (w : World) (hr0_0 : Kd.C (Kd.slice 5 (Kd.int .u8)) w A0_0 l0_0.length l0_0) (hc0_0 : l0_0.length ≤ c0_0) (hr0_1 : Kd.C kimplWindow w A0_1 l0_1.length l0_1) (hc0_1 : l0_1.length ≤ c0_1) (hr0_2 : Kd.C Kd.bool w A0_2 l0_2.length l0_2) (hc0_2 : l0_2.length ≤ c0_2) (hr1_0 : Kd.C (Kd.slice 5 (Kd.int .u8)) w A1_0 l1_0.length l1_0) (hc1_0 : l1_0.length ≤ c1_0) (hr1_1 : Kd.C kimplWindow w A1_1 l1_1.length l1_1) (hc1_1 : l1_1.length ≤ c1_1) (hr1_2 : Kd.C Kd.bool w A1_2 l1_2.length l1_2) (hc1_2 : l1_2.length ≤ c1_2) (H1 : ∃ k, slices_Equal_bool_bool.f k l0_2 l1_2 = some true) (H2 : ∃ k, impl_Machine_shown.f k l0_0 l0_1 l0_2 = some r2_0) (H3 : ∃ k, impl_Machine_shown.f k l1_0 l1_1 l1_2 = some r3_0) (H4 : eqFunc_rows.f r2_0 r3_0 = some true) :
    Calls Try.prog 110 #[.agg #[.slice A0_0 l0_0.length c0_0, .slice A0_1 l0_1.length c0_1, .slice A0_2 l0_2.length c0_2], .agg #[.slice A1_0 l1_0.length c1_0, .slice A1_1 l1_1.length c1_1, .slice A1_2 l1_2.length c1_2]] w fun e w' => e = .returned (.bool true) ∧ Below w.heap.size w w' := by
  have HR0_0 := Aside0.mk hr0_0; have HC0_0 := Aside0.mk hc0_0; clear hr0_0 hc0_0
  have HR0_1 := Aside0.mk hr0_1; have HC0_1 := Aside0.mk hc0_1; clear hr0_1 hc0_1
  have HR0_2 := Aside0.mk hr0_2; have HC0_2 := Aside0.mk hc0_2; clear hr0_2 hc0_2
  have HR1_0 := Aside0.mk hr1_0; have HC1_0 := Aside0.mk hc1_0; clear hr1_0 hc1_0
  have HR1_1 := Aside0.mk hr1_1; have HC1_1 := Aside0.mk hc1_1; clear hr1_1 hc1_1
  have HR1_2 := Aside0.mk hr1_2; have HC1_2 := Aside0.mk hc1_2; clear hr1_2 hc1_2
  obtain ⟨k, H1_⟩ := H1; have H1 := Aside0.mk H1_; clear H1_
  obtain ⟨k, H2_⟩ := H2; have H2 := Aside0.mk H2_; clear H2_
  obtain ⟨k, H3_⟩ := H3; have H3 := Aside0.mk H3_; clear H3_
  have H4_ := Aside0.mk H4; clear H4; have H4 := H4_; clear H4_
  have HS0 : Aside0 (Stk w [] w) := ⟨Stk.nil w⟩
  go_enter Try.func110, Try.ntmps110
  refine reg (aF := ?_) (nw := ?_) [evB 0 2 [] 60 (fun s => #[.slice A0_0 l0_0.length c0_0, .slice A0_1 l0_1.length c0_1, .slice A0_2 l0_2.length c0_2]) 9999 [] (fun s => #[.slice A0_0 l0_0.length c0_0, .slice A0_1 l0_1.length c0_1, .slice A0_2 l0_2.length c0_2]), evB 1 3 [] 60 (fun s => #[.slice A1_0 l1_0.length c1_0, .slice A1_1 l1_1.length c1_1, .slice A1_2 l1_2.length c1_2]) 9999 [] (fun s => #[.slice A1_0 l1_0.length c1_0, .slice A1_1 l1_1.length c1_1, .slice A1_2 l1_2.length c1_2]), evP 2 4 [] (fun s => .bool false)] [] [] false 3 rfl rfl (by kernel_rfl) rfl (mf0) ?aF ?nw HS0.out ?hs ?_
  rotate_left 2
  case aF => intro s; simp only [putE, EvT.val, Act.put, setIfInBounds_toArray, set_cons_zero, set_cons_succ]; rfl
  case nw => intro s; simp only [thA, bsA, List.nil_append, List.cons_append, List.append_nil, if_true, if_false, Nat.reduceLT, set_cons_zero, set_cons_succ]; rfl
  case hs => exact ⟨bv rfl (fun s w => by go_simp; try rfl), bv rfl (fun s w => by go_simp; try rfl), pu rfl, trivial⟩
  intro s1 w1 h; have HS1 := Aside0.mk h; clear h HS0
  refine tl0 ?_
  refine reg (aF := ?_) (nw := ?_) [evP 0 5 [] (fun s => .pointer (some ⟨(s1 0).lo, 2, none⟩)), evL 1 6 [] (fun s => .slice A0_2 l0_2.length c0_2), evP 2 7 [] (fun s => .pointer (some ⟨(s1 1).lo, 2, none⟩)), evL 3 8 [] (fun s => .slice A1_2 l1_2.length c1_2), evC 4 (some 9) [] (fun s x => .bool true) (fun s x => []), evP 5 10 [] (fun s => .bool true), evL 6 11 [] (fun s => .agg #[.slice A0_0 l0_0.length c0_0, .slice A0_1 l0_1.length c0_1, .slice A0_2 l0_2.length c0_2]), evC 7 (some 12) [] (fun s x => .slice x.A r2_0.length x.c) (fun s x => [rowS (Kd.slice 5 (Kd.int .u8)) 119 w x.lo x.hi x.A x.c r2_0]), evL 8 13 [] (fun s => .agg #[.slice A1_0 l1_0.length c1_0, .slice A1_1 l1_1.length c1_1, .slice A1_2 l1_2.length c1_2]), evC 9 (some 14) [] (fun s x => .slice x.A r3_0.length x.c) (fun s x => [rowS (Kd.slice 5 (Kd.int .u8)) 119 w x.lo x.hi x.A x.c r3_0]), evC 10 (some 15) [7, 9] (fun s x => .bool true) (fun s x => []), evP 11 16 [] (fun s => .bool true)] [12] [] true 13 rfl rfl (by kernel_rfl) rfl (mf0) ?aF ?nw HS1.out ?hs ?_
  rotate_left 2
  case aF => intro s; simp only [putE, EvT.val, Act.put, setIfInBounds_toArray, set_cons_zero, set_cons_succ]; rfl
  case nw => intro s; simp only [thA, bsA, List.nil_append, List.cons_append, List.append_nil, if_true, if_false, Nat.reduceLT, set_cons_zero, set_cons_succ]; rfl
  case hs => exact ⟨pu rfl (hr := fun s w => by go_simp; try rfl), ld rfl 0 (fun s => rfl) (fun s w h => by have h0 := h 0 _ rfl; have h1 := h 1 _ rfl; have h2 := h 2 _ rfl; clear h; go_simp; try rfl), pu rfl (hr := fun s w => by go_simp; try rfl), ld rfl 1 (fun s => rfl) (fun s w h => by have h0 := h 0 _ rfl; have h1 := h 1 _ rfl; have h2 := h 2 _ rfl; clear h; go_simp; try rfl), cl rfl (fun s => #[.slice A0_2 l0_2.length c0_2, .slice A1_2 l1_2.length c1_2]) Try.func145 (fun s w1 h => (slices_Equal_bool_bool.calls _ _ _ _ _ _ _ _ _ (Kd.C_below HR0_2.out h.hb) HC0_2.out (Kd.C_below HR1_2.out h.hb) HC1_2.out H1.out).mono (by rintro e w2 ⟨rfl, hd⟩; exact fin0 hd.below)), pu rfl, ld rfl 0 (fun s => rfl) (fun s w h => by have h0 := h 0 _ rfl; have h1 := h 1 _ rfl; have h2 := h 2 _ rfl; clear h; go_simp; try rfl), cl rfl (fun s => #[.agg #[.slice A0_0 l0_0.length c0_0, .slice A0_1 l0_1.length c0_1, .slice A0_2 l0_2.length c0_2]]) Try.func112 (fun s w1 h => (impl_Machine_shown.calls _ _ _ _ _ _ _ _ _ _ _ _ (Kd.C_below HR0_0.out h.hb) HC0_0.out (Kd.C_below HR0_1.out h.hb) HC0_1.out (Kd.C_below HR0_2.out h.hb) HC0_2.out H2.out).mono (by rintro e w2 ⟨v0_, rfl, ho0, hb⟩; obtain ⟨x, rfl, hx⟩ := fin_S ho0 hb h.hb.size; exact ⟨x, rfl, hx⟩)), ld rfl 1 (fun s => rfl) (fun s w h => by have h0 := h 0 _ rfl; have h1 := h 1 _ rfl; have h2 := h 2 _ rfl; clear h; go_simp; try rfl), cl rfl (fun s => #[.agg #[.slice A1_0 l1_0.length c1_0, .slice A1_1 l1_1.length c1_1, .slice A1_2 l1_2.length c1_2]]) Try.func112 (fun s w1 h => (impl_Machine_shown.calls _ _ _ _ _ _ _ _ _ _ _ _ (Kd.C_below HR1_0.out h.hb) HC1_0.out (Kd.C_below HR1_1.out h.hb) HC1_1.out (Kd.C_below HR1_2.out h.hb) HC1_2.out H3.out).mono (by rintro e w2 ⟨v0_, rfl, ho0, hb⟩; obtain ⟨x, rfl, hx⟩ := fin_S ho0 hb h.hb.size; exact ⟨x, rfl, hx⟩)), cl rfl (fun s => #[.slice (s 7).A r2_0.length (s 7).c, .slice (s 9).A r3_0.length (s 9).c, .func (.func 147) #[] #[]]) Try.func146 (fun s w1 h => (eqFunc_rows.calls _ _ _ _ _ _ _ _ (Kd.S_reads' (h.get 0 rfl)).2.2 (Kd.S_reads' (h.get 0 rfl)).2.1 (Kd.S_reads' (h.get 1 rfl)).2.2 (Kd.S_reads' (h.get 1 rfl)).2.1 H4.out).mono (by rintro e w2 ⟨rfl, hb⟩; exact fin0 hb)), pu rfl, trivial⟩
  intro s2 w2 h; have HS2 := Aside0.mk h; clear h HS1
  refine tlP (v := .bool true) 4 rfl ?_
  simp only [Act.put, setIfInBounds_toArray, set_cons_zero, set_cons_succ]
  refine tl0 ?_
  refine wp_ret ?_
  go_ret
  exact ⟨by first | rfl | simp, HS2.out.hb⟩
end Go.Proofs.Ytoomjghabiojkaa.P


namespace Go.Proofs.Ytoomjghabiojkaa.P
open Go.RowKit Go.Proofs.YtoomjghabiojkaaW.PrintWords Go.Proofs.YtoomjghabiojkaaW.PrintLast Go.Proofs.YtoomjghabiojkaaW.PrintMore
attribute [local go_sem] max2_int min2_int max_two min_two max_three min_three max_four min_four   -- for this text's walks alone
set_option linter.unusedVariables false
set_option linter.unusedSimpArgs false

def laws_toWindow.f (a0_0 : Int) (a0_1 : Int) (a0_2 : Int) (a0_3 : Int) : Option (Int × Int × Int × Int) := some (a0_0, a0_1, a0_2, a0_3)
set_option maxHeartbeats 8000000 in
set_option maxRecDepth 100000 in
theorem laws_toWindow.calls (a0_0 : Int) (a0_1 : Int) (a0_2 : Int) (a0_3 : Int) (r1 : Int) (r2 : Int) (r3 : Int) (r4 : Int) (w : World) (h : laws_toWindow.f a0_0 a0_1 a0_2 a0_3 = some (r1, r2, r3, r4)) :
    Calls Try.prog 28 #[.agg #[.int .i64 a0_0, .int .i64 a0_1, .int .i64 a0_2, .int .i64 a0_3]] w fun e w' => e = .returned (.agg #[.int .i64 r1, .int .i64 r2, .int .i64 r3, .int .i64 r4]) ∧ Below w.heap.size w w' := by
  have hu47 := Try.underlying47
  have hu48 := Try.underlying48
  have HB := Aside0.mk (Below.refl w.heap.size w)
  have H : (some (a0_0, a0_1, a0_2, a0_3)) = some (r1, r2, r3, r4) := h
  clear h
  simp only [Option.some.injEq, Prod.mk.injEq] at H
  obtain ⟨rfl, rfl, rfl, rfl⟩ := H
  go_enter Try.func28, Try.ntmps28
  go_wp2_with (first | ((with_reducible refine gate_dst (N := 1) rfl ?_); refine box_event ?hg (N := 1) ?hd (cs := #[.int .i64 a0_0, .int .i64 a0_1, .int .i64 a0_2, .int .i64 a0_3]) (t := 47) ?hr ?_; (case hd => rfl); (case hg => rfl); (case hr => first | (go_simp; done) | (go_simp; rfl)); intro gb284 hg w2 hbox hb; have n0_ := Aside0.mk (below_step (by repeat (first | (with_reducible first | exact HB.out | apply below_alloc | apply pw_below_drewN | apply below_drew1) | exact HB.out)) hb); have n1_ := Aside0.mk (hbox); have n2_ := Aside0.mk ((by rw [hg]; exact (below_size (by repeat (first | (with_reducible first | exact HB.out | apply below_alloc | apply pw_below_drewN | apply below_drew1) | exact HB.out))) : w.heap.size ≤ gb284)); have n3_ := Aside0.mk ((by rw [hg]; exact (below_size (by repeat (first | (with_reducible first | exact HB.out | apply below_alloc | apply pw_below_drewN | apply below_drew1) | exact HB.out))) : w.heap.size ≤ gb284)); clear HB; have HB := n0_; have BK284 := n1_; have GW284 := n2_; have GE284 := n3_; clear n0_ n1_ n2_ n3_; clear hb hbox hg) | ((with_reducible refine gate_dst (N := 2) rfl ?_); refine box_event ?hg (N := 2) ?hd (cs := #[.int .i64 0, .int .i64 0, .int .i64 0, .int .i64 0]) (t := 48) ?hr ?_; (case hd => rfl); (case hg => rfl); (case hr => first | (go_simp; done) | (go_simp; rfl)); intro gb285 hg w3 hbox hb; have n0_ := Aside0.mk (blk_below (g := gb284) (o := .cells #[.int .i64 a0_0, .int .i64 a0_1, .int .i64 a0_2, .int .i64 a0_3] 47 (0, 0)) (by (with_reducible repeat (first | refine blk_drewN ?_ _ | refine blk_drew ?_ | refine blk_alloc ?_ _)); exact BK284.out) hb); have n1_ := Aside0.mk (below_step (by repeat (first | (with_reducible first | exact HB.out | apply below_alloc | apply pw_below_drewN | apply below_drew1 | refine below_set ?_ GE284.out) | exact HB.out)) hb); have n2_ := Aside0.mk (hbox); have n3_ := Aside0.mk ((by rw [hg]; exact (below_size (by repeat (first | (with_reducible first | exact HB.out | apply below_alloc | apply pw_below_drewN | apply below_drew1 | refine below_set ?_ GE284.out) | exact HB.out))) : w.heap.size ≤ gb285)); have n4_ := Aside0.mk ((by rw [hg]; exact (below_size (by repeat (first | (with_reducible first | exact HB.out | apply below_alloc | apply pw_below_drewN | apply below_drew1 | refine below_set ?_ GE284.out) | exact HB.out))) : w.heap.size ≤ gb285)); have n5_ := Aside0.mk ((by rw [hg]; exact Nat.ne_of_lt (blk_lt (g := gb284) (o := .cells #[.int .i64 a0_0, .int .i64 a0_1, .int .i64 a0_2, .int .i64 a0_3] 47 (0, 0)) (by (with_reducible repeat (first | refine blk_drewN ?_ _ | refine blk_drew ?_ | refine blk_alloc ?_ _)); exact BK284.out)) : gb284 ≠ gb285)); have n6_ := Aside0.mk ((by rw [hg]; exact Nat.ne_of_gt (blk_lt (g := gb284) (o := .cells #[.int .i64 a0_0, .int .i64 a0_1, .int .i64 a0_2, .int .i64 a0_3] 47 (0, 0)) (by (with_reducible repeat (first | refine blk_drewN ?_ _ | refine blk_drew ?_ | refine blk_alloc ?_ _)); exact BK284.out)) : gb285 ≠ gb284)); clear BK284; clear HB; have BK284 := n0_; have HB := n1_; have BK285 := n2_; have GW285 := n3_; have GE285 := n4_; have NB284_285 := n5_; have NB285_284 := n6_; clear n0_ n1_ n2_ n3_ n4_ n5_ n6_; clear hb hbox hg) | ((with_reducible refine gate_dst (N := 3) rfl ?_); refine box_event ?hg (N := 3) ?hd (cs := #[.int .i64 0, .int .i64 0, .int .i64 0, .int .i64 0]) (t := 48) ?hr ?_; (case hd => rfl); (case hg => rfl); (case hr => first | (go_simp; done) | (go_simp; rfl)); intro gb286 hg w4 hbox hb; have n0_ := Aside0.mk (blk_below (g := gb284) (o := .cells #[.int .i64 a0_0, .int .i64 a0_1, .int .i64 a0_2, .int .i64 a0_3] 47 (0, 0)) (by (with_reducible repeat (first | refine blk_drewN ?_ _ | refine blk_drew ?_ | refine blk_alloc ?_ _)); exact BK284.out) hb); have n1_ := Aside0.mk (blk_below (g := gb285) (o := .cells #[.int .i64 0, .int .i64 0, .int .i64 0, .int .i64 0] 48 (0, 0)) (by (with_reducible repeat (first | refine blk_drewN ?_ _ | refine blk_drew ?_ | refine blk_alloc ?_ _)); exact BK285.out) hb); have n2_ := Aside0.mk (below_step (by repeat (first | (with_reducible first | exact HB.out | apply below_alloc | apply pw_below_drewN | apply below_drew1 | refine below_set ?_ GE284.out | refine below_set ?_ GE285.out) | exact HB.out)) hb); have n3_ := Aside0.mk (hbox); have n4_ := Aside0.mk ((by rw [hg]; exact (below_size (by repeat (first | (with_reducible first | exact HB.out | apply below_alloc | apply pw_below_drewN | apply below_drew1 | refine below_set ?_ GE284.out | refine below_set ?_ GE285.out) | exact HB.out))) : w.heap.size ≤ gb286)); have n5_ := Aside0.mk ((by rw [hg]; exact (below_size (by repeat (first | (with_reducible first | exact HB.out | apply below_alloc | apply pw_below_drewN | apply below_drew1 | refine below_set ?_ GE284.out | refine below_set ?_ GE285.out) | exact HB.out))) : w.heap.size ≤ gb286)); have n6_ := Aside0.mk ((by rw [hg]; exact Nat.ne_of_lt (blk_lt (g := gb284) (o := .cells #[.int .i64 a0_0, .int .i64 a0_1, .int .i64 a0_2, .int .i64 a0_3] 47 (0, 0)) (by (with_reducible repeat (first | refine blk_drewN ?_ _ | refine blk_drew ?_ | refine blk_alloc ?_ _)); exact BK284.out)) : gb284 ≠ gb286)); have n7_ := Aside0.mk ((by rw [hg]; exact Nat.ne_of_gt (blk_lt (g := gb284) (o := .cells #[.int .i64 a0_0, .int .i64 a0_1, .int .i64 a0_2, .int .i64 a0_3] 47 (0, 0)) (by (with_reducible repeat (first | refine blk_drewN ?_ _ | refine blk_drew ?_ | refine blk_alloc ?_ _)); exact BK284.out)) : gb286 ≠ gb284)); have n8_ := Aside0.mk ((by rw [hg]; exact Nat.ne_of_lt (blk_lt (g := gb285) (o := .cells #[.int .i64 0, .int .i64 0, .int .i64 0, .int .i64 0] 48 (0, 0)) (by (with_reducible repeat (first | refine blk_drewN ?_ _ | refine blk_drew ?_ | refine blk_alloc ?_ _)); exact BK285.out)) : gb285 ≠ gb286)); have n9_ := Aside0.mk ((by rw [hg]; exact Nat.ne_of_gt (blk_lt (g := gb285) (o := .cells #[.int .i64 0, .int .i64 0, .int .i64 0, .int .i64 0] 48 (0, 0)) (by (with_reducible repeat (first | refine blk_drewN ?_ _ | refine blk_drew ?_ | refine blk_alloc ?_ _)); exact BK285.out)) : gb286 ≠ gb285)); clear BK284; clear BK285; clear HB; have BK284 := n0_; have BK285 := n1_; have HB := n2_; have BK286 := n3_; have GW286 := n4_; have GE286 := n5_; have NB284_286 := n6_; have NB286_284 := n7_; have NB285_286 := n8_; have NB286_285 := n9_; clear n0_ n1_ n2_ n3_ n4_ n5_ n6_ n7_ n8_ n9_; clear hb hbox hg; have hnb5 := NB284_285.out; have hnc5 := NB285_284.out; have hnb6 := NB284_286.out; have hnc6 := NB286_284.out; have hcz7_0 : w4.cell? ⟨gb284, 0, none⟩ = some (.int .i64 a0_0) := (blk_cell BK284.out 0).trans rfl; have hcz7_1 : w4.cell? ⟨gb284, 1, none⟩ = some (.int .i64 a0_1) := (blk_cell BK284.out 1).trans rfl; have hcz7_2 : w4.cell? ⟨gb284, 2, none⟩ = some (.int .i64 a0_2) := (blk_cell BK284.out 2).trans rfl; have hcz7_3 : w4.cell? ⟨gb284, 3, none⟩ = some (.int .i64 a0_3) := (blk_cell BK284.out 3).trans rfl; have hfz7_0 := blk_frozen BK284.out 0; have hfz7_1 := blk_frozen BK284.out 1; have hfz7_2 := blk_frozen BK284.out 2; have hfz7_3 := blk_frozen BK284.out 3; have hnb8 := NB286_285.out; have hnc8 := NB285_286.out; have hcz9_0 : w4.cell? ⟨gb286, 0, none⟩ = some (.int .i64 0) := (blk_cell BK286.out 0).trans rfl; have hcz9_1 : w4.cell? ⟨gb286, 1, none⟩ = some (.int .i64 0) := (blk_cell BK286.out 1).trans rfl; have hcz9_2 : w4.cell? ⟨gb286, 2, none⟩ = some (.int .i64 0) := (blk_cell BK286.out 2).trans rfl; have hcz9_3 : w4.cell? ⟨gb286, 3, none⟩ = some (.int .i64 0) := (blk_cell BK286.out 3).trans rfl; have hfz9_0 := blk_frozen BK286.out 0; have hfz9_1 := blk_frozen BK286.out 1; have hfz9_2 := blk_frozen BK286.out 2; have hfz9_3 := blk_frozen BK286.out 3; have hcz10_0 : w4.cell? ⟨gb285, 0, none⟩ = some (.int .i64 0) := (blk_cell BK285.out 0).trans rfl; have hcz10_1 : w4.cell? ⟨gb285, 1, none⟩ = some (.int .i64 0) := (blk_cell BK285.out 1).trans rfl; have hcz10_2 : w4.cell? ⟨gb285, 2, none⟩ = some (.int .i64 0) := (blk_cell BK285.out 2).trans rfl; have hcz10_3 : w4.cell? ⟨gb285, 3, none⟩ = some (.int .i64 0) := (blk_cell BK285.out 3).trans rfl; have hfz10_0 := blk_frozen BK285.out 0; have hfz10_1 := blk_frozen BK285.out 1; have hfz10_2 := blk_frozen BK285.out 2; have hfz10_3 := blk_frozen BK285.out 3))
  refine bodyPost_ret (results_cell_row rfl _ _ gb285 48 #[.int .i64 a0_0, .int .i64 a0_1, .int .i64 a0_2, .int .i64 a0_3] (0, 0) _ rfl (by (with_reducible repeat (first | refine blk_drewN ?_ _ | refine blk_drew ?_ | refine blk_alloc ?_ _)); refine blk_put (cs := #[.int .i64 a0_0, .int .i64 a0_1, .int .i64 a0_2, .int .i64 0]) ?_ 3 _ rfl; (with_reducible repeat (first | refine blk_drewN ?_ _ | refine blk_drew ?_ | refine blk_alloc ?_ _)); refine blk_put (cs := #[.int .i64 a0_0, .int .i64 a0_1, .int .i64 0, .int .i64 0]) ?_ 2 _ rfl; (with_reducible repeat (first | refine blk_drewN ?_ _ | refine blk_drew ?_ | refine blk_alloc ?_ _)); refine blk_put (cs := #[.int .i64 a0_0, .int .i64 0, .int .i64 0, .int .i64 0]) ?_ 1 _ rfl; (with_reducible repeat (first | refine blk_drewN ?_ _ | refine blk_drew ?_ | refine blk_alloc ?_ _)); refine blk_put (cs := #[.int .i64 0, .int .i64 0, .int .i64 0, .int .i64 0]) ?_ 0 _ rfl; (with_reducible repeat (first | refine blk_drewN ?_ _ | refine blk_drew ?_ | refine blk_alloc ?_ _)); refine blk_far ?_ NB285_286.out _; (with_reducible repeat (first | refine blk_drewN ?_ _ | refine blk_drew ?_ | refine blk_alloc ?_ _)); refine blk_far ?_ NB285_286.out _; (with_reducible repeat (first | refine blk_drewN ?_ _ | refine blk_drew ?_ | refine blk_alloc ?_ _)); refine blk_far ?_ NB285_286.out _; (with_reducible repeat (first | refine blk_drewN ?_ _ | refine blk_drew ?_ | refine blk_alloc ?_ _)); refine blk_far ?_ NB285_286.out _; (with_reducible repeat (first | refine blk_drewN ?_ _ | refine blk_drew ?_ | refine blk_alloc ?_ _)); exact BK285.out) Try.underlying48 rfl (by kernel_rfl)) rfl ?_
  exact ⟨by first | rfl | (simp [errW_none, errW_some] <;> rfl) | (simp [*, errW_none, errW_some] <;> rfl), by repeat (first | (with_reducible first | exact HB.out | apply below_alloc | apply pw_below_drewN | apply below_drew1 | refine below_set ?_ GE284.out | refine below_set ?_ GE285.out | refine below_set ?_ GE286.out) | exact HB.out)⟩

end Go.Proofs.Ytoomjghabiojkaa.P


namespace Go.Proofs.Ytoomjghabiojkaa.P
open Go.RowKit Go.Proofs.YtoomjghabiojkaaW.PrintWords Go.Proofs.YtoomjghabiojkaaW.PrintLast Go.Proofs.YtoomjghabiojkaaW.PrintMore
attribute [local go_sem] max2_int min2_int max_two min_two max_three min_three max_four min_four   -- for this text's walks alone
set_option linter.unusedVariables false
set_option linter.unusedSimpArgs false

def laws_toWindowS.l0 : Nat → List (SlawsWindow) → List (SimplWindow) → Int → Option ((List (SimplWindow)))
  | 0, _, _, _ => none
  | k + 1, x0, x3, x4 => if x4 < (x0.length : Int) then (if 0 ≤ x4 then ((laws_toWindow.f ((rd_TlawsWindow x0 x4).f0) ((rd_TlawsWindow x0 x4).f1) ((rd_TlawsWindow x0 x4).f2) ((rd_TlawsWindow x0 x4).f3)).bind fun bt291 => (if x4 < (x3.length : Int) then (laws_toWindowS.l0 k x0 (x3.set (x4 : Int).toNat (⟨bt291.1, bt291.2.1, bt291.2.2.1, bt291.2.2.2⟩ : SimplWindow)) (wrap64 (x4 + 1))) else (none))) else (none)) else (some x3)
def laws_toWindowS.f (k : Nat) (l0 : List (SlawsWindow)) : Option ((List (SimplWindow))) := if 0 ≤ (l0.length : Int) then (if ((l0.length : Int) : Int).toNat ≤ 8796093022208 then (laws_toWindowS.l0 k l0 (List.replicate ((l0.length : Int) : Int).toNat zimplWindow) 0) else (none)) else (none)
set_option maxHeartbeats 8000000 in
set_option maxRecDepth 100000 in
theorem laws_toWindowS.calls (k : Nat) (A0 : Option Addr) (c0 : Nat) (l0 : List (SlawsWindow)) (r : List (SimplWindow)) (w : World) (hr0 : Kd.C klawsWindow w A0 l0.length l0) (hc0 : l0.length ≤ c0) (h : laws_toWindowS.f k l0 = some r) :
    Calls Try.prog 83 #[.slice A0 l0.length c0] w fun e w' => ∃ v0_ : Value, e = .returned (v0_) ∧ Kd.R kimplWindow 48 w' w.heap.size (fun _ => True) v0_ r ∧ Below w.heap.size w w' := by
  have hu47 := Try.underlying47
  have hu48 := Try.underlying48
  have HR0 := Aside0.mk hr0
  have HC0 := Aside0.mk hc0
  clear hr0 hc0
  have HB := Aside0.mk (Below.refl w.heap.size w)
  have H : (if 0 ≤ (l0.length : Int) then (if ((l0.length : Int) : Int).toNat ≤ 8796093022208 then (laws_toWindowS.l0 k l0 (List.replicate ((l0.length : Int) : Int).toNat zimplWindow) 0) else (none)) else (none)) = some r := h
  clear h
  by_cases c2 : 0 ≤ (l0.length : Int)
  · rw [if_pos c2] at H
    have c2b0 := eq_true c2
    have c2b1 : decide (0 ≤ (l0.length : Int)) = true := decide_eq_true c2
    clear c2
    by_cases c3 : ((l0.length : Int) : Int).toNat ≤ 8796093022208
    · rw [if_pos c3] at H
      have c3b0 := eq_true c3
      have c3b1 : decide (((l0.length : Int) : Int).toNat ≤ 8796093022208) = true := decide_eq_true c3
      clear c3
      obtain ⟨y287, hy287⟩ : ∃ y_ : List (SimplWindow), y_ = (List.replicate ((l0.length : Int) : Int).toNat zimplWindow) := ⟨_, rfl⟩
      replace H : (laws_toWindowS.l0 k l0 y287 0) = some r := by first | (rw [hy287]; with_reducible exact H) | (have H2_ := (Option.bind_some _ _).symm.trans H; rw [hy287]; with_reducible exact H2_) | (have H2_ := (Option.bind_some _ _).symm.trans H; with_reducible exact H2_) | with_reducible exact H | (rw [hy287]; exact H) | exact H
      have Ny287 := Aside0.mk hy287
      clear hy287
      have H' := Aside0.mk H
      clear H
      go_enter Try.func83, Try.ntmps83
      go_wp2_with (first | ((with_reducible refine gate_dst (N := 7) rfl ?_); refine Kd.R_make kimplWindow _ 48 rfl (N := 7) rfl 27 _ _ rfl (l0.length : Int) rfl rfl Try.underlying27 (.agg #[(.int .i64 0), (.int .i64 0), (.int .i64 0), (.int .i64 0)]) 32 info48 rfl (by decide) (by omega) zimplWindow (ok := fun _ => True) (okp := fun _ => True) (kimplWindow_mkM _ _ _ zimplWindow ) (fun _ hk => hk) trivial (of_decide_eq_true (by first | (with_reducible assumption) | assumption)) (Nat.le_trans (Nat.mul_le_mul_right _ (of_decide_eq_true (by first | (with_reducible assumption) | assumption) : (l0.length : Int).toNat ≤ 8796093022208)) (by omega)) (Below.refl _ _) (Nat.le_refl _) ?_; intro v288 w4 ho5 hb hg_ hnew_; clear hg_ hnew_; (first | rw [← Ny287.out] at ho5 | (simp only [Int.reduceToNat] at ho5; rw [← Ny287.out] at ho5)); have n0_ := Aside0.mk (Kd.R_lower ho5 (below_size (by repeat (first | (with_reducible first | exact HB.out | apply below_alloc | apply pw_below_drewN | apply below_drew1) | exact HB.out)))); have n1_ := Aside0.mk (below_step (by repeat (first | (with_reducible first | exact HB.out | apply below_alloc | apply pw_below_drewN | apply below_drew1) | exact HB.out)) hb); clear HB; have HO289 := n0_; have HB := n1_; clear n0_ n1_; clear hb ho5))
      go_loopg [4] k (fun kq v4 w' => ∃ (x3_1 : List (SimplWindow)) (x4_1 : Int), v4 = .int .i64 x4_1 ∧ Aside0 (laws_toWindowS.l0 kq l0 x3_1 x4_1 = some r) ∧ Aside0 (kq ≤ k) ∧ Aside0 (Kd.R kimplWindow 48 w' w.heap.size (fun _ => True) v288 x3_1) ∧ Aside0 (Below w.heap.size w w'))
      case atStart => exact ⟨(y287), (0), (by first | rfl | (simp; done) | (simp [*]; done)), H', ⟨Nat.le_refl _⟩, ⟨by (with_reducible repeat (first | apply Kd.R_alloc | apply Kd.R_drewN | apply Kd.R_drew)); exact HO289.out⟩, ⟨by repeat (first | (with_reducible first | exact HB.out | apply below_alloc | apply pw_below_drewN | apply below_drew1) | exact HB.out)⟩⟩
      case round =>
        clear H'
        try clear c2
        try clear c2b0
        try clear c2b1
        try clear p2
        try clear c3
        try clear c3b0
        try clear c3b1
        obtain ⟨x3_1, x4_1, rfl, HA, HK1, HO_3, HB⟩ := hrel
        cases gk with
        | zero => exact absurd HA.out (by simp [laws_toWindowS.l0])
        | succ k1 =>
          have H := HA.out
          clear HA
          simp only [laws_toWindowS.l0] at H
          by_cases c6 : x4_1 < (l0.length : Int)
          · rw [if_pos c6] at H
            have c6b0 : decide (x4_1 < (l0.length : Int)) = true := decide_eq_true c6
            clear c6
            by_cases c7 : 0 ≤ x4_1
            · rw [if_pos c7] at H
              have c7b0 : decide (0 ≤ x4_1) = true := decide_eq_true c7
              clear c7
              replace H := Option.bind_eq_some_iff.mp H
              obtain ⟨⟨t291, t292, t293, t294⟩, A80, H⟩ := H
              replace H : (if x4_1 < (x3_1.length : Int) then (laws_toWindowS.l0 k1 l0 (x3_1.set (x4_1 : Int).toNat (⟨t291, t292, t293, t294⟩ : SimplWindow)) (wrap64 (x4_1 + 1))) else (none)) = some r := H
              have A8 := Aside0.mk A80
              clear A80
              by_cases c9 : x4_1 < (x3_1.length : Int)
              · rw [if_pos c9] at H
                have c9b0 : decide (x4_1 < (x3_1.length : Int)) = true := decide_eq_true c9
                clear c9
                obtain ⟨y295, hy295⟩ : ∃ y_ : List (SimplWindow), y_ = (x3_1.set (x4_1 : Int).toNat (⟨t291, t292, t293, t294⟩ : SimplWindow)) := ⟨_, rfl⟩
                replace H : (laws_toWindowS.l0 k1 l0 y295 (wrap64 (x4_1 + 1))) = some r := by first | (rw [hy295]; with_reducible exact H) | (have H2_ := (Option.bind_some _ _).symm.trans H; rw [hy295]; with_reducible exact H2_) | (have H2_ := (Option.bind_some _ _).symm.trans H; with_reducible exact H2_) | with_reducible exact H | (rw [hy295]; exact H) | exact H
                have Ny295 := Aside0.mk hy295
                clear hy295
                have H' := Aside0.mk H
                clear H
                have p290 : 0 ≤ (x4_1 : Int) := of_decide_eq_true (by first | (with_reducible assumption) | assumption)
                have q290 : x4_1 < (l0.length : Int) := of_decide_eq_true (by first | (with_reducible assumption) | assumption)
                obtain ⟨ad290, e290, hx290_0, hx290_1, hx290_2, hx290_3⟩ := at_TlawsWindow HR0.out x4_1 p290 q290
                cases e290
                replace hx290_0 := (HB.out.cell (World.block_lt_of_cell? w _ hx290_0)).trans hx290_0
                replace hx290_1 := (HB.out.cell (World.block_lt_of_cell? w _ hx290_1)).trans hx290_1
                replace hx290_2 := (HB.out.cell (World.block_lt_of_cell? w _ hx290_2)).trans hx290_2
                replace hx290_3 := (HB.out.cell (World.block_lt_of_cell? w _ hx290_3)).trans hx290_3
                replace p290 := eq_true p290
                replace q290 := eq_true q290
                go_wp2_with (first | ((with_reducible refine gate_callee (f := 28) rfl ?_); refine goesL_ (some 20) rfl rfl Try.func28 (by kernel_rfl) rfl #[.agg #[.int .i64 ((rd_TlawsWindow l0 x4_1).f0), .int .i64 ((rd_TlawsWindow l0 x4_1).f1), .int .i64 ((rd_TlawsWindow l0 x4_1).f2), .int .i64 ((rd_TlawsWindow l0 x4_1).f3)]] rfl (by (try simp only [List.map_toArray, List.map_cons, List.map_nil]); first | done | rfl | (simp only [List.length_drop, List.length_take]; rfl)) ?_; (with_reducible refine (laws_toWindow.calls ((rd_TlawsWindow l0 x4_1).f0) ((rd_TlawsWindow l0 x4_1).f1) ((rd_TlawsWindow l0 x4_1).f2) ((rd_TlawsWindow l0 x4_1).f3) t291 t292 t293 t294 _ A8.out).mono ?_); rintro e w11 ⟨rfl, hb⟩; refine ⟨_, rfl, ?_⟩; have n0_ := Aside0.mk (Kd.R_below (by (with_reducible repeat (first | apply Kd.R_alloc | apply Kd.R_drewN | apply Kd.R_drew)); exact HO_3.out) hb); have n1_ := Aside0.mk (below_step (by repeat (first | (with_reducible first | exact HB.out | apply below_alloc | apply pw_below_drewN | apply below_drew1) | exact HB.out)) hb); clear HO_3; clear HB; have HO_3 := n0_; have HB := n1_; clear n0_ n1_; (try clear hb); (try clear hb2); (try clear hk); (try clear hi); have p10 : 0 ≤ (x4_1 : Int) := of_decide_eq_true (by first | (with_reducible assumption) | assumption); have q10 : (x4_1 : Int) < ((x3_1.length : Int) : Int) := of_decide_eq_true (by first | (with_reducible assumption) | assumption); obtain ⟨go10, co10, eo10, gb10, gl10, cl10, HG10⟩ := Kd.R_form HO_3.out (by omega); (first | cases eo10 | (injection eo10 with ea_ en_ ec_; (first | subst ea_ | (injection ea_ with ea_; subst ea_)); subst ec_; clear en_)); have GB10 := Aside0.mk gb10; have GG10 := Aside0.mk HG10; clear gb10 gl10 HG10; obtain ⟨ce10, hcl10, hM10, hcc10, hfr10⟩ := Kd.R_elem HO_3.out zimplWindow (x4_1 : Int) p10 q10; obtain rfl := kimplWindow_openM hM10; have hx10_0 : w11.cell? ⟨go10, (x4_1 : Int).toNat * 4, none⟩ = some (.int .i64 ((rd_TimplWindow x3_1 x4_1).f0)) := hcc10 0 _ rfl; have hx10_1 : w11.cell? ⟨go10, (x4_1 : Int).toNat * 4 + 1, none⟩ = some (.int .i64 ((rd_TimplWindow x3_1 x4_1).f1)) := hcc10 1 _ rfl; have hx10_2 : w11.cell? ⟨go10, (x4_1 : Int).toNat * 4 + 2, none⟩ = some (.int .i64 ((rd_TimplWindow x3_1 x4_1).f2)) := hcc10 2 _ rfl; have hx10_3 : w11.cell? ⟨go10, (x4_1 : Int).toNat * 4 + 3, none⟩ = some (.int .i64 ((rd_TimplWindow x3_1 x4_1).f3)) := hcc10 3 _ rfl; have hf10_0 : w11.frozen? ⟨go10, (x4_1 : Int).toNat * 4, none⟩ = false := hfr10 0; have hf10_1 : w11.frozen? ⟨go10, (x4_1 : Int).toNat * 4 + 1, none⟩ = false := hfr10 1; have hf10_2 : w11.frozen? ⟨go10, (x4_1 : Int).toNat * 4 + 2, none⟩ = false := hfr10 2; have hf10_3 : w11.frozen? ⟨go10, (x4_1 : Int).toNat * 4 + 3, none⟩ = false := hfr10 3; clear hcl10 hcc10 hfr10 hM10; replace p10 := eq_true p10; replace q10 := eq_true q10; have HX12 := Aside0.mk (show Kd.R kimplWindow 48 w11 w.heap.size (fun _ => True) (.slice (some ⟨go10, 0, none⟩) x3_1.length co10) x3_1 from (by (with_reducible repeat (first | apply Kd.R_alloc | apply Kd.R_drewN | apply Kd.R_drew)); exact HO_3.out)); obtain ⟨ce12, hcl12, hM12, hcc12, hfr12⟩ := Kd.R_elem HX12.out zimplWindow (x4_1 : Int) (of_decide_eq_true (by first | (with_reducible assumption) | assumption)) (by have h_ : (x4_1 : Int) < ((x3_1.length : Int) : Int) := of_decide_eq_true (by first | (with_reducible assumption) | assumption); first | exact h_ | (have e_ := (Kd.R_reads' HO_3.out).1; omega) | simpa using h_); obtain rfl := kimplWindow_openM hM12; have HP12 := Kd.R_seg HX12.out (x4_1 : Int) (of_decide_eq_true (by first | (with_reducible assumption) | assumption)) (by have h_ : (x4_1 : Int) < ((x3_1.length : Int) : Int) := of_decide_eq_true (by first | (with_reducible assumption) | assumption); first | exact h_ | (have e_ := (Kd.R_reads' HO_3.out).1; omega) | simpa using h_) (seg := [.int .i64 t291, .int .i64 t292, .int .i64 t293, .int .i64 t294]) (j := 0) hcl12 hcc12 (show 4 ≤ 4 from by decide) (x' := (⟨t291, t292, t293, t294⟩ : SimplWindow)) (kimplWindow_mkM _ _ _ (⟨t291, t292, t293, t294⟩ : SimplWindow) ) (fun _ hk => hk); have hx12_0 := hcc12 0 _ rfl; (try simp only [show (kimplWindow).sz = 4 from rfl, Nat.mul_one, Nat.add_zero] at hx12_0); have hf12_0 := hfr12 0; (try simp only [show (kimplWindow).sz = 4 from rfl, Nat.mul_one, Nat.add_zero] at hf12_0); have hx12_1 := hcc12 1 _ rfl; (try simp only [show (kimplWindow).sz = 4 from rfl, Nat.mul_one, Nat.add_zero] at hx12_1); have hf12_1 := hfr12 1; (try simp only [show (kimplWindow).sz = 4 from rfl, Nat.mul_one, Nat.add_zero] at hf12_1); have hx12_2 := hcc12 2 _ rfl; (try simp only [show (kimplWindow).sz = 4 from rfl, Nat.mul_one, Nat.add_zero] at hx12_2); have hf12_2 := hfr12 2; (try simp only [show (kimplWindow).sz = 4 from rfl, Nat.mul_one, Nat.add_zero] at hf12_2); have hx12_3 := hcc12 3 _ rfl; (try simp only [show (kimplWindow).sz = 4 from rfl, Nat.mul_one, Nat.add_zero] at hx12_3); have hf12_3 := hfr12 3; (try simp only [show (kimplWindow).sz = 4 from rfl, Nat.mul_one, Nat.add_zero] at hf12_3); clear hcl12 hcc12 hfr12 hM12) | ((with_reducible refine gate_store (t := 48) (p := 21) rfl ?_); refine store_event (t := 48) (p := 21) (v := ?vo_w13) (w1 := ((((w11.setCell ⟨go10, (x4_1 : Int).toNat * 4, none⟩ (.int .i64 t291)).setCell ⟨go10, (x4_1 : Int).toNat * 4 + 1, none⟩ (.int .i64 t292)).setCell ⟨go10, (x4_1 : Int).toNat * 4 + 2, none⟩ (.int .i64 t293)).setCell ⟨go10, (x4_1 : Int).toNat * 4 + 3, none⟩ (.int .i64 t294))) ?hg ?ho ?hn ?hr ?_; (case ho => rfl); (case hg => rfl); (case hn => rfl); (case hr => first | (go_simp; done) | (go_simp; rfl)); intro w13 hw; have hg : w11.grownBy w13 (some go10) := (by rw [hw]; exact HP12.2); have hp_ : Kd.R kimplWindow 48 w13 w.heap.size (fun _ => True) (.slice (some ⟨go10, 0, none⟩) x3_1.length co10) y295 := (by rw [hw, Ny295.out]; exact HP12.1); clear HP12; have n0_ := Aside0.mk (hp_); have n1_ := Aside0.mk ((by rw [hw]; exact below_set (below_set (below_set (below_set (HB.out) GB10.out) GB10.out) GB10.out) GB10.out : Below w.heap.size w w13)); clear HO_3; clear HB; have HO_3 := n0_; have HB := n1_; clear n0_ n1_; clear hg hw hp_))
                go_roundg k1
                case measure => have := HK1.out; omega
                case rel => exact ⟨(y295), (wrap64 (x4_1 + 1)), (by first | rfl | (simp; done) | (simp [*]; done)), H', ⟨by have := HK1.out; omega⟩, ⟨by (with_reducible repeat (first | apply Kd.R_alloc | apply Kd.R_drewN | apply Kd.R_drew)); exact HO_3.out⟩, ⟨by repeat (first | (with_reducible first | exact HB.out | apply below_alloc | apply pw_below_drewN | apply below_drew1) | exact HB.out)⟩⟩
              · rw [if_neg c9] at H
                exact absurd H (by simp)
            · rw [if_neg c7] at H
              exact absurd H (by simp)
          · rw [if_neg c6] at H
            have c6b0 : decide (x4_1 < (l0.length : Int)) = false := decide_eq_false c6
            clear c6
            obtain rfl := Option.some.inj H
            go_wp2
            go_ret
            exact ⟨_, by first | rfl | (simp [errW_none, errW_some] <;> rfl) | (simp [*, errW_none, errW_some] <;> rfl), by (with_reducible repeat (first | apply Kd.R_alloc | apply Kd.R_drewN | apply Kd.R_drew)); exact HO_3.out, by repeat (first | (with_reducible first | exact HB.out | apply below_alloc | apply pw_below_drewN | apply below_drew1) | exact HB.out)⟩
    · rw [if_neg c3] at H
      exact absurd H (by simp)
  · rw [if_neg c2] at H
    exact absurd H (by simp)

end Go.Proofs.Ytoomjghabiojkaa.P


namespace Go.Proofs.Ytoomjghabiojkaa.P
open Go.RowKit Go.Proofs.YtoomjghabiojkaaW.PrintWords Go.Proofs.YtoomjghabiojkaaW.PrintLast Go.Proofs.YtoomjghabiojkaaW.PrintMore
attribute [local go_sem] max2_int min2_int max_two min_two max_three min_three max_four min_four   -- for this text's walks alone
set_option linter.unusedVariables false
set_option linter.unusedSimpArgs false

def laws_szWindowS.f (l0 : List (SlawsWindow)) (a1 : Int) : Option (Int) := if (wrap64 (a1 - (l0.length : Int))) < 0 then (some (-1)) else (some (wrap64 (a1 - (l0.length : Int))))
set_option maxHeartbeats 8000000 in
set_option maxRecDepth 100000 in
theorem laws_szWindowS.calls (A0 : Option Addr) (c0 : Nat) (l0 : List (SlawsWindow)) (a1 : Int) (r : Int) (w : World) (hr0 : Kd.C klawsWindow w A0 l0.length l0) (hc0 : l0.length ≤ c0) (h : laws_szWindowS.f l0 a1 = some r) :
    Calls Try.prog 80 #[.slice A0 l0.length c0, .int .i64 a1] w fun e w' => e = .returned (.int .i64 r) ∧ Drawn0 w w' := by
  have HR0 := Aside0.mk hr0
  have HC0 := Aside0.mk hc0
  clear hr0 hc0
  have H : (if (wrap64 (a1 - (l0.length : Int))) < 0 then (some (-1)) else (some (wrap64 (a1 - (l0.length : Int))))) = some r := h
  clear h
  by_cases c3 : (wrap64 (a1 - (l0.length : Int))) < 0
  · rw [if_pos c3] at H
    have c3b0 : decide ((wrap64 (a1 - (l0.length : Int))) < 0) = true := decide_eq_true c3
    clear c3
    obtain rfl := Option.some.inj H
    go_enter Try.func80, Try.ntmps80
    go_wp2
    go_ret
    exact ⟨by first | rfl | (simp; done) | (simp [*]; done), by repeat (first | exact Drawn0.refl _ | apply Drawn0.step)⟩
  · rw [if_neg c3] at H
    have c3b0 : decide ((wrap64 (a1 - (l0.length : Int))) < 0) = false := decide_eq_false c3
    clear c3
    obtain rfl := Option.some.inj H
    go_enter Try.func80, Try.ntmps80
    go_wp2
    go_ret
    exact ⟨by first | rfl | (simp; done) | (simp [*]; done), by repeat (first | exact Drawn0.refl _ | apply Drawn0.step)⟩

end Go.Proofs.Ytoomjghabiojkaa.P


/- What the printed functions over lists of windows come to. -/
namespace Go.Proofs.Ytoomjghabiojkaa.P
open Go.RowKit Go.Proofs.YtoomjghabiojkaaW.PrintWords
set_option linter.unusedVariables false
def winOf (x : SlawsWindow) : SimplWindow := ⟨x.f0, x.f1, x.f2, x.f3⟩
theorem szWindowS_f (l : List SlawsWindow) (a : Int) (h0 : 0 ≤ a) (h1 : a ≤ 1048576) (hl : l.length ≤ 9223372036854775807) :
    laws_szWindowS.f l a = some (if (l.length : Int) ≤ a then a - l.length else -1) := by
  unfold laws_szWindowS.f
  rw [wrap_ok (by omega) (by omega)]
  by_cases h : (l.length : Int) ≤ a
  · rw [if_neg (by omega), if_pos h]
  · rw [if_pos (by omega), if_neg h]
theorem rdLW_mid (pre : List SlawsWindow) (x : SlawsWindow) (suf : List SlawsWindow) : rd_TlawsWindow (pre ++ x :: suf) (pre.length : Int) = x := by
  unfold rd_TlawsWindow
  simp
theorem rdW_mid (pre : List SimplWindow) (x : SimplWindow) (suf : List SimplWindow) : rd_TimplWindow (pre ++ x :: suf) (pre.length : Int) = x := by
  unfold rd_TimplWindow
  simp
theorem toWindowS_ev (suf : List SlawsWindow) : ∀ (pre : List SlawsWindow) (zs : List SimplWindow), zs.length = suf.length → pre.length + suf.length ≤ 4611686018427387904 →
    Ev (fun k => laws_toWindowS.l0 k (pre ++ suf) (pre.map winOf ++ zs) (pre.length : Int)) ((pre ++ suf).map winOf) := by
  induction suf with
  | nil =>
    intro pre zs hz h2
    obtain rfl : zs = [] := List.eq_nil_of_length_eq_zero hz
    refine Ev.step (fun k => ?_) (Ev.now _)
    simp [laws_toWindowS.l0]
  | cons x suf ih =>
    intro pre zs hz h2
    obtain ⟨z, zs, rfl⟩ : ∃ z zs', zs = z :: zs' := by
      cases zs with
      | nil => simp at hz
      | cons z zs => exact ⟨z, zs, rfl⟩
    simp only [List.length_cons] at h2 hz
    refine Ev.step (f := fun k => laws_toWindowS.l0 k ((pre ++ [x]) ++ suf) ((pre ++ [x]).map winOf ++ zs) ((pre ++ [x]).length : Int)) (fun k => ?_) ?_
    · simp only [laws_toWindowS.l0, laws_toWindow.f, Option.bind_some]
      rw [if_pos (by simp; omega), if_pos (by omega), if_pos (by simp; omega), rdLW_mid, wrap_len (by omega)]
      have := set_mid (pre.map winOf) z (⟨x.f0, x.f1, x.f2, x.f3⟩ : SimplWindow) zs
      rw [List.length_map] at this
      rw [Int.toNat_natCast, this]
      simp [winOf]
    · have := ih (pre ++ [x]) zs (by omega) (by simp; omega)
      simpa using this
theorem toWindowS_f (l : List SlawsWindow) (h : l.length ≤ 1048576) : Ev (fun k => laws_toWindowS.f k l) (l.map winOf) := by
  refine Ev.congr (fun k => ?_) (toWindowS_ev l [] (List.replicate l.length zimplWindow) (by simp) (by simp; omega))
  unfold laws_toWindowS.f
  rw [if_pos (by omega), if_pos (by simp; omega)]
  simp
theorem eqWindow_f (a b c d : Int) : laws_eqWindow.f a b c d a b c d = some true := by
  exact if_pos ⟨rfl, rfl, rfl, rfl⟩
end Go.Proofs.Ytoomjghabiojkaa.P


namespace Go.Proofs.Ytoomjghabiojkaa.P
open Go.RowKit Go.Proofs.YtoomjghabiojkaaW.PrintWords Go.Proofs.YtoomjghabiojkaaW.PrintLast Go.Proofs.YtoomjghabiojkaaW.PrintMore
attribute [local go_sem] max2_int min2_int max_two min_two max_three min_three max_four min_four   -- for this text's walks alone
set_option linter.unusedVariables false
set_option linter.unusedSimpArgs false

def laws_eqWindowS.l0 : Nat → List (SimplWindow) → List (SimplWindow) → Int → Option (Bool)
  | 0, _, _, _ => none
  | k + 1, x0, x1, x5 => if x5 < (x0.length : Int) then (if 0 ≤ x5 then (if x5 < (x1.length : Int) then ((laws_eqWindow.f ((rd_TimplWindow x0 x5).f0) ((rd_TimplWindow x0 x5).f1) ((rd_TimplWindow x0 x5).f2) ((rd_TimplWindow x0 x5).f3) ((rd_TimplWindow x1 x5).f0) ((rd_TimplWindow x1 x5).f1) ((rd_TimplWindow x1 x5).f2) ((rd_TimplWindow x1 x5).f3)).bind fun t185 => (if t185 = true then (laws_eqWindowS.l0 k x0 x1 (wrap64 (x5 + 1))) else (some false))) else (none)) else (none)) else (some true)
def laws_eqWindowS.f (k : Nat) (l0 : List (SimplWindow)) (l1 : List (SimplWindow)) : Option (Bool) := if (l0.length : Int) = (l1.length : Int) then (laws_eqWindowS.l0 k l0 l1 0) else (some false)
def laws_eqWindowS.T6 : Bool × List (List Nat × List Nat) := (true, [([], []), ([], []), ([0, 1], [0, 1]), ([2], [2]), ([], []), ([], []), ([4, 5], [4, 5]), ([6], [6]), ([3, 7], [3, 7]), ([8], [8])])
def laws_eqWindowS.B6 : List Nat := [0, 0, 3, 7, 0, 0, 48, 112, 255, 511]
theorem laws_eqWindowS.tab6 : rtab .any (opsOf Try.f77 6) = laws_eqWindowS.T6 := by kernel_rfl
theorem laws_eqWindowS.bits6 : waitsOk laws_eqWindowS.T6.2 laws_eqWindowS.B6 = true := by kernel_rfl
set_option maxHeartbeats 8000000 in
set_option maxRecDepth 100000 in
theorem laws_eqWindowS.calls (k : Nat) (A0 : Option Addr) (c0 : Nat) (l0 : List (SimplWindow)) (A1 : Option Addr) (c1 : Nat) (l1 : List (SimplWindow)) (r : Bool) (w : World) (hr0 : Kd.C kimplWindow w A0 l0.length l0) (hc0 : l0.length ≤ c0) (hr1 : Kd.C kimplWindow w A1 l1.length l1) (hc1 : l1.length ≤ c1) (h : laws_eqWindowS.f k l0 l1 = some r) :
    Calls Try.prog 77 #[.slice A0 l0.length c0, .slice A1 l1.length c1] w fun e w' => e = .returned (.bool r) ∧ Below w.heap.size w w' := by
  have hu48 := Try.underlying48
  have HR0 := Aside0.mk hr0
  have HC0 := Aside0.mk hc0
  clear hr0 hc0
  have HR1 := Aside0.mk hr1
  have HC1 := Aside0.mk hc1
  clear hr1 hc1
  have HB := Aside0.mk (Below.refl w.heap.size w)
  have H : (if (l0.length : Int) = (l1.length : Int) then (laws_eqWindowS.l0 k l0 l1 0) else (some false)) = some r := h
  clear h
  by_cases c3 : (l0.length : Int) = (l1.length : Int)
  · rw [if_pos c3] at H
    have c3b0 : ((l0.length : Int) == (l1.length : Int)) = true := beq_iff_eq.mpr c3
    have c3b1 : ((l0.length : Int) != (l1.length : Int)) = false := bne_eq_false_iff_eq.mpr c3
    have c3b2 : (l0.length == l1.length) = true := by first | simpa using c3 | (simp at c3 ⊢; omega)
    clear c3
    have H' := Aside0.mk H
    clear H
    go_enter Try.func77, Try.ntmps77
    go_wp2
    go_loopg [5] k (fun kq v5 w' => ∃ (x5_1 : Int), v5 = .int .i64 x5_1 ∧ Aside0 (laws_eqWindowS.l0 kq l0 l1 x5_1 = some r) ∧ Aside0 (kq ≤ k) ∧ Aside0 (Below w.heap.size w w'))
    case atStart => exact ⟨(0), (by first | rfl | (simp; done) | (simp [*]; done)), H', ⟨Nat.le_refl _⟩, ⟨by repeat (first | (with_reducible first | exact HB.out | apply below_alloc | apply pw_below_drewN | apply below_drew1) | exact HB.out)⟩⟩
    case round =>
      clear H'
      try clear c1
      try clear p2
      try clear c3
      try clear c3b0
      try clear c3b1
      try clear c3b2
      obtain ⟨x5_1, rfl, HA, HK1, HB⟩ := hrel
      cases gk with
      | zero => exact absurd HA.out (by simp [laws_eqWindowS.l0])
      | succ k1 =>
        have H := HA.out
        clear HA
        simp only [laws_eqWindowS.l0] at H
        by_cases c4 : x5_1 < (l0.length : Int)
        · rw [if_pos c4] at H
          have c4b0 : decide (x5_1 < (l0.length : Int)) = true := decide_eq_true c4
          clear c4
          by_cases c5 : 0 ≤ x5_1
          · rw [if_pos c5] at H
            have c5b0 : decide (0 ≤ x5_1) = true := decide_eq_true c5
            clear c5
            by_cases c6 : x5_1 < (l1.length : Int)
            · rw [if_pos c6] at H
              have c6b0 : decide (x5_1 < (l1.length : Int)) = true := decide_eq_true c6
              clear c6
              replace H := Option.bind_eq_some_iff.mp H
              obtain ⟨t185, A70, H⟩ := H
              replace H : (if t185 = true then (laws_eqWindowS.l0 k1 l0 l1 (wrap64 (x5_1 + 1))) else (some false)) = some r := H
              have A7 := Aside0.mk A70
              clear A70
              by_cases c8 : t185 = true
              · subst c8
                have H1 : (laws_eqWindowS.l0 k1 l0 l1 (wrap64 (x5_1 + 1))) = some r := by rw [if_pos rfl] at H; exact H
                clear H
                have H := H1
                clear H1
                have H' := Aside0.mk H
                clear H
                try go_wp2
                have n0_ := Aside0.mk (below_drew1 HB.out)
                clear HB
                have HB := n0_
                clear n0_
                have p183 : 0 ≤ (x5_1 : Int) := of_decide_eq_true (by first | (with_reducible assumption) | assumption)
                have q183 : x5_1 < (l0.length : Int) := of_decide_eq_true (by first | (with_reducible assumption) | assumption)
                obtain ⟨ad183, e183, hx183_0, hx183_1, hx183_2, hx183_3⟩ := at_TimplWindow HR0.out x5_1 p183 q183
                have hw183_3 := hx183_3
                have hw183_2 := hx183_2
                have hw183_1 := hx183_1
                have hw183_0 := hx183_0
                cases e183
                replace hx183_0 := (HB.out.cell (World.block_lt_of_cell? w _ hx183_0)).trans hx183_0
                replace hx183_1 := (HB.out.cell (World.block_lt_of_cell? w _ hx183_1)).trans hx183_1
                replace hx183_2 := (HB.out.cell (World.block_lt_of_cell? w _ hx183_2)).trans hx183_2
                replace hx183_3 := (HB.out.cell (World.block_lt_of_cell? w _ hx183_3)).trans hx183_3
                replace p183 := eq_true p183
                replace q183 := eq_true q183
                have p184 : 0 ≤ (x5_1 : Int) := of_decide_eq_true (by first | (with_reducible assumption) | assumption)
                have q184 : x5_1 < (l1.length : Int) := of_decide_eq_true (by first | (with_reducible assumption) | assumption)
                obtain ⟨ad184, e184, hx184_0, hx184_1, hx184_2, hx184_3⟩ := at_TimplWindow HR1.out x5_1 p184 q184
                have hw184_3 := hx184_3
                have hw184_2 := hx184_2
                have hw184_1 := hx184_1
                have hw184_0 := hx184_0
                cases e184
                replace hx184_0 := (HB.out.cell (World.block_lt_of_cell? w _ hx184_0)).trans hx184_0
                replace hx184_1 := (HB.out.cell (World.block_lt_of_cell? w _ hx184_1)).trans hx184_1
                replace hx184_2 := (HB.out.cell (World.block_lt_of_cell? w _ hx184_2)).trans hx184_2
                replace hx184_3 := (HB.out.cell (World.block_lt_of_cell? w _ hx184_3)).trans hx184_3
                replace p184 := eq_true p184
                replace q184 := eq_true q184
                refine start_ (n := 10) (S := fun w' => w'.cell? (ad183.add ((x5_1).toNat * 4)) = some (.int .i64 ((rd_TimplWindow l0 x5_1).f0)) ∧ w'.cell? ⟨(ad183.add ((x5_1).toNat * 4)).block, (ad183.add ((x5_1).toNat * 4)).off + 1, none⟩ = some (.int .i64 ((rd_TimplWindow l0 x5_1).f1)) ∧ w'.cell? ⟨(ad183.add ((x5_1).toNat * 4)).block, (ad183.add ((x5_1).toNat * 4)).off + 2, none⟩ = some (.int .i64 ((rd_TimplWindow l0 x5_1).f2)) ∧ w'.cell? ⟨(ad183.add ((x5_1).toNat * 4)).block, (ad183.add ((x5_1).toNat * 4)).off + 3, none⟩ = some (.int .i64 ((rd_TimplWindow l0 x5_1).f3)) ∧ w'.cell? (ad184.add ((x5_1).toNat * 4)) = some (.int .i64 ((rd_TimplWindow l1 x5_1).f0)) ∧ w'.cell? ⟨(ad184.add ((x5_1).toNat * 4)).block, (ad184.add ((x5_1).toNat * 4)).off + 1, none⟩ = some (.int .i64 ((rd_TimplWindow l1 x5_1).f1)) ∧ w'.cell? ⟨(ad184.add ((x5_1).toNat * 4)).block, (ad184.add ((x5_1).toNat * 4)).off + 2, none⟩ = some (.int .i64 ((rd_TimplWindow l1 x5_1).f2)) ∧ w'.cell? ⟨(ad184.add ((x5_1).toNat * 4)).block, (ad184.add ((x5_1).toNat * 4)).off + 3, none⟩ = some (.int .i64 ((rd_TimplWindow l1 x5_1).f3))) (ds := []) #[false, false, false, false, false, false, false, false, false, false] (by kernel_rfl) rfl rfl ⟨(by have h_ := ((HB.out.cell (World.block_lt_of_cell? w _ hw183_0)).trans hw183_0); first | exact h_ | (simp only [*] at h_; exact h_) | (simp [*]; done) | simpa [*] using h_), (by have h_ := ((HB.out.cell (World.block_lt_of_cell? w _ hw183_1)).trans hw183_1); first | exact h_ | (simp only [*] at h_; exact h_) | (simp [*]; done) | simpa [*] using h_), (by have h_ := ((HB.out.cell (World.block_lt_of_cell? w _ hw183_2)).trans hw183_2); first | exact h_ | (simp only [*] at h_; exact h_) | (simp [*]; done) | simpa [*] using h_), (by have h_ := ((HB.out.cell (World.block_lt_of_cell? w _ hw183_3)).trans hw183_3); first | exact h_ | (simp only [*] at h_; exact h_) | (simp [*]; done) | simpa [*] using h_), (by have h_ := ((HB.out.cell (World.block_lt_of_cell? w _ hw184_0)).trans hw184_0); first | exact h_ | (simp only [*] at h_; exact h_) | (simp [*]; done) | simpa [*] using h_), (by have h_ := ((HB.out.cell (World.block_lt_of_cell? w _ hw184_1)).trans hw184_1); first | exact h_ | (simp only [*] at h_; exact h_) | (simp [*]; done) | simpa [*] using h_), (by have h_ := ((HB.out.cell (World.block_lt_of_cell? w _ hw184_2)).trans hw184_2); first | exact h_ | (simp only [*] at h_; exact h_) | (simp [*]; done) | simpa [*] using h_), (by have h_ := ((HB.out.cell (World.block_lt_of_cell? w _ hw184_3)).trans hw184_3); first | exact h_ | (simp only [*] at h_; exact h_) | (simp [*]; done) | simpa [*] using h_)⟩ (fun hHeld => ?_); refine with_tabW laws_eqWindowS.tab6 laws_eqWindowS.bits6 (fun HT_ HW_ => ?_)
                generalize wr.drew = w9 at HB hx183_0 hx183_1 hx183_2 hx183_3 hx184_0 hx184_1 hx184_2 hx184_3 hHeld ⊢
                refine pure_ (i := 0) (N := some 17) (v := ?_) (a' := ?_) #[true, false, false, false, false, false, false, false, false, false] rfl rfl (any_of HT_.out (by kernel_rfl)) (fun _ _ _ h => h) (Or.inl ⟨by rfl, ?_⟩) ?_ ?_
                rotate_left
                · intro w'
                  go_simp
                  with_reducible rfl
                rotate_left
                · simp only [Act.put, List.setIfInBounds_toArray, List.set_cons_zero, List.set_cons_succ, i64_w, i32_w]
                  rfl
                refine pure_ (i := 1) (N := some 18) (v := ?_) (a' := ?_) #[true, true, false, false, false, false, false, false, false, false] rfl rfl (any_of HT_.out (by kernel_rfl)) (fun _ _ _ h => h) (Or.inl ⟨by rfl, ?_⟩) ?_ ?_
                rotate_left
                · intro w'
                  go_simp
                  with_reducible rfl
                rotate_left
                · simp only [Act.put, List.setIfInBounds_toArray, List.set_cons_zero, List.set_cons_succ, i64_w, i32_w]
                  rfl
                refine pure_ (i := 2) (N := some 19) (v := ?_) (a' := ?_) #[true, true, true, false, false, false, false, false, false, false] rfl rfl (any_of HT_.out (by kernel_rfl)) (fun _ _ _ h => h) (Or.inl ⟨by rfl, ?_⟩) ?_ ?_
                rotate_left
                · intro w'
                  go_simp
                  with_reducible rfl
                rotate_left
                · simp only [Act.put, List.setIfInBounds_toArray, List.set_cons_zero, List.set_cons_succ, i64_w, i32_w]
                  rfl
                refine pure_ (i := 4) (N := some 21) (v := ?_) (a' := ?_) #[true, true, true, false, true, false, false, false, false, false] rfl rfl (any_of HT_.out (by kernel_rfl)) (fun _ _ _ h => h) (Or.inl ⟨by rfl, ?_⟩) ?_ ?_
                rotate_left
                · intro w'
                  go_simp
                  with_reducible rfl
                rotate_left
                · simp only [Act.put, List.setIfInBounds_toArray, List.set_cons_zero, List.set_cons_succ, i64_w, i32_w]
                  rfl
                refine pure_ (i := 5) (N := some 22) (v := ?_) (a' := ?_) #[true, true, true, false, true, true, false, false, false, false] rfl rfl (any_of HT_.out (by kernel_rfl)) (fun _ _ _ h => h) (Or.inl ⟨by rfl, ?_⟩) ?_ ?_
                rotate_left
                · intro w'
                  go_simp
                  with_reducible rfl
                rotate_left
                · simp only [Act.put, List.setIfInBounds_toArray, List.set_cons_zero, List.set_cons_succ, i64_w, i32_w]
                  rfl
                refine pure_ (i := 6) (N := some 23) (v := ?_) (a' := ?_) #[true, true, true, false, true, true, true, false, false, false] rfl rfl (any_of HT_.out (by kernel_rfl)) (fun _ _ _ h => h) (Or.inl ⟨by rfl, ?_⟩) ?_ ?_
                rotate_left
                · intro w'
                  go_simp
                  with_reducible rfl
                rotate_left
                · simp only [Act.put, List.setIfInBounds_toArray, List.set_cons_zero, List.set_cons_succ, i64_w, i32_w]
                  rfl
                refine take_ (i := 3) (N := some 20) (v := ?_) (a' := ?_) #[true, true, true, true, true, true, true, false, false, false] rfl rfl (take_ofW HT_.out HW_.out (by kernel_rfl)) (fun _ _ _ h => h) (Or.inl ⟨by rfl, ?_⟩) hHeld ?_ ?_
                rotate_left
                · rintro w' ⟨s0, s1, s2, s3, s4, s5, s6, s7⟩
                  go_simp
                  with_reducible rfl
                rotate_left
                · simp only [Act.put, List.setIfInBounds_toArray, List.set_cons_zero, List.set_cons_succ, i64_w, i32_w]
                  rfl
                refine take_ (i := 7) (N := some 24) (v := ?_) (a' := ?_) #[true, true, true, true, true, true, true, true, false, false] rfl rfl (take_ofW HT_.out HW_.out (by kernel_rfl)) (fun _ _ _ h => h) (Or.inl ⟨by rfl, ?_⟩) hHeld ?_ ?_
                rotate_left
                · rintro w' ⟨s0, s1, s2, s3, s4, s5, s6, s7⟩
                  go_simp
                  with_reducible rfl
                rotate_left
                · simp only [Act.put, List.setIfInBounds_toArray, List.set_cons_zero, List.set_cons_succ, i64_w, i32_w]
                  rfl
                refine one_ (i := 8) (N := some 25) #[true, true, true, true, true, true, true, true, true, false] rfl rfl (one_of HT_.out (by kernel_rfl)) (by decide) (fun K hK => ?_)
                refine goes_ Try.func43 (by kernel_rfl) rfl #[.agg #[.int .i64 ((rd_TimplWindow l0 x5_1).f0), .int .i64 ((rd_TimplWindow l0 x5_1).f1), .int .i64 ((rd_TimplWindow l0 x5_1).f2), .int .i64 ((rd_TimplWindow l0 x5_1).f3)], .agg #[.int .i64 ((rd_TimplWindow l1 x5_1).f0), .int .i64 ((rd_TimplWindow l1 x5_1).f1), .int .i64 ((rd_TimplWindow l1 x5_1).f2), .int .i64 ((rd_TimplWindow l1 x5_1).f3)]] (by rfl) rfl rfl (by (try simp only [List.map_toArray, List.map_cons, List.map_nil]); first | done | rfl | (simp only [List.length_drop, List.length_take]; rfl)) ?_
                with_reducible refine (laws_eqWindow.calls ((rd_TimplWindow l0 x5_1).f0) ((rd_TimplWindow l0 x5_1).f1) ((rd_TimplWindow l0 x5_1).f2) ((rd_TimplWindow l0 x5_1).f3) ((rd_TimplWindow l1 x5_1).f0) ((rd_TimplWindow l1 x5_1).f1) ((rd_TimplWindow l1 x5_1).f2) ((rd_TimplWindow l1 x5_1).f3) true _ A7.out).mono ?_
                rintro e w10 ⟨rfl, hb⟩
                refine ⟨_, rfl, ?_⟩
                have n0_ := Aside0.mk (below_step (by repeat (first | (with_reducible first | exact HB.out | apply below_alloc | apply pw_below_drewN | apply below_drew1) | exact HB.out)) hb)
                clear HB
                have HB := n0_
                clear n0_
                (try clear hb)
                (try clear hb2)
                (try clear hk)
                (try clear hi)
                refine hK.out _ _ ⟨(by have h_ := ((HB.out.cell (World.block_lt_of_cell? w _ hw183_0)).trans hw183_0); first | exact h_ | (simp only [*] at h_; exact h_) | (simp [*]; done) | simpa [*] using h_), (by have h_ := ((HB.out.cell (World.block_lt_of_cell? w _ hw183_1)).trans hw183_1); first | exact h_ | (simp only [*] at h_; exact h_) | (simp [*]; done) | simpa [*] using h_), (by have h_ := ((HB.out.cell (World.block_lt_of_cell? w _ hw183_2)).trans hw183_2); first | exact h_ | (simp only [*] at h_; exact h_) | (simp [*]; done) | simpa [*] using h_), (by have h_ := ((HB.out.cell (World.block_lt_of_cell? w _ hw183_3)).trans hw183_3); first | exact h_ | (simp only [*] at h_; exact h_) | (simp [*]; done) | simpa [*] using h_), (by have h_ := ((HB.out.cell (World.block_lt_of_cell? w _ hw184_0)).trans hw184_0); first | exact h_ | (simp only [*] at h_; exact h_) | (simp [*]; done) | simpa [*] using h_), (by have h_ := ((HB.out.cell (World.block_lt_of_cell? w _ hw184_1)).trans hw184_1); first | exact h_ | (simp only [*] at h_; exact h_) | (simp [*]; done) | simpa [*] using h_), (by have h_ := ((HB.out.cell (World.block_lt_of_cell? w _ hw184_2)).trans hw184_2); first | exact h_ | (simp only [*] at h_; exact h_) | (simp [*]; done) | simpa [*] using h_), (by have h_ := ((HB.out.cell (World.block_lt_of_cell? w _ hw184_3)).trans hw184_3); first | exact h_ | (simp only [*] at h_; exact h_) | (simp [*]; done) | simpa [*] using h_)⟩ (fun hHeld => ?_)
                clear hK K
                refine norm_ (a' := ?_) ?_ ?_
                rotate_left
                · show Act.put _ (some 25) _ = _
                  simp only [Act.put, List.setIfInBounds_toArray, List.set_cons_zero, List.set_cons_succ, i64_w, i32_w]
                  rfl
                refine pure_ (i := 9) (N := some 26) (v := ?_) (a' := ?_) #[true, true, true, true, true, true, true, true, true, true] rfl rfl (any_of HT_.out (by kernel_rfl)) (fun _ _ _ h => h) (Or.inl ⟨by rfl, ?_⟩) ?_ ?_
                rotate_left
                · intro w'
                  go_simp
                  with_reducible rfl
                rotate_left
                · simp only [Act.put, List.setIfInBounds_toArray, List.set_cons_zero, List.set_cons_succ, i64_w, i32_w]
                  rfl
                refine done_ (done_of HT_.out (by kernel_rfl)) ?_
                try go_wp2
                go_roundg k1
                case measure => have := HK1.out; omega
                case rel => exact ⟨(wrap64 (x5_1 + 1)), (by first | rfl | (simp; done) | (simp [*]; done)), H', ⟨by have := HK1.out; omega⟩, ⟨by repeat (first | (with_reducible first | exact HB.out | apply below_alloc | apply pw_below_drewN | apply below_drew1) | exact HB.out)⟩⟩
              · replace c8 := Bool.eq_false_iff.mpr c8
                subst c8
                have H1 : (some false) = some r := by rw [if_neg (show ¬ (false = true) by decide)] at H; exact H
                clear H
                have H := H1
                clear H1
                obtain rfl := Option.some.inj H
                try go_wp2
                have n0_ := Aside0.mk (below_drew1 HB.out)
                clear HB
                have HB := n0_
                clear n0_
                have p183 : 0 ≤ (x5_1 : Int) := of_decide_eq_true (by first | (with_reducible assumption) | assumption)
                have q183 : x5_1 < (l0.length : Int) := of_decide_eq_true (by first | (with_reducible assumption) | assumption)
                obtain ⟨ad183, e183, hx183_0, hx183_1, hx183_2, hx183_3⟩ := at_TimplWindow HR0.out x5_1 p183 q183
                have hw183_3 := hx183_3
                have hw183_2 := hx183_2
                have hw183_1 := hx183_1
                have hw183_0 := hx183_0
                cases e183
                replace hx183_0 := (HB.out.cell (World.block_lt_of_cell? w _ hx183_0)).trans hx183_0
                replace hx183_1 := (HB.out.cell (World.block_lt_of_cell? w _ hx183_1)).trans hx183_1
                replace hx183_2 := (HB.out.cell (World.block_lt_of_cell? w _ hx183_2)).trans hx183_2
                replace hx183_3 := (HB.out.cell (World.block_lt_of_cell? w _ hx183_3)).trans hx183_3
                replace p183 := eq_true p183
                replace q183 := eq_true q183
                have p184 : 0 ≤ (x5_1 : Int) := of_decide_eq_true (by first | (with_reducible assumption) | assumption)
                have q184 : x5_1 < (l1.length : Int) := of_decide_eq_true (by first | (with_reducible assumption) | assumption)
                obtain ⟨ad184, e184, hx184_0, hx184_1, hx184_2, hx184_3⟩ := at_TimplWindow HR1.out x5_1 p184 q184
                have hw184_3 := hx184_3
                have hw184_2 := hx184_2
                have hw184_1 := hx184_1
                have hw184_0 := hx184_0
                cases e184
                replace hx184_0 := (HB.out.cell (World.block_lt_of_cell? w _ hx184_0)).trans hx184_0
                replace hx184_1 := (HB.out.cell (World.block_lt_of_cell? w _ hx184_1)).trans hx184_1
                replace hx184_2 := (HB.out.cell (World.block_lt_of_cell? w _ hx184_2)).trans hx184_2
                replace hx184_3 := (HB.out.cell (World.block_lt_of_cell? w _ hx184_3)).trans hx184_3
                replace p184 := eq_true p184
                replace q184 := eq_true q184
                refine start_ (n := 10) (S := fun w' => w'.cell? (ad183.add ((x5_1).toNat * 4)) = some (.int .i64 ((rd_TimplWindow l0 x5_1).f0)) ∧ w'.cell? ⟨(ad183.add ((x5_1).toNat * 4)).block, (ad183.add ((x5_1).toNat * 4)).off + 1, none⟩ = some (.int .i64 ((rd_TimplWindow l0 x5_1).f1)) ∧ w'.cell? ⟨(ad183.add ((x5_1).toNat * 4)).block, (ad183.add ((x5_1).toNat * 4)).off + 2, none⟩ = some (.int .i64 ((rd_TimplWindow l0 x5_1).f2)) ∧ w'.cell? ⟨(ad183.add ((x5_1).toNat * 4)).block, (ad183.add ((x5_1).toNat * 4)).off + 3, none⟩ = some (.int .i64 ((rd_TimplWindow l0 x5_1).f3)) ∧ w'.cell? (ad184.add ((x5_1).toNat * 4)) = some (.int .i64 ((rd_TimplWindow l1 x5_1).f0)) ∧ w'.cell? ⟨(ad184.add ((x5_1).toNat * 4)).block, (ad184.add ((x5_1).toNat * 4)).off + 1, none⟩ = some (.int .i64 ((rd_TimplWindow l1 x5_1).f1)) ∧ w'.cell? ⟨(ad184.add ((x5_1).toNat * 4)).block, (ad184.add ((x5_1).toNat * 4)).off + 2, none⟩ = some (.int .i64 ((rd_TimplWindow l1 x5_1).f2)) ∧ w'.cell? ⟨(ad184.add ((x5_1).toNat * 4)).block, (ad184.add ((x5_1).toNat * 4)).off + 3, none⟩ = some (.int .i64 ((rd_TimplWindow l1 x5_1).f3))) (ds := []) #[false, false, false, false, false, false, false, false, false, false] (by kernel_rfl) rfl rfl ⟨(by have h_ := ((HB.out.cell (World.block_lt_of_cell? w _ hw183_0)).trans hw183_0); first | exact h_ | (simp only [*] at h_; exact h_) | (simp [*]; done) | simpa [*] using h_), (by have h_ := ((HB.out.cell (World.block_lt_of_cell? w _ hw183_1)).trans hw183_1); first | exact h_ | (simp only [*] at h_; exact h_) | (simp [*]; done) | simpa [*] using h_), (by have h_ := ((HB.out.cell (World.block_lt_of_cell? w _ hw183_2)).trans hw183_2); first | exact h_ | (simp only [*] at h_; exact h_) | (simp [*]; done) | simpa [*] using h_), (by have h_ := ((HB.out.cell (World.block_lt_of_cell? w _ hw183_3)).trans hw183_3); first | exact h_ | (simp only [*] at h_; exact h_) | (simp [*]; done) | simpa [*] using h_), (by have h_ := ((HB.out.cell (World.block_lt_of_cell? w _ hw184_0)).trans hw184_0); first | exact h_ | (simp only [*] at h_; exact h_) | (simp [*]; done) | simpa [*] using h_), (by have h_ := ((HB.out.cell (World.block_lt_of_cell? w _ hw184_1)).trans hw184_1); first | exact h_ | (simp only [*] at h_; exact h_) | (simp [*]; done) | simpa [*] using h_), (by have h_ := ((HB.out.cell (World.block_lt_of_cell? w _ hw184_2)).trans hw184_2); first | exact h_ | (simp only [*] at h_; exact h_) | (simp [*]; done) | simpa [*] using h_), (by have h_ := ((HB.out.cell (World.block_lt_of_cell? w _ hw184_3)).trans hw184_3); first | exact h_ | (simp only [*] at h_; exact h_) | (simp [*]; done) | simpa [*] using h_)⟩ (fun hHeld => ?_); refine with_tabW laws_eqWindowS.tab6 laws_eqWindowS.bits6 (fun HT_ HW_ => ?_)
                generalize wr.drew = w11 at HB hx183_0 hx183_1 hx183_2 hx183_3 hx184_0 hx184_1 hx184_2 hx184_3 hHeld ⊢
                refine pure_ (i := 0) (N := some 17) (v := ?_) (a' := ?_) #[true, false, false, false, false, false, false, false, false, false] rfl rfl (any_of HT_.out (by kernel_rfl)) (fun _ _ _ h => h) (Or.inl ⟨by rfl, ?_⟩) ?_ ?_
                rotate_left
                · intro w'
                  go_simp
                  with_reducible rfl
                rotate_left
                · simp only [Act.put, List.setIfInBounds_toArray, List.set_cons_zero, List.set_cons_succ, i64_w, i32_w]
                  rfl
                refine pure_ (i := 1) (N := some 18) (v := ?_) (a' := ?_) #[true, true, false, false, false, false, false, false, false, false] rfl rfl (any_of HT_.out (by kernel_rfl)) (fun _ _ _ h => h) (Or.inl ⟨by rfl, ?_⟩) ?_ ?_
                rotate_left
                · intro w'
                  go_simp
                  with_reducible rfl
                rotate_left
                · simp only [Act.put, List.setIfInBounds_toArray, List.set_cons_zero, List.set_cons_succ, i64_w, i32_w]
                  rfl
                refine pure_ (i := 2) (N := some 19) (v := ?_) (a' := ?_) #[true, true, true, false, false, false, false, false, false, false] rfl rfl (any_of HT_.out (by kernel_rfl)) (fun _ _ _ h => h) (Or.inl ⟨by rfl, ?_⟩) ?_ ?_
                rotate_left
                · intro w'
                  go_simp
                  with_reducible rfl
                rotate_left
                · simp only [Act.put, List.setIfInBounds_toArray, List.set_cons_zero, List.set_cons_succ, i64_w, i32_w]
                  rfl
                refine pure_ (i := 4) (N := some 21) (v := ?_) (a' := ?_) #[true, true, true, false, true, false, false, false, false, false] rfl rfl (any_of HT_.out (by kernel_rfl)) (fun _ _ _ h => h) (Or.inl ⟨by rfl, ?_⟩) ?_ ?_
                rotate_left
                · intro w'
                  go_simp
                  with_reducible rfl
                rotate_left
                · simp only [Act.put, List.setIfInBounds_toArray, List.set_cons_zero, List.set_cons_succ, i64_w, i32_w]
                  rfl
                refine pure_ (i := 5) (N := some 22) (v := ?_) (a' := ?_) #[true, true, true, false, true, true, false, false, false, false] rfl rfl (any_of HT_.out (by kernel_rfl)) (fun _ _ _ h => h) (Or.inl ⟨by rfl, ?_⟩) ?_ ?_
                rotate_left
                · intro w'
                  go_simp
                  with_reducible rfl
                rotate_left
                · simp only [Act.put, List.setIfInBounds_toArray, List.set_cons_zero, List.set_cons_succ, i64_w, i32_w]
                  rfl
                refine pure_ (i := 6) (N := some 23) (v := ?_) (a' := ?_) #[true, true, true, false, true, true, true, false, false, false] rfl rfl (any_of HT_.out (by kernel_rfl)) (fun _ _ _ h => h) (Or.inl ⟨by rfl, ?_⟩) ?_ ?_
                rotate_left
                · intro w'
                  go_simp
                  with_reducible rfl
                rotate_left
                · simp only [Act.put, List.setIfInBounds_toArray, List.set_cons_zero, List.set_cons_succ, i64_w, i32_w]
                  rfl
                refine take_ (i := 3) (N := some 20) (v := ?_) (a' := ?_) #[true, true, true, true, true, true, true, false, false, false] rfl rfl (take_ofW HT_.out HW_.out (by kernel_rfl)) (fun _ _ _ h => h) (Or.inl ⟨by rfl, ?_⟩) hHeld ?_ ?_
                rotate_left
                · rintro w' ⟨s0, s1, s2, s3, s4, s5, s6, s7⟩
                  go_simp
                  with_reducible rfl
                rotate_left
                · simp only [Act.put, List.setIfInBounds_toArray, List.set_cons_zero, List.set_cons_succ, i64_w, i32_w]
                  rfl
                refine take_ (i := 7) (N := some 24) (v := ?_) (a' := ?_) #[true, true, true, true, true, true, true, true, false, false] rfl rfl (take_ofW HT_.out HW_.out (by kernel_rfl)) (fun _ _ _ h => h) (Or.inl ⟨by rfl, ?_⟩) hHeld ?_ ?_
                rotate_left
                · rintro w' ⟨s0, s1, s2, s3, s4, s5, s6, s7⟩
                  go_simp
                  with_reducible rfl
                rotate_left
                · simp only [Act.put, List.setIfInBounds_toArray, List.set_cons_zero, List.set_cons_succ, i64_w, i32_w]
                  rfl
                refine one_ (i := 8) (N := some 25) #[true, true, true, true, true, true, true, true, true, false] rfl rfl (one_of HT_.out (by kernel_rfl)) (by decide) (fun K hK => ?_)
                refine goes_ Try.func43 (by kernel_rfl) rfl #[.agg #[.int .i64 ((rd_TimplWindow l0 x5_1).f0), .int .i64 ((rd_TimplWindow l0 x5_1).f1), .int .i64 ((rd_TimplWindow l0 x5_1).f2), .int .i64 ((rd_TimplWindow l0 x5_1).f3)], .agg #[.int .i64 ((rd_TimplWindow l1 x5_1).f0), .int .i64 ((rd_TimplWindow l1 x5_1).f1), .int .i64 ((rd_TimplWindow l1 x5_1).f2), .int .i64 ((rd_TimplWindow l1 x5_1).f3)]] (by rfl) rfl rfl (by (try simp only [List.map_toArray, List.map_cons, List.map_nil]); first | done | rfl | (simp only [List.length_drop, List.length_take]; rfl)) ?_
                with_reducible refine (laws_eqWindow.calls ((rd_TimplWindow l0 x5_1).f0) ((rd_TimplWindow l0 x5_1).f1) ((rd_TimplWindow l0 x5_1).f2) ((rd_TimplWindow l0 x5_1).f3) ((rd_TimplWindow l1 x5_1).f0) ((rd_TimplWindow l1 x5_1).f1) ((rd_TimplWindow l1 x5_1).f2) ((rd_TimplWindow l1 x5_1).f3) false _ A7.out).mono ?_
                rintro e w12 ⟨rfl, hb⟩
                refine ⟨_, rfl, ?_⟩
                have n0_ := Aside0.mk (below_step (by repeat (first | (with_reducible first | exact HB.out | apply below_alloc | apply pw_below_drewN | apply below_drew1) | exact HB.out)) hb)
                clear HB
                have HB := n0_
                clear n0_
                (try clear hb)
                (try clear hb2)
                (try clear hk)
                (try clear hi)
                refine hK.out _ _ ⟨(by have h_ := ((HB.out.cell (World.block_lt_of_cell? w _ hw183_0)).trans hw183_0); first | exact h_ | (simp only [*] at h_; exact h_) | (simp [*]; done) | simpa [*] using h_), (by have h_ := ((HB.out.cell (World.block_lt_of_cell? w _ hw183_1)).trans hw183_1); first | exact h_ | (simp only [*] at h_; exact h_) | (simp [*]; done) | simpa [*] using h_), (by have h_ := ((HB.out.cell (World.block_lt_of_cell? w _ hw183_2)).trans hw183_2); first | exact h_ | (simp only [*] at h_; exact h_) | (simp [*]; done) | simpa [*] using h_), (by have h_ := ((HB.out.cell (World.block_lt_of_cell? w _ hw183_3)).trans hw183_3); first | exact h_ | (simp only [*] at h_; exact h_) | (simp [*]; done) | simpa [*] using h_), (by have h_ := ((HB.out.cell (World.block_lt_of_cell? w _ hw184_0)).trans hw184_0); first | exact h_ | (simp only [*] at h_; exact h_) | (simp [*]; done) | simpa [*] using h_), (by have h_ := ((HB.out.cell (World.block_lt_of_cell? w _ hw184_1)).trans hw184_1); first | exact h_ | (simp only [*] at h_; exact h_) | (simp [*]; done) | simpa [*] using h_), (by have h_ := ((HB.out.cell (World.block_lt_of_cell? w _ hw184_2)).trans hw184_2); first | exact h_ | (simp only [*] at h_; exact h_) | (simp [*]; done) | simpa [*] using h_), (by have h_ := ((HB.out.cell (World.block_lt_of_cell? w _ hw184_3)).trans hw184_3); first | exact h_ | (simp only [*] at h_; exact h_) | (simp [*]; done) | simpa [*] using h_)⟩ (fun hHeld => ?_)
                clear hK K
                refine norm_ (a' := ?_) ?_ ?_
                rotate_left
                · show Act.put _ (some 25) _ = _
                  simp only [Act.put, List.setIfInBounds_toArray, List.set_cons_zero, List.set_cons_succ, i64_w, i32_w]
                  rfl
                refine pure_ (i := 9) (N := some 26) (v := ?_) (a' := ?_) #[true, true, true, true, true, true, true, true, true, true] rfl rfl (any_of HT_.out (by kernel_rfl)) (fun _ _ _ h => h) (Or.inl ⟨by rfl, ?_⟩) ?_ ?_
                rotate_left
                · intro w'
                  go_simp
                  with_reducible rfl
                rotate_left
                · simp only [Act.put, List.setIfInBounds_toArray, List.set_cons_zero, List.set_cons_succ, i64_w, i32_w]
                  rfl
                refine done_ (done_of HT_.out (by kernel_rfl)) ?_
                try go_wp2
                go_ret
                exact ⟨by first | rfl | (simp [errW_none, errW_some] <;> rfl) | (simp [*, errW_none, errW_some] <;> rfl), by repeat (first | (with_reducible first | exact HB.out | apply below_alloc | apply pw_below_drewN | apply below_drew1) | exact HB.out)⟩
            · rw [if_neg c6] at H
              exact absurd H (by simp)
          · rw [if_neg c5] at H
            exact absurd H (by simp)
        · rw [if_neg c4] at H
          have c4b0 : decide (x5_1 < (l0.length : Int)) = false := decide_eq_false c4
          clear c4
          obtain rfl := Option.some.inj H
          go_wp2
          go_ret
          exact ⟨by first | rfl | (simp [errW_none, errW_some] <;> rfl) | (simp [*, errW_none, errW_some] <;> rfl), by repeat (first | (with_reducible first | exact HB.out | apply below_alloc | apply pw_below_drewN | apply below_drew1) | exact HB.out)⟩
  · rw [if_neg c3] at H
    have c3b0 : ((l0.length : Int) == (l1.length : Int)) = false := beq_eq_false_iff_ne.mpr c3
    have c3b1 : ((l0.length : Int) != (l1.length : Int)) = true := bne_iff_ne.mpr c3
    have c3b2 : (l0.length == l1.length) = false := by first | simpa using c3 | (simp at c3 ⊢; omega)
    obtain rfl := Option.some.inj H
    go_enter Try.func77, Try.ntmps77
    go_wp2
    go_ret
    exact ⟨by first | rfl | (simp [errW_none, errW_some] <;> rfl) | (simp [*, errW_none, errW_some] <;> rfl), by repeat (first | (with_reducible first | exact HB.out | apply below_alloc | apply pw_below_drewN | apply below_drew1) | exact HB.out)⟩

end Go.Proofs.Ytoomjghabiojkaa.P


/- Equality and validity of lists of windows. -/
namespace Go.Proofs.Ytoomjghabiojkaa.P
open Go.RowKit Go.Proofs.YtoomjghabiojkaaW.PrintWords
set_option linter.unusedVariables false
theorem eqWindowS_ev (suf : List SimplWindow) : ∀ (pre : List SimplWindow), pre.length + suf.length ≤ 9223372036854775807 → Ev (fun k => laws_eqWindowS.l0 k (pre ++ suf) (pre ++ suf) (pre.length : Int)) true := by
  induction suf with
  | nil =>
    intro pre h2
    refine Ev.step (fun k => ?_) (Ev.now _)
    simp [laws_eqWindowS.l0]
  | cons x suf ih =>
    intro pre h2
    simp only [List.length_cons] at h2
    refine Ev.step (f := fun k => laws_eqWindowS.l0 k ((pre ++ [x]) ++ suf) ((pre ++ [x]) ++ suf) ((pre ++ [x]).length : Int)) (fun k => ?_) (ih (pre ++ [x]) (by simp; omega))
    simp only [laws_eqWindowS.l0]
    rw [if_pos (by simp; omega), if_pos (by omega), if_pos (by simp; omega), eqWindow_f, Option.bind_some, if_pos rfl, wrap_len (by omega)]
    simp
theorem eqWindowS_f (l : List SimplWindow) (h : l.length ≤ 9223372036854775807) : Ev (fun k => laws_eqWindowS.f k l l) true := by
  refine Ev.congr (fun k => ?_) (eqWindowS_ev l [] (by simpa using h))
  unfold laws_eqWindowS.f
  rw [if_pos rfl]
  rfl
end Go.Proofs.Ytoomjghabiojkaa.P


/- spec.l3Watched: a memory is valid and has all windows of a list, which is not too long. -/
namespace Go.Proofs.Ytoomjghabiojkaa.P
open Go.RowKit Go.Proofs.YtoomjghabiojkaaW.PrintWords
set_option linter.unusedVariables false
def wfW (x : SimplWindow) : Prop := (-9223372036854775808 ≤ x.f0 ∧ x.f0 ≤ 9223372036854775807) ∧ (-9223372036854775808 ≤ x.f1 ∧ x.f1 ≤ 9223372036854775807) ∧ (-9223372036854775808 ≤ x.f2 ∧ x.f2 ≤ 9223372036854775807) ∧ (-9223372036854775808 ≤ x.f3 ∧ x.f3 ≤ 9223372036854775807)
end Go.Proofs.Ytoomjghabiojkaa.P


namespace Go.Proofs.Ytoomjghabiojkaa.P
open Go.RowKit Go.Proofs.YtoomjghabiojkaaW.PrintWords Go.Proofs.YtoomjghabiojkaaW.PrintLast Go.Proofs.YtoomjghabiojkaaW.PrintMore
attribute [local go_sem] max2_int min2_int max_two min_two max_three min_three max_four min_four   -- for this text's walks alone
set_option linter.unusedVariables false
set_option linter.unusedSimpArgs false

def laws_eqBoolS.l0 : Nat → List Bool → List Bool → Int → Option (Bool)
  | 0, _, _, _ => none
  | k + 1, x0, x1, x5 => if x5 < (x0.length : Int) then (if 0 ≤ x5 then (if x5 < (x1.length : Int) then (if ((rdOf false x0 x5) != (rdOf false x1 x5)) = true then (some false) else (laws_eqBoolS.l0 k x0 x1 (wrap64 (x5 + 1)))) else (none)) else (none)) else (some true)
def laws_eqBoolS.f (k : Nat) (l0 : List Bool) (l1 : List Bool) : Option (Bool) := if (l0.length : Int) = (l1.length : Int) then (laws_eqBoolS.l0 k l0 l1 0) else (some false)
set_option maxHeartbeats 8000000 in
set_option maxRecDepth 100000 in
theorem laws_eqBoolS.calls (k : Nat) (A0 : Option Addr) (c0 : Nat) (l0 : List Bool) (A1 : Option Addr) (c1 : Nat) (l1 : List Bool) (r : Bool) (w : World) (hr0 : Kd.C Kd.bool w A0 l0.length l0) (hc0 : l0.length ≤ c0) (hr1 : Kd.C Kd.bool w A1 l1.length l1) (hc1 : l1.length ≤ c1) (h : laws_eqBoolS.f k l0 l1 = some r) :
    Calls Try.prog 94 #[.slice A0 l0.length c0, .slice A1 l1.length c1] w fun e w' => e = .returned (.bool r) ∧ Drawn0 w w' := by
  have HR0 := Aside0.mk hr0
  have HC0 := Aside0.mk hc0
  clear hr0 hc0
  have HR1 := Aside0.mk hr1
  have HC1 := Aside0.mk hc1
  clear hr1 hc1
  have H : (if (l0.length : Int) = (l1.length : Int) then (laws_eqBoolS.l0 k l0 l1 0) else (some false)) = some r := h
  clear h
  by_cases c3 : (l0.length : Int) = (l1.length : Int)
  · rw [if_pos c3] at H
    have c3b0 : ((l0.length : Int) == (l1.length : Int)) = true := beq_iff_eq.mpr c3
    have c3b1 : ((l0.length : Int) != (l1.length : Int)) = false := bne_eq_false_iff_eq.mpr c3
    have c3b2 : (l0.length == l1.length) = true := by first | simpa using c3 | (simp at c3 ⊢; omega)
    clear c3
    have H' := Aside0.mk H
    clear H
    go_enter Try.func94, Try.ntmps94
    go_wp2
    repeat (go_quiet (fail); try go_wp2)
    go_loopg [5] k (fun kq v5 w' => ∃ (x5_1 : Int), v5 = .int .i64 x5_1 ∧ Aside0 (laws_eqBoolS.l0 kq l0 l1 x5_1 = some r) ∧ Aside0 (kq ≤ k) ∧ Drawn0 w w')
    case atStart => exact ⟨(0), (by first | rfl | (simp; done) | (simp [*]; done)), H', ⟨Nat.le_refl _⟩, by repeat (first | exact Drawn0.refl _ | apply Drawn0.step)⟩
    case round =>
      clear H'
      try clear c1
      try clear p2
      try clear c3
      try clear c3b0
      try clear c3b1
      try clear c3b2
      obtain ⟨x5_1, rfl, HA, HK1, ⟨m1, rfl⟩⟩ := hrel
      cases gk with
      | zero => exact absurd HA.out (by simp [laws_eqBoolS.l0])
      | succ k1 =>
        have H := HA.out
        clear HA
        simp only [laws_eqBoolS.l0] at H
        by_cases c4 : x5_1 < (l0.length : Int)
        · rw [if_pos c4] at H
          have c4b0 : decide (x5_1 < (l0.length : Int)) = true := decide_eq_true c4
          clear c4
          by_cases c5 : 0 ≤ x5_1
          · rw [if_pos c5] at H
            have c5b0 : decide (0 ≤ x5_1) = true := decide_eq_true c5
            clear c5
            by_cases c6 : x5_1 < (l1.length : Int)
            · rw [if_pos c6] at H
              have c6b0 : decide (x5_1 < (l1.length : Int)) = true := decide_eq_true c6
              clear c6
              by_cases c7 : ((rdOf false l0 x5_1) != (rdOf false l1 x5_1)) = true
              · rw [if_pos c7] at H
                have c7b0 : ((rdOf false l0 x5_1) != (rdOf false l1 x5_1)) = true := c7
                (try (have c7b1 : decide ((rdOf false l0 x5_1) = (rdOf false l1 x5_1)) = false := by simpa using c7))
                (try (have c7b2 : ((rdOf false l0 x5_1) == (rdOf false l1 x5_1)) = false := by simpa using c7))
                (try (have c7b3 : ¬ ((rdOf false l0 x5_1) = (rdOf false l1 x5_1)) := by simpa using c7))
                clear c7
                obtain rfl := Option.some.inj H
                have p445 : 0 ≤ (x5_1 : Int) := of_decide_eq_true (by first | (with_reducible assumption) | assumption)
                have q445 : x5_1 < (l0.length : Int) := of_decide_eq_true (by first | (with_reducible assumption) | assumption)
                obtain ⟨ad445, e445, hx445_0⟩ := Kd.at_bool HR0.out x5_1 p445 q445
                cases e445
                replace p445 := eq_true p445
                replace q445 := eq_true q445
                have p446 : 0 ≤ (x5_1 : Int) := of_decide_eq_true (by first | (with_reducible assumption) | assumption)
                have q446 : x5_1 < (l1.length : Int) := of_decide_eq_true (by first | (with_reducible assumption) | assumption)
                obtain ⟨ad446, e446, hx446_0⟩ := Kd.at_bool HR1.out x5_1 p446 q446
                cases e446
                replace p446 := eq_true p446
                replace q446 := eq_true q446
                go_wp2
                repeat (go_quiet (fail); try go_wp2)
                go_ret
                exact ⟨by first | rfl | (simp; done) | (simp [*]; done), by repeat (first | exact Drawn0.refl _ | apply Drawn0.step)⟩
              · rw [if_neg c7] at H
                have c7b0 : ((rdOf false l0 x5_1) != (rdOf false l1 x5_1)) = false := by simpa using c7
                (try (have c7b1 : decide ((rdOf false l0 x5_1) = (rdOf false l1 x5_1)) = true := by simpa using c7))
                (try (have c7b2 : ((rdOf false l0 x5_1) == (rdOf false l1 x5_1)) = true := by simpa using c7))
                clear c7
                have H' := Aside0.mk H
                clear H
                have p445 : 0 ≤ (x5_1 : Int) := of_decide_eq_true (by first | (with_reducible assumption) | assumption)
                have q445 : x5_1 < (l0.length : Int) := of_decide_eq_true (by first | (with_reducible assumption) | assumption)
                obtain ⟨ad445, e445, hx445_0⟩ := Kd.at_bool HR0.out x5_1 p445 q445
                cases e445
                replace p445 := eq_true p445
                replace q445 := eq_true q445
                have p446 : 0 ≤ (x5_1 : Int) := of_decide_eq_true (by first | (with_reducible assumption) | assumption)
                have q446 : x5_1 < (l1.length : Int) := of_decide_eq_true (by first | (with_reducible assumption) | assumption)
                obtain ⟨ad446, e446, hx446_0⟩ := Kd.at_bool HR1.out x5_1 p446 q446
                cases e446
                replace p446 := eq_true p446
                replace q446 := eq_true q446
                go_wp2
                repeat (go_quiet (fail); try go_wp2)
                go_roundg k1
                case measure => have := HK1.out; omega
                case rel => exact ⟨(wrap64 (x5_1 + 1)), (by first | rfl | (simp; done) | (simp [*]; done)), H', ⟨by have := HK1.out; omega⟩, by repeat (first | exact Drawn0.refl _ | apply Drawn0.step)⟩
            · rw [if_neg c6] at H
              exact absurd H (by simp)
          · rw [if_neg c5] at H
            exact absurd H (by simp)
        · rw [if_neg c4] at H
          have c4b0 : decide (x5_1 < (l0.length : Int)) = false := decide_eq_false c4
          clear c4
          obtain rfl := Option.some.inj H
          go_wp2
          repeat (go_quiet (fail); try go_wp2)
          go_ret
          exact ⟨by first | rfl | (simp; done) | (simp [*]; done), by repeat (first | exact Drawn0.refl _ | apply Drawn0.step)⟩
  · rw [if_neg c3] at H
    have c3b0 : ((l0.length : Int) == (l1.length : Int)) = false := beq_eq_false_iff_ne.mpr c3
    have c3b1 : ((l0.length : Int) != (l1.length : Int)) = true := bne_iff_ne.mpr c3
    have c3b2 : (l0.length == l1.length) = false := by first | simpa using c3 | (simp at c3 ⊢; omega)
    obtain rfl := Option.some.inj H
    go_enter Try.func94, Try.ntmps94
    go_wp2
    repeat (go_quiet (fail); try go_wp2)
    go_ret
    exact ⟨by first | rfl | (simp; done) | (simp [*]; done), by repeat (first | exact Drawn0.refl _ | apply Drawn0.step)⟩

end Go.Proofs.Ytoomjghabiojkaa.P


/- Equality of lists of flags. -/
namespace Go.Proofs.Ytoomjghabiojkaa.P
open Go.RowKit Go.Proofs.YtoomjghabiojkaaW.PrintWords
set_option linter.unusedVariables false
theorem rdF_mid (pre : List Bool) (x : Bool) (suf : List Bool) : rdOf false (pre ++ x :: suf) (pre.length : Int) = x := by
  unfold rdOf
  simp
theorem eqBoolS_ev (suf : List Bool) : ∀ (pre : List Bool), pre.length + suf.length ≤ 9223372036854775807 → Ev (fun k => laws_eqBoolS.l0 k (pre ++ suf) (pre ++ suf) (pre.length : Int)) true := by
  induction suf with
  | nil =>
    intro pre h2
    refine Ev.step (fun k => ?_) (Ev.now _)
    simp [laws_eqBoolS.l0]
  | cons x suf ih =>
    intro pre h2
    simp only [List.length_cons] at h2
    refine Ev.step (f := fun k => laws_eqBoolS.l0 k ((pre ++ [x]) ++ suf) ((pre ++ [x]) ++ suf) ((pre ++ [x]).length : Int)) (fun k => ?_) (ih (pre ++ [x]) (by simp; omega))
    simp only [laws_eqBoolS.l0]
    rw [if_pos (by simp; omega), if_pos (by omega), if_pos (by simp; omega), if_neg (by simp), wrap_len (by omega)]
    simp
theorem eqBoolS_f (l : List Bool) (h : l.length ≤ 9223372036854775807) : Ev (fun k => laws_eqBoolS.f k l l) true := by
  refine Ev.congr (fun k => ?_) (eqBoolS_ev l [] (by simpa using h))
  unfold laws_eqBoolS.f
  rw [if_pos rfl]
  rfl
end Go.Proofs.Ytoomjghabiojkaa.P


namespace Go.Proofs.Ytoomjghabiojkaa.P
open Go.RowKit Go.Proofs.YtoomjghabiojkaaW.PrintWords Go.Proofs.YtoomjghabiojkaaW.PrintLast Go.Proofs.YtoomjghabiojkaaW.PrintMore
attribute [local go_sem] max2_int min2_int max_two min_two max_three min_three max_four min_four   -- for this text's walks alone
set_option linter.unusedVariables false
set_option linter.unusedSimpArgs false

def laws_eqMachine.f (k : Nat) (l0_0 : List (List Int)) (l0_1 : List (SimplWindow)) (l0_2 : List Bool) (l1_0 : List (List Int)) (l1_1 : List (SimplWindow)) (l1_2 : List Bool) : Option (Bool) := (laws_eqMemory.f k l0_0 l1_0).bind fun t449 => (if t449 = true then ((laws_eqWindowS.f k l0_1 l1_1).bind fun t450 => (if t450 = true then ((laws_eqBoolS.f k l0_2 l1_2).bind fun t451 => (if t451 = true then (some true) else (some false))) else (some false))) else (some false))
set_option maxHeartbeats 8000000 in
set_option maxRecDepth 100000 in
theorem laws_eqMachine.calls (k : Nat) (A0_0 : Option Addr) (c0_0 : Nat) (l0_0 : List (List Int)) (A0_1 : Option Addr) (c0_1 : Nat) (l0_1 : List (SimplWindow)) (A0_2 : Option Addr) (c0_2 : Nat) (l0_2 : List Bool) (A1_0 : Option Addr) (c1_0 : Nat) (l1_0 : List (List Int)) (A1_1 : Option Addr) (c1_1 : Nat) (l1_1 : List (SimplWindow)) (A1_2 : Option Addr) (c1_2 : Nat) (l1_2 : List Bool) (r : Bool) (w : World) (hr0_0 : Kd.C (Kd.slice 5 (Kd.int .u8)) w A0_0 l0_0.length l0_0) (hc0_0 : l0_0.length ≤ c0_0) (hr0_1 : Kd.C kimplWindow w A0_1 l0_1.length l0_1) (hc0_1 : l0_1.length ≤ c0_1) (hr0_2 : Kd.C Kd.bool w A0_2 l0_2.length l0_2) (hc0_2 : l0_2.length ≤ c0_2) (hr1_0 : Kd.C (Kd.slice 5 (Kd.int .u8)) w A1_0 l1_0.length l1_0) (hc1_0 : l1_0.length ≤ c1_0) (hr1_1 : Kd.C kimplWindow w A1_1 l1_1.length l1_1) (hc1_1 : l1_1.length ≤ c1_1) (hr1_2 : Kd.C Kd.bool w A1_2 l1_2.length l1_2) (hc1_2 : l1_2.length ≤ c1_2) (h : laws_eqMachine.f k l0_0 l0_1 l0_2 l1_0 l1_1 l1_2 = some r) :
    Calls Try.prog 35 #[.agg #[.slice A0_0 l0_0.length c0_0, .slice A0_1 l0_1.length c0_1, .slice A0_2 l0_2.length c0_2], .agg #[.slice A1_0 l1_0.length c1_0, .slice A1_1 l1_1.length c1_1, .slice A1_2 l1_2.length c1_2]] w fun e w' => e = .returned (.bool r) ∧ Below w.heap.size w w' := by
  have hu60 := Try.underlying60
  have hu26 := Try.underlying26
  have HR0_0 := Aside0.mk hr0_0
  have HC0_0 := Aside0.mk hc0_0
  clear hr0_0 hc0_0
  have HR0_1 := Aside0.mk hr0_1
  have HC0_1 := Aside0.mk hc0_1
  clear hr0_1 hc0_1
  have HR0_2 := Aside0.mk hr0_2
  have HC0_2 := Aside0.mk hc0_2
  clear hr0_2 hc0_2
  have HR1_0 := Aside0.mk hr1_0
  have HC1_0 := Aside0.mk hc1_0
  clear hr1_0 hc1_0
  have HR1_1 := Aside0.mk hr1_1
  have HC1_1 := Aside0.mk hc1_1
  clear hr1_1 hc1_1
  have HR1_2 := Aside0.mk hr1_2
  have HC1_2 := Aside0.mk hc1_2
  clear hr1_2 hc1_2
  have HB := Aside0.mk (Below.refl w.heap.size w)
  have H : ((laws_eqMemory.f k l0_0 l1_0).bind fun t449 => (if t449 = true then ((laws_eqWindowS.f k l0_1 l1_1).bind fun t450 => (if t450 = true then ((laws_eqBoolS.f k l0_2 l1_2).bind fun t451 => (if t451 = true then (some true) else (some false))) else (some false))) else (some false))) = some r := h
  clear h
  replace H := Option.bind_eq_some_iff.mp H
  obtain ⟨t449, A30, H⟩ := H
  replace H : (if t449 = true then ((laws_eqWindowS.f k l0_1 l1_1).bind fun t450 => (if t450 = true then ((laws_eqBoolS.f k l0_2 l1_2).bind fun t451 => (if t451 = true then (some true) else (some false))) else (some false))) else (some false)) = some r := H
  have A3 := Aside0.mk A30
  clear A30
  by_cases c4 : t449 = true
  · subst c4
    have H1 : ((laws_eqWindowS.f k l0_1 l1_1).bind fun t450 => (if t450 = true then ((laws_eqBoolS.f k l0_2 l1_2).bind fun t451 => (if t451 = true then (some true) else (some false))) else (some false))) = some r := by rw [if_pos rfl] at H; exact H
    clear H
    have H := H1
    clear H1
    replace H := Option.bind_eq_some_iff.mp H
    obtain ⟨t450, A50, H⟩ := H
    replace H : (if t450 = true then ((laws_eqBoolS.f k l0_2 l1_2).bind fun t451 => (if t451 = true then (some true) else (some false))) else (some false)) = some r := H
    have A5 := Aside0.mk A50
    clear A50
    by_cases c6 : t450 = true
    · subst c6
      have H1 : ((laws_eqBoolS.f k l0_2 l1_2).bind fun t451 => (if t451 = true then (some true) else (some false))) = some r := by rw [if_pos rfl] at H; exact H
      clear H
      have H := H1
      clear H1
      replace H := Option.bind_eq_some_iff.mp H
      obtain ⟨t451, A70, H⟩ := H
      replace H : (if t451 = true then (some true) else (some false)) = some r := H
      have A7 := Aside0.mk A70
      clear A70
      by_cases c8 : t451 = true
      · subst c8
        have H1 : (some true) = some r := by rw [if_pos rfl] at H; exact H
        clear H
        have H := H1
        clear H1
        obtain rfl := Option.some.inj H
        go_enter Try.func35, Try.ntmps35
        go_wp2_with (first | ((with_reducible refine gate_dst (N := 2) rfl ?_); refine box_event ?hg (N := 2) ?hd (cs := #[.slice A0_0 l0_0.length c0_0, .slice A0_1 l0_1.length c0_1, .slice A0_2 l0_2.length c0_2]) (t := 60) ?hr ?_; (case hd => rfl); (case hg => rfl); (case hr => first | (go_simp; done) | (go_simp; rfl)); intro gb447 hg w9 hbox hb; have n0_ := Aside0.mk (below_step (by repeat (first | (with_reducible first | exact HB.out | apply below_alloc | apply pw_below_drewN | apply below_drew1) | exact HB.out)) hb); have n1_ := Aside0.mk (hbox); have n2_ := Aside0.mk ((by rw [hg]; exact (below_size (by repeat (first | (with_reducible first | exact HB.out | apply below_alloc | apply pw_below_drewN | apply below_drew1) | exact HB.out))) : w.heap.size ≤ gb447)); have n3_ := Aside0.mk ((by rw [hg]; exact (below_size (by repeat (first | (with_reducible first | exact HB.out | apply below_alloc | apply pw_below_drewN | apply below_drew1) | exact HB.out))) : w.heap.size ≤ gb447)); clear HB; have HB := n0_; have BK447 := n1_; have GW447 := n2_; have GE447 := n3_; clear n0_ n1_ n2_ n3_; clear hb hbox hg) | ((with_reducible refine gate_dst (N := 3) rfl ?_); refine box_event ?hg (N := 3) ?hd (cs := #[.slice A1_0 l1_0.length c1_0, .slice A1_1 l1_1.length c1_1, .slice A1_2 l1_2.length c1_2]) (t := 60) ?hr ?_; (case hd => rfl); (case hg => rfl); (case hr => first | (go_simp; done) | (go_simp; rfl)); intro gb448 hg w10 hbox hb; have n0_ := Aside0.mk (blk_below (g := gb447) (o := .cells #[.slice A0_0 l0_0.length c0_0, .slice A0_1 l0_1.length c0_1, .slice A0_2 l0_2.length c0_2] 60 (0, 0)) (by (with_reducible repeat (first | refine blk_drewN ?_ _ | refine blk_drew ?_ | refine blk_alloc ?_ _)); exact BK447.out) hb); have n1_ := Aside0.mk (below_step (by repeat (first | (with_reducible first | exact HB.out | apply below_alloc | apply pw_below_drewN | apply below_drew1 | refine below_set ?_ GE447.out) | exact HB.out)) hb); have n2_ := Aside0.mk (hbox); have n3_ := Aside0.mk ((by rw [hg]; exact (below_size (by repeat (first | (with_reducible first | exact HB.out | apply below_alloc | apply pw_below_drewN | apply below_drew1 | refine below_set ?_ GE447.out) | exact HB.out))) : w.heap.size ≤ gb448)); have n4_ := Aside0.mk ((by rw [hg]; exact (below_size (by repeat (first | (with_reducible first | exact HB.out | apply below_alloc | apply pw_below_drewN | apply below_drew1 | refine below_set ?_ GE447.out) | exact HB.out))) : w.heap.size ≤ gb448)); have n5_ := Aside0.mk ((by rw [hg]; exact Nat.ne_of_lt (blk_lt (g := gb447) (o := .cells #[.slice A0_0 l0_0.length c0_0, .slice A0_1 l0_1.length c0_1, .slice A0_2 l0_2.length c0_2] 60 (0, 0)) (by (with_reducible repeat (first | refine blk_drewN ?_ _ | refine blk_drew ?_ | refine blk_alloc ?_ _)); exact BK447.out)) : gb447 ≠ gb448)); have n6_ := Aside0.mk ((by rw [hg]; exact Nat.ne_of_gt (blk_lt (g := gb447) (o := .cells #[.slice A0_0 l0_0.length c0_0, .slice A0_1 l0_1.length c0_1, .slice A0_2 l0_2.length c0_2] 60 (0, 0)) (by (with_reducible repeat (first | refine blk_drewN ?_ _ | refine blk_drew ?_ | refine blk_alloc ?_ _)); exact BK447.out)) : gb448 ≠ gb447)); clear BK447; clear HB; have BK447 := n0_; have HB := n1_; have BK448 := n2_; have GW448 := n3_; have GE448 := n4_; have NB447_448 := n5_; have NB448_447 := n6_; clear n0_ n1_ n2_ n3_ n4_ n5_ n6_; clear hb hbox hg; have hnb11 := NB447_448.out; have hnc11 := NB448_447.out; have hcz12_0 : w10.cell? ⟨gb447, 0, none⟩ = some (.slice A0_0 l0_0.length c0_0) := (blk_cell BK447.out 0).trans rfl; have hcz12_1 : w10.cell? ⟨gb447, 1, none⟩ = some (.slice A0_1 l0_1.length c0_1) := (blk_cell BK447.out 1).trans rfl; have hcz12_2 : w10.cell? ⟨gb447, 2, none⟩ = some (.slice A0_2 l0_2.length c0_2) := (blk_cell BK447.out 2).trans rfl; have hfz12_0 := blk_frozen BK447.out 0; have hfz12_1 := blk_frozen BK447.out 1; have hfz12_2 := blk_frozen BK447.out 2; have hcz13_0 : w10.cell? ⟨gb448, 0, none⟩ = some (.slice A1_0 l1_0.length c1_0) := (blk_cell BK448.out 0).trans rfl; have hcz13_1 : w10.cell? ⟨gb448, 1, none⟩ = some (.slice A1_1 l1_1.length c1_1) := (blk_cell BK448.out 1).trans rfl; have hcz13_2 : w10.cell? ⟨gb448, 2, none⟩ = some (.slice A1_2 l1_2.length c1_2) := (blk_cell BK448.out 2).trans rfl; have hfz13_0 := blk_frozen BK448.out 0; have hfz13_1 := blk_frozen BK448.out 1; have hfz13_2 := blk_frozen BK448.out 2) | ((with_reducible refine gate_callee (f := 19) rfl ?_); refine goesL_ (some 9) rfl rfl Try.func19 (by kernel_rfl) rfl #[.agg #[.slice A0_0 l0_0.length c0_0], .agg #[.slice A1_0 l1_0.length c1_0]] rfl (by (try simp only [List.map_toArray, List.map_cons, List.map_nil]); first | done | rfl | (simp only [List.length_drop, List.length_take]; rfl)) ?_; (with_reducible refine (laws_eqMemory.calls k _ _ l0_0 _ _ l1_0 true _ ?side1 ?side2 ?side3 ?side4 A3.out).mono ?_); (case side1 => repeat (first | exact (Kd.C_below HR0_0.out HB.out) | (with_reducible refine Kd.C_alloc ?_ _) | (with_reducible refine Kd.C_drewN ?_ _) | (with_reducible refine Kd.C_drew ?_))); (case side2 => exact HC0_0.out); (case side3 => repeat (first | exact (Kd.C_below HR1_0.out HB.out) | (with_reducible refine Kd.C_alloc ?_ _) | (with_reducible refine Kd.C_drewN ?_ _) | (with_reducible refine Kd.C_drew ?_))); (case side4 => exact HC1_0.out); rintro e w14 ⟨rfl, hb⟩; refine ⟨_, rfl, ?_⟩; have n0_ := Aside0.mk (blk_below (g := gb447) (o := .cells #[.slice A0_0 l0_0.length c0_0, .slice A0_1 l0_1.length c0_1, .slice A0_2 l0_2.length c0_2] 60 (0, 0)) (by (with_reducible repeat (first | refine blk_drewN ?_ _ | refine blk_drew ?_ | refine blk_alloc ?_ _)); exact BK447.out) hb); have n1_ := Aside0.mk (blk_below (g := gb448) (o := .cells #[.slice A1_0 l1_0.length c1_0, .slice A1_1 l1_1.length c1_1, .slice A1_2 l1_2.length c1_2] 60 (0, 0)) (by (with_reducible repeat (first | refine blk_drewN ?_ _ | refine blk_drew ?_ | refine blk_alloc ?_ _)); exact BK448.out) hb); have n2_ := Aside0.mk (below_step (by repeat (first | (with_reducible first | exact HB.out | apply below_alloc | apply pw_below_drewN | apply below_drew1 | refine below_set ?_ GE447.out | refine below_set ?_ GE448.out) | exact HB.out)) hb); clear BK447; clear BK448; clear HB; have BK447 := n0_; have BK448 := n1_; have HB := n2_; clear n0_ n1_ n2_; (try clear hb); (try clear hb2); (try clear hk); (try clear hi); have hcz15_0 : w14.cell? ⟨gb447, 0, none⟩ = some (.slice A0_0 l0_0.length c0_0) := (blk_cell BK447.out 0).trans rfl; have hcz15_1 : w14.cell? ⟨gb447, 1, none⟩ = some (.slice A0_1 l0_1.length c0_1) := (blk_cell BK447.out 1).trans rfl; have hcz15_2 : w14.cell? ⟨gb447, 2, none⟩ = some (.slice A0_2 l0_2.length c0_2) := (blk_cell BK447.out 2).trans rfl; have hfz15_0 := blk_frozen BK447.out 0; have hfz15_1 := blk_frozen BK447.out 1; have hfz15_2 := blk_frozen BK447.out 2; have hcz16_0 : w14.cell? ⟨gb448, 0, none⟩ = some (.slice A1_0 l1_0.length c1_0) := (blk_cell BK448.out 0).trans rfl; have hcz16_1 : w14.cell? ⟨gb448, 1, none⟩ = some (.slice A1_1 l1_1.length c1_1) := (blk_cell BK448.out 1).trans rfl; have hcz16_2 : w14.cell? ⟨gb448, 2, none⟩ = some (.slice A1_2 l1_2.length c1_2) := (blk_cell BK448.out 2).trans rfl; have hfz16_0 := blk_frozen BK448.out 0; have hfz16_1 := blk_frozen BK448.out 1; have hfz16_2 := blk_frozen BK448.out 2) | ((with_reducible refine gate_callee (f := 77) rfl ?_); refine goesL_ (some 15) rfl rfl Try.func77 (by kernel_rfl) rfl #[.slice A0_1 l0_1.length c0_1, .slice A1_1 l1_1.length c1_1] rfl (by (try simp only [List.map_toArray, List.map_cons, List.map_nil]); first | done | rfl | (simp only [List.length_drop, List.length_take]; rfl)) ?_; (with_reducible refine (laws_eqWindowS.calls k _ _ l0_1 _ _ l1_1 true _ ?side1 ?side2 ?side3 ?side4 A5.out).mono ?_); (case side1 => repeat (first | exact (Kd.C_below HR0_1.out HB.out) | (with_reducible refine Kd.C_alloc ?_ _) | (with_reducible refine Kd.C_drewN ?_ _) | (with_reducible refine Kd.C_drew ?_))); (case side2 => exact HC0_1.out); (case side3 => repeat (first | exact (Kd.C_below HR1_1.out HB.out) | (with_reducible refine Kd.C_alloc ?_ _) | (with_reducible refine Kd.C_drewN ?_ _) | (with_reducible refine Kd.C_drew ?_))); (case side4 => exact HC1_1.out); rintro e w17 ⟨rfl, hb⟩; refine ⟨_, rfl, ?_⟩; have n0_ := Aside0.mk (blk_below (g := gb447) (o := .cells #[.slice A0_0 l0_0.length c0_0, .slice A0_1 l0_1.length c0_1, .slice A0_2 l0_2.length c0_2] 60 (0, 0)) (by (with_reducible repeat (first | refine blk_drewN ?_ _ | refine blk_drew ?_ | refine blk_alloc ?_ _)); exact BK447.out) hb); have n1_ := Aside0.mk (blk_below (g := gb448) (o := .cells #[.slice A1_0 l1_0.length c1_0, .slice A1_1 l1_1.length c1_1, .slice A1_2 l1_2.length c1_2] 60 (0, 0)) (by (with_reducible repeat (first | refine blk_drewN ?_ _ | refine blk_drew ?_ | refine blk_alloc ?_ _)); exact BK448.out) hb); have n2_ := Aside0.mk (below_step (by repeat (first | (with_reducible first | exact HB.out | apply below_alloc | apply pw_below_drewN | apply below_drew1 | refine below_set ?_ GE447.out | refine below_set ?_ GE448.out) | exact HB.out)) hb); clear BK447; clear BK448; clear HB; have BK447 := n0_; have BK448 := n1_; have HB := n2_; clear n0_ n1_ n2_; (try clear hb); (try clear hb2); (try clear hk); (try clear hi); have hcz18_0 : w17.cell? ⟨gb447, 0, none⟩ = some (.slice A0_0 l0_0.length c0_0) := (blk_cell BK447.out 0).trans rfl; have hcz18_1 : w17.cell? ⟨gb447, 1, none⟩ = some (.slice A0_1 l0_1.length c0_1) := (blk_cell BK447.out 1).trans rfl; have hcz18_2 : w17.cell? ⟨gb447, 2, none⟩ = some (.slice A0_2 l0_2.length c0_2) := (blk_cell BK447.out 2).trans rfl; have hfz18_0 := blk_frozen BK447.out 0; have hfz18_1 := blk_frozen BK447.out 1; have hfz18_2 := blk_frozen BK447.out 2; have hcz19_0 : w17.cell? ⟨gb448, 0, none⟩ = some (.slice A1_0 l1_0.length c1_0) := (blk_cell BK448.out 0).trans rfl; have hcz19_1 : w17.cell? ⟨gb448, 1, none⟩ = some (.slice A1_1 l1_1.length c1_1) := (blk_cell BK448.out 1).trans rfl; have hcz19_2 : w17.cell? ⟨gb448, 2, none⟩ = some (.slice A1_2 l1_2.length c1_2) := (blk_cell BK448.out 2).trans rfl; have hfz19_0 := blk_frozen BK448.out 0; have hfz19_1 := blk_frozen BK448.out 1; have hfz19_2 := blk_frozen BK448.out 2) | ((with_reducible refine gate_callee (f := 94) rfl ?_); refine goesL_ (some 21) rfl rfl Try.func94 (by kernel_rfl) rfl #[.slice A0_2 l0_2.length c0_2, .slice A1_2 l1_2.length c1_2] rfl (by (try simp only [List.map_toArray, List.map_cons, List.map_nil]); first | done | rfl | (simp only [List.length_drop, List.length_take]; rfl)) ?_; (with_reducible refine (laws_eqBoolS.calls k _ _ l0_2 _ _ l1_2 true _ ?side1 ?side2 ?side3 ?side4 A7.out).mono ?_); (case side1 => repeat (first | exact (Kd.C_below HR0_2.out HB.out) | (with_reducible refine Kd.C_alloc ?_ _) | (with_reducible refine Kd.C_drewN ?_ _) | (with_reducible refine Kd.C_drew ?_))); (case side2 => exact HC0_2.out); (case side3 => repeat (first | exact (Kd.C_below HR1_2.out HB.out) | (with_reducible refine Kd.C_alloc ?_ _) | (with_reducible refine Kd.C_drewN ?_ _) | (with_reducible refine Kd.C_drew ?_))); (case side4 => exact HC1_2.out); rintro e w' ⟨rfl, ⟨nd, rfl⟩⟩; refine ⟨_, rfl, ?_⟩))
        go_ret
        exact ⟨by first | rfl | (simp [errW_none, errW_some] <;> rfl) | (simp [*, errW_none, errW_some] <;> rfl), by repeat (first | (with_reducible first | exact HB.out | apply below_alloc | apply pw_below_drewN | apply below_drew1 | refine below_set ?_ GE447.out | refine below_set ?_ GE448.out) | exact HB.out)⟩
      · replace c8 := Bool.eq_false_iff.mpr c8
        subst c8
        have H1 : (some false) = some r := by rw [if_neg (show ¬ (false = true) by decide)] at H; exact H
        clear H
        have H := H1
        clear H1
        obtain rfl := Option.some.inj H
        go_enter Try.func35, Try.ntmps35
        go_wp2_with (first | ((with_reducible refine gate_dst (N := 2) rfl ?_); refine box_event ?hg (N := 2) ?hd (cs := #[.slice A0_0 l0_0.length c0_0, .slice A0_1 l0_1.length c0_1, .slice A0_2 l0_2.length c0_2]) (t := 60) ?hr ?_; (case hd => rfl); (case hg => rfl); (case hr => first | (go_simp; done) | (go_simp; rfl)); intro gb447 hg w20 hbox hb; have n0_ := Aside0.mk (below_step (by repeat (first | (with_reducible first | exact HB.out | apply below_alloc | apply pw_below_drewN | apply below_drew1) | exact HB.out)) hb); have n1_ := Aside0.mk (hbox); have n2_ := Aside0.mk ((by rw [hg]; exact (below_size (by repeat (first | (with_reducible first | exact HB.out | apply below_alloc | apply pw_below_drewN | apply below_drew1) | exact HB.out))) : w.heap.size ≤ gb447)); have n3_ := Aside0.mk ((by rw [hg]; exact (below_size (by repeat (first | (with_reducible first | exact HB.out | apply below_alloc | apply pw_below_drewN | apply below_drew1) | exact HB.out))) : w.heap.size ≤ gb447)); clear HB; have HB := n0_; have BK447 := n1_; have GW447 := n2_; have GE447 := n3_; clear n0_ n1_ n2_ n3_; clear hb hbox hg) | ((with_reducible refine gate_dst (N := 3) rfl ?_); refine box_event ?hg (N := 3) ?hd (cs := #[.slice A1_0 l1_0.length c1_0, .slice A1_1 l1_1.length c1_1, .slice A1_2 l1_2.length c1_2]) (t := 60) ?hr ?_; (case hd => rfl); (case hg => rfl); (case hr => first | (go_simp; done) | (go_simp; rfl)); intro gb448 hg w21 hbox hb; have n0_ := Aside0.mk (blk_below (g := gb447) (o := .cells #[.slice A0_0 l0_0.length c0_0, .slice A0_1 l0_1.length c0_1, .slice A0_2 l0_2.length c0_2] 60 (0, 0)) (by (with_reducible repeat (first | refine blk_drewN ?_ _ | refine blk_drew ?_ | refine blk_alloc ?_ _)); exact BK447.out) hb); have n1_ := Aside0.mk (below_step (by repeat (first | (with_reducible first | exact HB.out | apply below_alloc | apply pw_below_drewN | apply below_drew1 | refine below_set ?_ GE447.out) | exact HB.out)) hb); have n2_ := Aside0.mk (hbox); have n3_ := Aside0.mk ((by rw [hg]; exact (below_size (by repeat (first | (with_reducible first | exact HB.out | apply below_alloc | apply pw_below_drewN | apply below_drew1 | refine below_set ?_ GE447.out) | exact HB.out))) : w.heap.size ≤ gb448)); have n4_ := Aside0.mk ((by rw [hg]; exact (below_size (by repeat (first | (with_reducible first | exact HB.out | apply below_alloc | apply pw_below_drewN | apply below_drew1 | refine below_set ?_ GE447.out) | exact HB.out))) : w.heap.size ≤ gb448)); have n5_ := Aside0.mk ((by rw [hg]; exact Nat.ne_of_lt (blk_lt (g := gb447) (o := .cells #[.slice A0_0 l0_0.length c0_0, .slice A0_1 l0_1.length c0_1, .slice A0_2 l0_2.length c0_2] 60 (0, 0)) (by (with_reducible repeat (first | refine blk_drewN ?_ _ | refine blk_drew ?_ | refine blk_alloc ?_ _)); exact BK447.out)) : gb447 ≠ gb448)); have n6_ := Aside0.mk ((by rw [hg]; exact Nat.ne_of_gt (blk_lt (g := gb447) (o := .cells #[.slice A0_0 l0_0.length c0_0, .slice A0_1 l0_1.length c0_1, .slice A0_2 l0_2.length c0_2] 60 (0, 0)) (by (with_reducible repeat (first | refine blk_drewN ?_ _ | refine blk_drew ?_ | refine blk_alloc ?_ _)); exact BK447.out)) : gb448 ≠ gb447)); clear BK447; clear HB; have BK447 := n0_; have HB := n1_; have BK448 := n2_; have GW448 := n3_; have GE448 := n4_; have NB447_448 := n5_; have NB448_447 := n6_; clear n0_ n1_ n2_ n3_ n4_ n5_ n6_; clear hb hbox hg; have hnb22 := NB447_448.out; have hnc22 := NB448_447.out; have hcz23_0 : w21.cell? ⟨gb447, 0, none⟩ = some (.slice A0_0 l0_0.length c0_0) := (blk_cell BK447.out 0).trans rfl; have hcz23_1 : w21.cell? ⟨gb447, 1, none⟩ = some (.slice A0_1 l0_1.length c0_1) := (blk_cell BK447.out 1).trans rfl; have hcz23_2 : w21.cell? ⟨gb447, 2, none⟩ = some (.slice A0_2 l0_2.length c0_2) := (blk_cell BK447.out 2).trans rfl; have hfz23_0 := blk_frozen BK447.out 0; have hfz23_1 := blk_frozen BK447.out 1; have hfz23_2 := blk_frozen BK447.out 2; have hcz24_0 : w21.cell? ⟨gb448, 0, none⟩ = some (.slice A1_0 l1_0.length c1_0) := (blk_cell BK448.out 0).trans rfl; have hcz24_1 : w21.cell? ⟨gb448, 1, none⟩ = some (.slice A1_1 l1_1.length c1_1) := (blk_cell BK448.out 1).trans rfl; have hcz24_2 : w21.cell? ⟨gb448, 2, none⟩ = some (.slice A1_2 l1_2.length c1_2) := (blk_cell BK448.out 2).trans rfl; have hfz24_0 := blk_frozen BK448.out 0; have hfz24_1 := blk_frozen BK448.out 1; have hfz24_2 := blk_frozen BK448.out 2) | ((with_reducible refine gate_callee (f := 19) rfl ?_); refine goesL_ (some 9) rfl rfl Try.func19 (by kernel_rfl) rfl #[.agg #[.slice A0_0 l0_0.length c0_0], .agg #[.slice A1_0 l1_0.length c1_0]] rfl (by (try simp only [List.map_toArray, List.map_cons, List.map_nil]); first | done | rfl | (simp only [List.length_drop, List.length_take]; rfl)) ?_; (with_reducible refine (laws_eqMemory.calls k _ _ l0_0 _ _ l1_0 true _ ?side1 ?side2 ?side3 ?side4 A3.out).mono ?_); (case side1 => repeat (first | exact (Kd.C_below HR0_0.out HB.out) | (with_reducible refine Kd.C_alloc ?_ _) | (with_reducible refine Kd.C_drewN ?_ _) | (with_reducible refine Kd.C_drew ?_))); (case side2 => exact HC0_0.out); (case side3 => repeat (first | exact (Kd.C_below HR1_0.out HB.out) | (with_reducible refine Kd.C_alloc ?_ _) | (with_reducible refine Kd.C_drewN ?_ _) | (with_reducible refine Kd.C_drew ?_))); (case side4 => exact HC1_0.out); rintro e w25 ⟨rfl, hb⟩; refine ⟨_, rfl, ?_⟩; have n0_ := Aside0.mk (blk_below (g := gb447) (o := .cells #[.slice A0_0 l0_0.length c0_0, .slice A0_1 l0_1.length c0_1, .slice A0_2 l0_2.length c0_2] 60 (0, 0)) (by (with_reducible repeat (first | refine blk_drewN ?_ _ | refine blk_drew ?_ | refine blk_alloc ?_ _)); exact BK447.out) hb); have n1_ := Aside0.mk (blk_below (g := gb448) (o := .cells #[.slice A1_0 l1_0.length c1_0, .slice A1_1 l1_1.length c1_1, .slice A1_2 l1_2.length c1_2] 60 (0, 0)) (by (with_reducible repeat (first | refine blk_drewN ?_ _ | refine blk_drew ?_ | refine blk_alloc ?_ _)); exact BK448.out) hb); have n2_ := Aside0.mk (below_step (by repeat (first | (with_reducible first | exact HB.out | apply below_alloc | apply pw_below_drewN | apply below_drew1 | refine below_set ?_ GE447.out | refine below_set ?_ GE448.out) | exact HB.out)) hb); clear BK447; clear BK448; clear HB; have BK447 := n0_; have BK448 := n1_; have HB := n2_; clear n0_ n1_ n2_; (try clear hb); (try clear hb2); (try clear hk); (try clear hi); have hcz26_0 : w25.cell? ⟨gb447, 0, none⟩ = some (.slice A0_0 l0_0.length c0_0) := (blk_cell BK447.out 0).trans rfl; have hcz26_1 : w25.cell? ⟨gb447, 1, none⟩ = some (.slice A0_1 l0_1.length c0_1) := (blk_cell BK447.out 1).trans rfl; have hcz26_2 : w25.cell? ⟨gb447, 2, none⟩ = some (.slice A0_2 l0_2.length c0_2) := (blk_cell BK447.out 2).trans rfl; have hfz26_0 := blk_frozen BK447.out 0; have hfz26_1 := blk_frozen BK447.out 1; have hfz26_2 := blk_frozen BK447.out 2; have hcz27_0 : w25.cell? ⟨gb448, 0, none⟩ = some (.slice A1_0 l1_0.length c1_0) := (blk_cell BK448.out 0).trans rfl; have hcz27_1 : w25.cell? ⟨gb448, 1, none⟩ = some (.slice A1_1 l1_1.length c1_1) := (blk_cell BK448.out 1).trans rfl; have hcz27_2 : w25.cell? ⟨gb448, 2, none⟩ = some (.slice A1_2 l1_2.length c1_2) := (blk_cell BK448.out 2).trans rfl; have hfz27_0 := blk_frozen BK448.out 0; have hfz27_1 := blk_frozen BK448.out 1; have hfz27_2 := blk_frozen BK448.out 2) | ((with_reducible refine gate_callee (f := 77) rfl ?_); refine goesL_ (some 15) rfl rfl Try.func77 (by kernel_rfl) rfl #[.slice A0_1 l0_1.length c0_1, .slice A1_1 l1_1.length c1_1] rfl (by (try simp only [List.map_toArray, List.map_cons, List.map_nil]); first | done | rfl | (simp only [List.length_drop, List.length_take]; rfl)) ?_; (with_reducible refine (laws_eqWindowS.calls k _ _ l0_1 _ _ l1_1 true _ ?side1 ?side2 ?side3 ?side4 A5.out).mono ?_); (case side1 => repeat (first | exact (Kd.C_below HR0_1.out HB.out) | (with_reducible refine Kd.C_alloc ?_ _) | (with_reducible refine Kd.C_drewN ?_ _) | (with_reducible refine Kd.C_drew ?_))); (case side2 => exact HC0_1.out); (case side3 => repeat (first | exact (Kd.C_below HR1_1.out HB.out) | (with_reducible refine Kd.C_alloc ?_ _) | (with_reducible refine Kd.C_drewN ?_ _) | (with_reducible refine Kd.C_drew ?_))); (case side4 => exact HC1_1.out); rintro e w28 ⟨rfl, hb⟩; refine ⟨_, rfl, ?_⟩; have n0_ := Aside0.mk (blk_below (g := gb447) (o := .cells #[.slice A0_0 l0_0.length c0_0, .slice A0_1 l0_1.length c0_1, .slice A0_2 l0_2.length c0_2] 60 (0, 0)) (by (with_reducible repeat (first | refine blk_drewN ?_ _ | refine blk_drew ?_ | refine blk_alloc ?_ _)); exact BK447.out) hb); have n1_ := Aside0.mk (blk_below (g := gb448) (o := .cells #[.slice A1_0 l1_0.length c1_0, .slice A1_1 l1_1.length c1_1, .slice A1_2 l1_2.length c1_2] 60 (0, 0)) (by (with_reducible repeat (first | refine blk_drewN ?_ _ | refine blk_drew ?_ | refine blk_alloc ?_ _)); exact BK448.out) hb); have n2_ := Aside0.mk (below_step (by repeat (first | (with_reducible first | exact HB.out | apply below_alloc | apply pw_below_drewN | apply below_drew1 | refine below_set ?_ GE447.out | refine below_set ?_ GE448.out) | exact HB.out)) hb); clear BK447; clear BK448; clear HB; have BK447 := n0_; have BK448 := n1_; have HB := n2_; clear n0_ n1_ n2_; (try clear hb); (try clear hb2); (try clear hk); (try clear hi); have hcz29_0 : w28.cell? ⟨gb447, 0, none⟩ = some (.slice A0_0 l0_0.length c0_0) := (blk_cell BK447.out 0).trans rfl; have hcz29_1 : w28.cell? ⟨gb447, 1, none⟩ = some (.slice A0_1 l0_1.length c0_1) := (blk_cell BK447.out 1).trans rfl; have hcz29_2 : w28.cell? ⟨gb447, 2, none⟩ = some (.slice A0_2 l0_2.length c0_2) := (blk_cell BK447.out 2).trans rfl; have hfz29_0 := blk_frozen BK447.out 0; have hfz29_1 := blk_frozen BK447.out 1; have hfz29_2 := blk_frozen BK447.out 2; have hcz30_0 : w28.cell? ⟨gb448, 0, none⟩ = some (.slice A1_0 l1_0.length c1_0) := (blk_cell BK448.out 0).trans rfl; have hcz30_1 : w28.cell? ⟨gb448, 1, none⟩ = some (.slice A1_1 l1_1.length c1_1) := (blk_cell BK448.out 1).trans rfl; have hcz30_2 : w28.cell? ⟨gb448, 2, none⟩ = some (.slice A1_2 l1_2.length c1_2) := (blk_cell BK448.out 2).trans rfl; have hfz30_0 := blk_frozen BK448.out 0; have hfz30_1 := blk_frozen BK448.out 1; have hfz30_2 := blk_frozen BK448.out 2) | ((with_reducible refine gate_callee (f := 94) rfl ?_); refine goesL_ (some 21) rfl rfl Try.func94 (by kernel_rfl) rfl #[.slice A0_2 l0_2.length c0_2, .slice A1_2 l1_2.length c1_2] rfl (by (try simp only [List.map_toArray, List.map_cons, List.map_nil]); first | done | rfl | (simp only [List.length_drop, List.length_take]; rfl)) ?_; (with_reducible refine (laws_eqBoolS.calls k _ _ l0_2 _ _ l1_2 false _ ?side1 ?side2 ?side3 ?side4 A7.out).mono ?_); (case side1 => repeat (first | exact (Kd.C_below HR0_2.out HB.out) | (with_reducible refine Kd.C_alloc ?_ _) | (with_reducible refine Kd.C_drewN ?_ _) | (with_reducible refine Kd.C_drew ?_))); (case side2 => exact HC0_2.out); (case side3 => repeat (first | exact (Kd.C_below HR1_2.out HB.out) | (with_reducible refine Kd.C_alloc ?_ _) | (with_reducible refine Kd.C_drewN ?_ _) | (with_reducible refine Kd.C_drew ?_))); (case side4 => exact HC1_2.out); rintro e w' ⟨rfl, ⟨nd, rfl⟩⟩; refine ⟨_, rfl, ?_⟩))
        go_ret
        exact ⟨by first | rfl | (simp [errW_none, errW_some] <;> rfl) | (simp [*, errW_none, errW_some] <;> rfl), by repeat (first | (with_reducible first | exact HB.out | apply below_alloc | apply pw_below_drewN | apply below_drew1 | refine below_set ?_ GE447.out | refine below_set ?_ GE448.out) | exact HB.out)⟩
    · replace c6 := Bool.eq_false_iff.mpr c6
      subst c6
      have H1 : (some false) = some r := by rw [if_neg (show ¬ (false = true) by decide)] at H; exact H
      clear H
      have H := H1
      clear H1
      obtain rfl := Option.some.inj H
      go_enter Try.func35, Try.ntmps35
      go_wp2_with (first | ((with_reducible refine gate_dst (N := 2) rfl ?_); refine box_event ?hg (N := 2) ?hd (cs := #[.slice A0_0 l0_0.length c0_0, .slice A0_1 l0_1.length c0_1, .slice A0_2 l0_2.length c0_2]) (t := 60) ?hr ?_; (case hd => rfl); (case hg => rfl); (case hr => first | (go_simp; done) | (go_simp; rfl)); intro gb447 hg w31 hbox hb; have n0_ := Aside0.mk (below_step (by repeat (first | (with_reducible first | exact HB.out | apply below_alloc | apply pw_below_drewN | apply below_drew1) | exact HB.out)) hb); have n1_ := Aside0.mk (hbox); have n2_ := Aside0.mk ((by rw [hg]; exact (below_size (by repeat (first | (with_reducible first | exact HB.out | apply below_alloc | apply pw_below_drewN | apply below_drew1) | exact HB.out))) : w.heap.size ≤ gb447)); have n3_ := Aside0.mk ((by rw [hg]; exact (below_size (by repeat (first | (with_reducible first | exact HB.out | apply below_alloc | apply pw_below_drewN | apply below_drew1) | exact HB.out))) : w.heap.size ≤ gb447)); clear HB; have HB := n0_; have BK447 := n1_; have GW447 := n2_; have GE447 := n3_; clear n0_ n1_ n2_ n3_; clear hb hbox hg) | ((with_reducible refine gate_dst (N := 3) rfl ?_); refine box_event ?hg (N := 3) ?hd (cs := #[.slice A1_0 l1_0.length c1_0, .slice A1_1 l1_1.length c1_1, .slice A1_2 l1_2.length c1_2]) (t := 60) ?hr ?_; (case hd => rfl); (case hg => rfl); (case hr => first | (go_simp; done) | (go_simp; rfl)); intro gb448 hg w32 hbox hb; have n0_ := Aside0.mk (blk_below (g := gb447) (o := .cells #[.slice A0_0 l0_0.length c0_0, .slice A0_1 l0_1.length c0_1, .slice A0_2 l0_2.length c0_2] 60 (0, 0)) (by (with_reducible repeat (first | refine blk_drewN ?_ _ | refine blk_drew ?_ | refine blk_alloc ?_ _)); exact BK447.out) hb); have n1_ := Aside0.mk (below_step (by repeat (first | (with_reducible first | exact HB.out | apply below_alloc | apply pw_below_drewN | apply below_drew1 | refine below_set ?_ GE447.out) | exact HB.out)) hb); have n2_ := Aside0.mk (hbox); have n3_ := Aside0.mk ((by rw [hg]; exact (below_size (by repeat (first | (with_reducible first | exact HB.out | apply below_alloc | apply pw_below_drewN | apply below_drew1 | refine below_set ?_ GE447.out) | exact HB.out))) : w.heap.size ≤ gb448)); have n4_ := Aside0.mk ((by rw [hg]; exact (below_size (by repeat (first | (with_reducible first | exact HB.out | apply below_alloc | apply pw_below_drewN | apply below_drew1 | refine below_set ?_ GE447.out) | exact HB.out))) : w.heap.size ≤ gb448)); have n5_ := Aside0.mk ((by rw [hg]; exact Nat.ne_of_lt (blk_lt (g := gb447) (o := .cells #[.slice A0_0 l0_0.length c0_0, .slice A0_1 l0_1.length c0_1, .slice A0_2 l0_2.length c0_2] 60 (0, 0)) (by (with_reducible repeat (first | refine blk_drewN ?_ _ | refine blk_drew ?_ | refine blk_alloc ?_ _)); exact BK447.out)) : gb447 ≠ gb448)); have n6_ := Aside0.mk ((by rw [hg]; exact Nat.ne_of_gt (blk_lt (g := gb447) (o := .cells #[.slice A0_0 l0_0.length c0_0, .slice A0_1 l0_1.length c0_1, .slice A0_2 l0_2.length c0_2] 60 (0, 0)) (by (with_reducible repeat (first | refine blk_drewN ?_ _ | refine blk_drew ?_ | refine blk_alloc ?_ _)); exact BK447.out)) : gb448 ≠ gb447)); clear BK447; clear HB; have BK447 := n0_; have HB := n1_; have BK448 := n2_; have GW448 := n3_; have GE448 := n4_; have NB447_448 := n5_; have NB448_447 := n6_; clear n0_ n1_ n2_ n3_ n4_ n5_ n6_; clear hb hbox hg; have hnb33 := NB447_448.out; have hnc33 := NB448_447.out; have hcz34_0 : w32.cell? ⟨gb447, 0, none⟩ = some (.slice A0_0 l0_0.length c0_0) := (blk_cell BK447.out 0).trans rfl; have hcz34_1 : w32.cell? ⟨gb447, 1, none⟩ = some (.slice A0_1 l0_1.length c0_1) := (blk_cell BK447.out 1).trans rfl; have hcz34_2 : w32.cell? ⟨gb447, 2, none⟩ = some (.slice A0_2 l0_2.length c0_2) := (blk_cell BK447.out 2).trans rfl; have hfz34_0 := blk_frozen BK447.out 0; have hfz34_1 := blk_frozen BK447.out 1; have hfz34_2 := blk_frozen BK447.out 2; have hcz35_0 : w32.cell? ⟨gb448, 0, none⟩ = some (.slice A1_0 l1_0.length c1_0) := (blk_cell BK448.out 0).trans rfl; have hcz35_1 : w32.cell? ⟨gb448, 1, none⟩ = some (.slice A1_1 l1_1.length c1_1) := (blk_cell BK448.out 1).trans rfl; have hcz35_2 : w32.cell? ⟨gb448, 2, none⟩ = some (.slice A1_2 l1_2.length c1_2) := (blk_cell BK448.out 2).trans rfl; have hfz35_0 := blk_frozen BK448.out 0; have hfz35_1 := blk_frozen BK448.out 1; have hfz35_2 := blk_frozen BK448.out 2) | ((with_reducible refine gate_callee (f := 19) rfl ?_); refine goesL_ (some 9) rfl rfl Try.func19 (by kernel_rfl) rfl #[.agg #[.slice A0_0 l0_0.length c0_0], .agg #[.slice A1_0 l1_0.length c1_0]] rfl (by (try simp only [List.map_toArray, List.map_cons, List.map_nil]); first | done | rfl | (simp only [List.length_drop, List.length_take]; rfl)) ?_; (with_reducible refine (laws_eqMemory.calls k _ _ l0_0 _ _ l1_0 true _ ?side1 ?side2 ?side3 ?side4 A3.out).mono ?_); (case side1 => repeat (first | exact (Kd.C_below HR0_0.out HB.out) | (with_reducible refine Kd.C_alloc ?_ _) | (with_reducible refine Kd.C_drewN ?_ _) | (with_reducible refine Kd.C_drew ?_))); (case side2 => exact HC0_0.out); (case side3 => repeat (first | exact (Kd.C_below HR1_0.out HB.out) | (with_reducible refine Kd.C_alloc ?_ _) | (with_reducible refine Kd.C_drewN ?_ _) | (with_reducible refine Kd.C_drew ?_))); (case side4 => exact HC1_0.out); rintro e w36 ⟨rfl, hb⟩; refine ⟨_, rfl, ?_⟩; have n0_ := Aside0.mk (blk_below (g := gb447) (o := .cells #[.slice A0_0 l0_0.length c0_0, .slice A0_1 l0_1.length c0_1, .slice A0_2 l0_2.length c0_2] 60 (0, 0)) (by (with_reducible repeat (first | refine blk_drewN ?_ _ | refine blk_drew ?_ | refine blk_alloc ?_ _)); exact BK447.out) hb); have n1_ := Aside0.mk (blk_below (g := gb448) (o := .cells #[.slice A1_0 l1_0.length c1_0, .slice A1_1 l1_1.length c1_1, .slice A1_2 l1_2.length c1_2] 60 (0, 0)) (by (with_reducible repeat (first | refine blk_drewN ?_ _ | refine blk_drew ?_ | refine blk_alloc ?_ _)); exact BK448.out) hb); have n2_ := Aside0.mk (below_step (by repeat (first | (with_reducible first | exact HB.out | apply below_alloc | apply pw_below_drewN | apply below_drew1 | refine below_set ?_ GE447.out | refine below_set ?_ GE448.out) | exact HB.out)) hb); clear BK447; clear BK448; clear HB; have BK447 := n0_; have BK448 := n1_; have HB := n2_; clear n0_ n1_ n2_; (try clear hb); (try clear hb2); (try clear hk); (try clear hi); have hcz37_0 : w36.cell? ⟨gb447, 0, none⟩ = some (.slice A0_0 l0_0.length c0_0) := (blk_cell BK447.out 0).trans rfl; have hcz37_1 : w36.cell? ⟨gb447, 1, none⟩ = some (.slice A0_1 l0_1.length c0_1) := (blk_cell BK447.out 1).trans rfl; have hcz37_2 : w36.cell? ⟨gb447, 2, none⟩ = some (.slice A0_2 l0_2.length c0_2) := (blk_cell BK447.out 2).trans rfl; have hfz37_0 := blk_frozen BK447.out 0; have hfz37_1 := blk_frozen BK447.out 1; have hfz37_2 := blk_frozen BK447.out 2; have hcz38_0 : w36.cell? ⟨gb448, 0, none⟩ = some (.slice A1_0 l1_0.length c1_0) := (blk_cell BK448.out 0).trans rfl; have hcz38_1 : w36.cell? ⟨gb448, 1, none⟩ = some (.slice A1_1 l1_1.length c1_1) := (blk_cell BK448.out 1).trans rfl; have hcz38_2 : w36.cell? ⟨gb448, 2, none⟩ = some (.slice A1_2 l1_2.length c1_2) := (blk_cell BK448.out 2).trans rfl; have hfz38_0 := blk_frozen BK448.out 0; have hfz38_1 := blk_frozen BK448.out 1; have hfz38_2 := blk_frozen BK448.out 2) | ((with_reducible refine gate_callee (f := 77) rfl ?_); refine goesL_ (some 15) rfl rfl Try.func77 (by kernel_rfl) rfl #[.slice A0_1 l0_1.length c0_1, .slice A1_1 l1_1.length c1_1] rfl (by (try simp only [List.map_toArray, List.map_cons, List.map_nil]); first | done | rfl | (simp only [List.length_drop, List.length_take]; rfl)) ?_; (with_reducible refine (laws_eqWindowS.calls k _ _ l0_1 _ _ l1_1 false _ ?side1 ?side2 ?side3 ?side4 A5.out).mono ?_); (case side1 => repeat (first | exact (Kd.C_below HR0_1.out HB.out) | (with_reducible refine Kd.C_alloc ?_ _) | (with_reducible refine Kd.C_drewN ?_ _) | (with_reducible refine Kd.C_drew ?_))); (case side2 => exact HC0_1.out); (case side3 => repeat (first | exact (Kd.C_below HR1_1.out HB.out) | (with_reducible refine Kd.C_alloc ?_ _) | (with_reducible refine Kd.C_drewN ?_ _) | (with_reducible refine Kd.C_drew ?_))); (case side4 => exact HC1_1.out); rintro e w39 ⟨rfl, hb⟩; refine ⟨_, rfl, ?_⟩; have n0_ := Aside0.mk (blk_below (g := gb447) (o := .cells #[.slice A0_0 l0_0.length c0_0, .slice A0_1 l0_1.length c0_1, .slice A0_2 l0_2.length c0_2] 60 (0, 0)) (by (with_reducible repeat (first | refine blk_drewN ?_ _ | refine blk_drew ?_ | refine blk_alloc ?_ _)); exact BK447.out) hb); have n1_ := Aside0.mk (blk_below (g := gb448) (o := .cells #[.slice A1_0 l1_0.length c1_0, .slice A1_1 l1_1.length c1_1, .slice A1_2 l1_2.length c1_2] 60 (0, 0)) (by (with_reducible repeat (first | refine blk_drewN ?_ _ | refine blk_drew ?_ | refine blk_alloc ?_ _)); exact BK448.out) hb); have n2_ := Aside0.mk (below_step (by repeat (first | (with_reducible first | exact HB.out | apply below_alloc | apply pw_below_drewN | apply below_drew1 | refine below_set ?_ GE447.out | refine below_set ?_ GE448.out) | exact HB.out)) hb); clear BK447; clear BK448; clear HB; have BK447 := n0_; have BK448 := n1_; have HB := n2_; clear n0_ n1_ n2_; (try clear hb); (try clear hb2); (try clear hk); (try clear hi)))
      go_ret
      exact ⟨by first | rfl | (simp [errW_none, errW_some] <;> rfl) | (simp [*, errW_none, errW_some] <;> rfl), by repeat (first | (with_reducible first | exact HB.out | apply below_alloc | apply pw_below_drewN | apply below_drew1 | refine below_set ?_ GE447.out | refine below_set ?_ GE448.out) | exact HB.out)⟩
  · replace c4 := Bool.eq_false_iff.mpr c4
    subst c4
    have H1 : (some false) = some r := by rw [if_neg (show ¬ (false = true) by decide)] at H; exact H
    clear H
    have H := H1
    clear H1
    obtain rfl := Option.some.inj H
    go_enter Try.func35, Try.ntmps35
    go_wp2_with (first | ((with_reducible refine gate_dst (N := 2) rfl ?_); refine box_event ?hg (N := 2) ?hd (cs := #[.slice A0_0 l0_0.length c0_0, .slice A0_1 l0_1.length c0_1, .slice A0_2 l0_2.length c0_2]) (t := 60) ?hr ?_; (case hd => rfl); (case hg => rfl); (case hr => first | (go_simp; done) | (go_simp; rfl)); intro gb447 hg w40 hbox hb; have n0_ := Aside0.mk (below_step (by repeat (first | (with_reducible first | exact HB.out | apply below_alloc | apply pw_below_drewN | apply below_drew1) | exact HB.out)) hb); have n1_ := Aside0.mk (hbox); have n2_ := Aside0.mk ((by rw [hg]; exact (below_size (by repeat (first | (with_reducible first | exact HB.out | apply below_alloc | apply pw_below_drewN | apply below_drew1) | exact HB.out))) : w.heap.size ≤ gb447)); have n3_ := Aside0.mk ((by rw [hg]; exact (below_size (by repeat (first | (with_reducible first | exact HB.out | apply below_alloc | apply pw_below_drewN | apply below_drew1) | exact HB.out))) : w.heap.size ≤ gb447)); clear HB; have HB := n0_; have BK447 := n1_; have GW447 := n2_; have GE447 := n3_; clear n0_ n1_ n2_ n3_; clear hb hbox hg) | ((with_reducible refine gate_dst (N := 3) rfl ?_); refine box_event ?hg (N := 3) ?hd (cs := #[.slice A1_0 l1_0.length c1_0, .slice A1_1 l1_1.length c1_1, .slice A1_2 l1_2.length c1_2]) (t := 60) ?hr ?_; (case hd => rfl); (case hg => rfl); (case hr => first | (go_simp; done) | (go_simp; rfl)); intro gb448 hg w41 hbox hb; have n0_ := Aside0.mk (blk_below (g := gb447) (o := .cells #[.slice A0_0 l0_0.length c0_0, .slice A0_1 l0_1.length c0_1, .slice A0_2 l0_2.length c0_2] 60 (0, 0)) (by (with_reducible repeat (first | refine blk_drewN ?_ _ | refine blk_drew ?_ | refine blk_alloc ?_ _)); exact BK447.out) hb); have n1_ := Aside0.mk (below_step (by repeat (first | (with_reducible first | exact HB.out | apply below_alloc | apply pw_below_drewN | apply below_drew1 | refine below_set ?_ GE447.out) | exact HB.out)) hb); have n2_ := Aside0.mk (hbox); have n3_ := Aside0.mk ((by rw [hg]; exact (below_size (by repeat (first | (with_reducible first | exact HB.out | apply below_alloc | apply pw_below_drewN | apply below_drew1 | refine below_set ?_ GE447.out) | exact HB.out))) : w.heap.size ≤ gb448)); have n4_ := Aside0.mk ((by rw [hg]; exact (below_size (by repeat (first | (with_reducible first | exact HB.out | apply below_alloc | apply pw_below_drewN | apply below_drew1 | refine below_set ?_ GE447.out) | exact HB.out))) : w.heap.size ≤ gb448)); have n5_ := Aside0.mk ((by rw [hg]; exact Nat.ne_of_lt (blk_lt (g := gb447) (o := .cells #[.slice A0_0 l0_0.length c0_0, .slice A0_1 l0_1.length c0_1, .slice A0_2 l0_2.length c0_2] 60 (0, 0)) (by (with_reducible repeat (first | refine blk_drewN ?_ _ | refine blk_drew ?_ | refine blk_alloc ?_ _)); exact BK447.out)) : gb447 ≠ gb448)); have n6_ := Aside0.mk ((by rw [hg]; exact Nat.ne_of_gt (blk_lt (g := gb447) (o := .cells #[.slice A0_0 l0_0.length c0_0, .slice A0_1 l0_1.length c0_1, .slice A0_2 l0_2.length c0_2] 60 (0, 0)) (by (with_reducible repeat (first | refine blk_drewN ?_ _ | refine blk_drew ?_ | refine blk_alloc ?_ _)); exact BK447.out)) : gb448 ≠ gb447)); clear BK447; clear HB; have BK447 := n0_; have HB := n1_; have BK448 := n2_; have GW448 := n3_; have GE448 := n4_; have NB447_448 := n5_; have NB448_447 := n6_; clear n0_ n1_ n2_ n3_ n4_ n5_ n6_; clear hb hbox hg; have hnb42 := NB447_448.out; have hnc42 := NB448_447.out; have hcz43_0 : w41.cell? ⟨gb447, 0, none⟩ = some (.slice A0_0 l0_0.length c0_0) := (blk_cell BK447.out 0).trans rfl; have hcz43_1 : w41.cell? ⟨gb447, 1, none⟩ = some (.slice A0_1 l0_1.length c0_1) := (blk_cell BK447.out 1).trans rfl; have hcz43_2 : w41.cell? ⟨gb447, 2, none⟩ = some (.slice A0_2 l0_2.length c0_2) := (blk_cell BK447.out 2).trans rfl; have hfz43_0 := blk_frozen BK447.out 0; have hfz43_1 := blk_frozen BK447.out 1; have hfz43_2 := blk_frozen BK447.out 2; have hcz44_0 : w41.cell? ⟨gb448, 0, none⟩ = some (.slice A1_0 l1_0.length c1_0) := (blk_cell BK448.out 0).trans rfl; have hcz44_1 : w41.cell? ⟨gb448, 1, none⟩ = some (.slice A1_1 l1_1.length c1_1) := (blk_cell BK448.out 1).trans rfl; have hcz44_2 : w41.cell? ⟨gb448, 2, none⟩ = some (.slice A1_2 l1_2.length c1_2) := (blk_cell BK448.out 2).trans rfl; have hfz44_0 := blk_frozen BK448.out 0; have hfz44_1 := blk_frozen BK448.out 1; have hfz44_2 := blk_frozen BK448.out 2) | ((with_reducible refine gate_callee (f := 19) rfl ?_); refine goesL_ (some 9) rfl rfl Try.func19 (by kernel_rfl) rfl #[.agg #[.slice A0_0 l0_0.length c0_0], .agg #[.slice A1_0 l1_0.length c1_0]] rfl (by (try simp only [List.map_toArray, List.map_cons, List.map_nil]); first | done | rfl | (simp only [List.length_drop, List.length_take]; rfl)) ?_; (with_reducible refine (laws_eqMemory.calls k _ _ l0_0 _ _ l1_0 false _ ?side1 ?side2 ?side3 ?side4 A3.out).mono ?_); (case side1 => repeat (first | exact (Kd.C_below HR0_0.out HB.out) | (with_reducible refine Kd.C_alloc ?_ _) | (with_reducible refine Kd.C_drewN ?_ _) | (with_reducible refine Kd.C_drew ?_))); (case side2 => exact HC0_0.out); (case side3 => repeat (first | exact (Kd.C_below HR1_0.out HB.out) | (with_reducible refine Kd.C_alloc ?_ _) | (with_reducible refine Kd.C_drewN ?_ _) | (with_reducible refine Kd.C_drew ?_))); (case side4 => exact HC1_0.out); rintro e w45 ⟨rfl, hb⟩; refine ⟨_, rfl, ?_⟩; have n0_ := Aside0.mk (blk_below (g := gb447) (o := .cells #[.slice A0_0 l0_0.length c0_0, .slice A0_1 l0_1.length c0_1, .slice A0_2 l0_2.length c0_2] 60 (0, 0)) (by (with_reducible repeat (first | refine blk_drewN ?_ _ | refine blk_drew ?_ | refine blk_alloc ?_ _)); exact BK447.out) hb); have n1_ := Aside0.mk (blk_below (g := gb448) (o := .cells #[.slice A1_0 l1_0.length c1_0, .slice A1_1 l1_1.length c1_1, .slice A1_2 l1_2.length c1_2] 60 (0, 0)) (by (with_reducible repeat (first | refine blk_drewN ?_ _ | refine blk_drew ?_ | refine blk_alloc ?_ _)); exact BK448.out) hb); have n2_ := Aside0.mk (below_step (by repeat (first | (with_reducible first | exact HB.out | apply below_alloc | apply pw_below_drewN | apply below_drew1 | refine below_set ?_ GE447.out | refine below_set ?_ GE448.out) | exact HB.out)) hb); clear BK447; clear BK448; clear HB; have BK447 := n0_; have BK448 := n1_; have HB := n2_; clear n0_ n1_ n2_; (try clear hb); (try clear hb2); (try clear hk); (try clear hi)))
    go_ret
    exact ⟨by first | rfl | (simp [errW_none, errW_some] <;> rfl) | (simp [*, errW_none, errW_some] <;> rfl), by repeat (first | (with_reducible first | exact HB.out | apply below_alloc | apply pw_below_drewN | apply below_drew1 | refine below_set ?_ GE447.out | refine below_set ?_ GE448.out) | exact HB.out)⟩

end Go.Proofs.Ytoomjghabiojkaa.P


/- Equality of machines. -/
namespace Go.Proofs.Ytoomjghabiojkaa.P
open Go.RowKit Go.Proofs.YtoomjghabiojkaaW.PrintWords
set_option linter.unusedVariables false
theorem eqMachine_f (m : List (List Int)) (l : List SimplWindow) (s : List Bool) (h : okM m) (hl : l.length ≤ 1048576) (hs : s.length ≤ 1048576) : Ev (fun k => laws_eqMachine.f k m l s m l s) true := by
  refine Ev.bind (eqM m h) ?_
  simp only [if_true]
  refine Ev.bind (eqWindowS_f l (by omega)) ?_
  simp only [if_true]
  refine Ev.bind (eqBoolS_f s (by omega)) ?_
  simp only [if_true]
  exact Ev.now _
end Go.Proofs.Ytoomjghabiojkaa.P


namespace Go.Proofs.Ytoomjghabiojkaa.P
open Go.RowKit Go.Proofs.YtoomjghabiojkaaW.PrintWords Go.Proofs.YtoomjghabiojkaaW.PrintLast Go.Proofs.YtoomjghabiojkaaW.PrintMore
attribute [local go_sem] max2_int min2_int max_two min_two max_three min_three max_four min_four   -- for this text's walks alone
set_option linter.unusedVariables false
set_option linter.unusedSimpArgs false

def laws_szBoolS.f (l0 : List Bool) (a1 : Int) : Option (Int) := if (wrap64 (a1 - (l0.length : Int))) < 0 then (some (-1)) else (some (wrap64 (a1 - (l0.length : Int))))
set_option maxHeartbeats 8000000 in
set_option maxRecDepth 100000 in
theorem laws_szBoolS.calls (A0 : Option Addr) (c0 : Nat) (l0 : List Bool) (a1 : Int) (r : Int) (w : World) (hr0 : Kd.C Kd.bool w A0 l0.length l0) (hc0 : l0.length ≤ c0) (h : laws_szBoolS.f l0 a1 = some r) :
    Calls Try.prog 105 #[.slice A0 l0.length c0, .int .i64 a1] w fun e w' => e = .returned (.int .i64 r) ∧ Drawn0 w w' := by
  have HR0 := Aside0.mk hr0
  have HC0 := Aside0.mk hc0
  clear hr0 hc0
  have H : (if (wrap64 (a1 - (l0.length : Int))) < 0 then (some (-1)) else (some (wrap64 (a1 - (l0.length : Int))))) = some r := h
  clear h
  by_cases c3 : (wrap64 (a1 - (l0.length : Int))) < 0
  · rw [if_pos c3] at H
    have c3b0 : decide ((wrap64 (a1 - (l0.length : Int))) < 0) = true := decide_eq_true c3
    clear c3
    obtain rfl := Option.some.inj H
    go_enter Try.func105, Try.ntmps105
    go_wp2
    go_ret
    exact ⟨by first | rfl | (simp; done) | (simp [*]; done), by repeat (first | exact Drawn0.refl _ | apply Drawn0.step)⟩
  · rw [if_neg c3] at H
    have c3b0 : decide ((wrap64 (a1 - (l0.length : Int))) < 0) = false := decide_eq_false c3
    clear c3
    obtain rfl := Option.some.inj H
    go_enter Try.func105, Try.ntmps105
    go_wp2
    go_ret
    exact ⟨by first | rfl | (simp; done) | (simp [*]; done), by repeat (first | exact Drawn0.refl _ | apply Drawn0.step)⟩

end Go.Proofs.Ytoomjghabiojkaa.P


