/- Part 4 of the proof of the law FnExactWidenGap: contracts of the functions that it reaches. -/
import Derived.Test.YtoomjghabiojkaaQFnExactWidenGap3
namespace Go.Proofs.Ytoomjghabiojkaa.P
open Go.RowKit Go.Proofs.YtoomjghabiojkaaW.PrintWords Go.Proofs.YtoomjghabiojkaaW.PrintLast Go.Proofs.YtoomjghabiojkaaW.PrintMore
attribute [local go_sem] max2_int min2_int max_two min_two max_three min_three max_four min_four   -- for this text's walks alone
set_option linter.unusedVariables false
set_option linter.unusedSimpArgs false

def spec_l2Write.l0 : Nat → Int → List Int → Int → Int → Int → Int → Int → List (List Int) → Option ((List (List Int)))
  | 0, _, _, _, _, _, _, _, _ => none
  | k + 1, x2, x3, x10, x514000, x514001, x514002, x514003, x519000 => if x10 < (x3.length : Int) then (if 0 ≤ x514000 then (if x514000 < (x519000.length : Int) then (if 0 ≤ x10 then (if 0 ≤ (wrap64 ((wrap64 (x514001 + x2)) + x10)) then (if (wrap64 ((wrap64 (x514001 + x2)) + x10)) < ((rd_Lsu8 x519000 x514000).length : Int) then (spec_l2Write.l0 k x2 x3 (wrap64 (x10 + 1)) x514000 x514001 x514002 x514003 (x519000.set (x514000 : Int).toNat ((rd_Lsu8 x519000 x514000).set ((wrap64 ((wrap64 (x514001 + x2)) + x10)) : Int).toNat (rd x3 x10)))) else (none)) else (none)) else (none)) else (none)) else (none)) else (some x519000)
def spec_l2Write.f (k : Nat) (l0_0 : List (List Int)) (a1_0 : Int) (a1_1 : Int) (a1_2 : Int) (a1_3 : Int) (a2 : Int) (l3 : List Int) : Option ((List (List Int))) := (spec_l2Own.f k l0_0).bind fun t515 => (spec_l2Write.l0 k a2 l3 0 a1_0 a1_1 a1_2 a1_3 t515)
def spec_l2Write.T5 : Bool × List (List Nat × List Nat) := (true, [([], []), ([0], [0]), ([], []), ([2], [2]), ([1, 3], [1, 3]), ([4], [4]), ([], []), ([6], [6]), ([], []), ([7, 8], [7, 8]), ([], []), ([9, 10], [9, 10]), ([], []), ([], []), ([12, 13], [12, 13]), ([14], [14]), ([5, 11, 0, 1, 2, 3, 4, 5, 6, 7, 8, 9, 10, 11, 12, 13, 14, 15], [5, 11]), ([16, 15, 0, 1, 2, 3, 4, 5, 6, 7, 8, 9, 10, 11, 12, 13, 14, 15], [15, 16])])
def spec_l2Write.B5 : List Nat := [0, 1, 0, 4, 15, 31, 0, 64, 0, 448, 0, 1984, 0, 0, 12288, 28672, 65535, 131071]
theorem spec_l2Write.tab5 : rtab .any (opsOf Try.f143 5) = spec_l2Write.T5 := by kernel_rfl
theorem spec_l2Write.bits5 : waitsOk spec_l2Write.T5.2 spec_l2Write.B5 = true := by kernel_rfl
set_option maxHeartbeats 8000000 in
set_option maxRecDepth 100000 in
theorem spec_l2Write.calls (k : Nat) (A0_0 : Option Addr) (c0_0 : Nat) (l0_0 : List (List Int)) (a1_0 : Int) (a1_1 : Int) (a1_2 : Int) (a1_3 : Int) (a2 : Int) (A3 : Option Addr) (c3 : Nat) (l3 : List Int) (r : List (List Int)) (w : World) (hr0_0 : Kd.C (Kd.slice 5 (Kd.int .u8)) w A0_0 l0_0.length l0_0) (hc0_0 : l0_0.length ≤ c0_0) (hr3 : Kd.C (Kd.int .u8) w A3 l3.length l3) (hc3 : l3.length ≤ c3) (h : spec_l2Write.f k l0_0 a1_0 a1_1 a1_2 a1_3 a2 l3 = some r) :
    Calls Try.prog 143 #[.agg #[.slice A0_0 l0_0.length c0_0], .agg #[.int .i64 a1_0, .int .i64 a1_1, .int .i64 a1_2, .int .i64 a1_3], .int .i64 a2, .slice A3 l3.length c3] w fun e w' => ∃ v0_ : Value, e = .returned (.agg #[v0_]) ∧ Kd.S (Kd.slice 5 (Kd.int .u8)) 119 w' w.heap.size (fun _ => True) v0_ r ∧ Below w.heap.size w w' := by
  have hu26 := Try.underlying26
  have hu48 := Try.underlying48
  have HR0_0 := Aside0.mk hr0_0
  have HC0_0 := Aside0.mk hc0_0
  clear hr0_0 hc0_0
  have HR3 := Aside0.mk hr3
  have HC3 := Aside0.mk hc3
  clear hr3 hc3
  have HB := Aside0.mk (Below.refl w.heap.size w)
  have H : ((spec_l2Own.f k l0_0).bind fun t515 => (spec_l2Write.l0 k a2 l3 0 a1_0 a1_1 a1_2 a1_3 t515)) = some r := h
  clear h
  replace H := Option.bind_eq_some_iff.mp H
  obtain ⟨t515, A50, H⟩ := H
  replace H : (spec_l2Write.l0 k a2 l3 0 a1_0 a1_1 a1_2 a1_3 t515) = some r := H
  have A5 := Aside0.mk A50
  clear A50
  have H' := Aside0.mk H
  clear H
  go_enter Try.func143, Try.ntmps143
  go_wp2_with (first | ((with_reducible refine gate_dst (N := 4) rfl ?_); refine box_event ?hg (N := 4) ?hd (cs := #[.slice A0_0 l0_0.length c0_0]) (t := 26) ?hr ?_; (case hd => rfl); (case hg => rfl); (case hr => first | (go_simp; done) | (go_simp; rfl)); intro gb512 hg w6 hbox hb; have n0_ := Aside0.mk (below_step (by repeat (first | (with_reducible first | exact HB.out | apply below_alloc | apply pw_below_drewN | apply below_drew1) | exact HB.out)) hb); have n1_ := Aside0.mk (hbox); have n2_ := Aside0.mk ((by rw [hg]; exact (below_size (by repeat (first | (with_reducible first | exact HB.out | apply below_alloc | apply pw_below_drewN | apply below_drew1) | exact HB.out))) : w.heap.size ≤ gb512)); have n3_ := Aside0.mk ((by rw [hg]; exact (below_size (by repeat (first | (with_reducible first | exact HB.out | apply below_alloc | apply pw_below_drewN | apply below_drew1) | exact HB.out))) : w.heap.size ≤ gb512)); clear HB; have HB := n0_; have BK512 := n1_; have GW512 := n2_; have GE512 := n3_; clear n0_ n1_ n2_ n3_; clear hb hbox hg) | ((with_reducible refine gate_dst (N := 5) rfl ?_); refine box_event ?hg (N := 5) ?hd (cs := #[.int .i64 a1_0, .int .i64 a1_1, .int .i64 a1_2, .int .i64 a1_3]) (t := 48) ?hr ?_; (case hd => rfl); (case hg => rfl); (case hr => first | (go_simp; done) | (go_simp; rfl)); intro gb513 hg w7 hbox hb; have n0_ := Aside0.mk (blk_below (g := gb512) (o := .cells #[.slice A0_0 l0_0.length c0_0] 26 (0, 0)) (by (with_reducible repeat (first | refine blk_drewN ?_ _ | refine blk_drew ?_ | refine blk_alloc ?_ _)); exact BK512.out) hb); have n1_ := Aside0.mk (below_step (by repeat (first | (with_reducible first | exact HB.out | apply below_alloc | apply pw_below_drewN | apply below_drew1 | refine below_set ?_ GE512.out) | exact HB.out)) hb); have n2_ := Aside0.mk (hbox); have n3_ := Aside0.mk ((by rw [hg]; exact (below_size (by repeat (first | (with_reducible first | exact HB.out | apply below_alloc | apply pw_below_drewN | apply below_drew1 | refine below_set ?_ GE512.out) | exact HB.out))) : w.heap.size ≤ gb513)); have n4_ := Aside0.mk ((by rw [hg]; exact (below_size (by repeat (first | (with_reducible first | exact HB.out | apply below_alloc | apply pw_below_drewN | apply below_drew1 | refine below_set ?_ GE512.out) | exact HB.out))) : w.heap.size ≤ gb513)); have n5_ := Aside0.mk ((by rw [hg]; exact Nat.ne_of_lt (blk_lt (g := gb512) (o := .cells #[.slice A0_0 l0_0.length c0_0] 26 (0, 0)) (by (with_reducible repeat (first | refine blk_drewN ?_ _ | refine blk_drew ?_ | refine blk_alloc ?_ _)); exact BK512.out)) : gb512 ≠ gb513)); have n6_ := Aside0.mk ((by rw [hg]; exact Nat.ne_of_gt (blk_lt (g := gb512) (o := .cells #[.slice A0_0 l0_0.length c0_0] 26 (0, 0)) (by (with_reducible repeat (first | refine blk_drewN ?_ _ | refine blk_drew ?_ | refine blk_alloc ?_ _)); exact BK512.out)) : gb513 ≠ gb512)); clear BK512; clear HB; have BK512 := n0_; have HB := n1_; have BK513 := n2_; have GW513 := n3_; have GE513 := n4_; have NB512_513 := n5_; have NB513_512 := n6_; clear n0_ n1_ n2_ n3_ n4_ n5_ n6_; clear hb hbox hg) | ((with_reducible refine gate_dst (N := 8) rfl ?_); refine box_event ?hg (N := 8) ?hd (cs := #[.slice none 0 0]) (t := 26) ?hr ?_; (case hd => rfl); (case hg => rfl); (case hr => first | (go_simp; done) | (go_simp; rfl)); intro gb514 hg w8 hbox hb; have n0_ := Aside0.mk (blk_below (g := gb512) (o := .cells #[.slice A0_0 l0_0.length c0_0] 26 (0, 0)) (by (with_reducible repeat (first | refine blk_drewN ?_ _ | refine blk_drew ?_ | refine blk_alloc ?_ _)); exact BK512.out) hb); have n1_ := Aside0.mk (blk_below (g := gb513) (o := .cells #[.int .i64 a1_0, .int .i64 a1_1, .int .i64 a1_2, .int .i64 a1_3] 48 (0, 0)) (by (with_reducible repeat (first | refine blk_drewN ?_ _ | refine blk_drew ?_ | refine blk_alloc ?_ _)); exact BK513.out) hb); have n2_ := Aside0.mk (below_step (by repeat (first | (with_reducible first | exact HB.out | apply below_alloc | apply pw_below_drewN | apply below_drew1 | refine below_set ?_ GE512.out | refine below_set ?_ GE513.out) | exact HB.out)) hb); have n3_ := Aside0.mk (hbox); have n4_ := Aside0.mk ((by rw [hg]; exact (below_size (by repeat (first | (with_reducible first | exact HB.out | apply below_alloc | apply pw_below_drewN | apply below_drew1 | refine below_set ?_ GE512.out | refine below_set ?_ GE513.out) | exact HB.out))) : w.heap.size ≤ gb514)); have n5_ := Aside0.mk ((by rw [hg]; exact (below_size (by repeat (first | (with_reducible first | exact HB.out | apply below_alloc | apply pw_below_drewN | apply below_drew1 | refine below_set ?_ GE512.out | refine below_set ?_ GE513.out) | exact HB.out))) : w.heap.size ≤ gb514)); have n6_ := Aside0.mk ((by rw [hg]; exact Nat.ne_of_lt (blk_lt (g := gb512) (o := .cells #[.slice A0_0 l0_0.length c0_0] 26 (0, 0)) (by (with_reducible repeat (first | refine blk_drewN ?_ _ | refine blk_drew ?_ | refine blk_alloc ?_ _)); exact BK512.out)) : gb512 ≠ gb514)); have n7_ := Aside0.mk ((by rw [hg]; exact Nat.ne_of_gt (blk_lt (g := gb512) (o := .cells #[.slice A0_0 l0_0.length c0_0] 26 (0, 0)) (by (with_reducible repeat (first | refine blk_drewN ?_ _ | refine blk_drew ?_ | refine blk_alloc ?_ _)); exact BK512.out)) : gb514 ≠ gb512)); have n8_ := Aside0.mk ((by rw [hg]; exact Nat.ne_of_lt (blk_lt (g := gb513) (o := .cells #[.int .i64 a1_0, .int .i64 a1_1, .int .i64 a1_2, .int .i64 a1_3] 48 (0, 0)) (by (with_reducible repeat (first | refine blk_drewN ?_ _ | refine blk_drew ?_ | refine blk_alloc ?_ _)); exact BK513.out)) : gb513 ≠ gb514)); have n9_ := Aside0.mk ((by rw [hg]; exact Nat.ne_of_gt (blk_lt (g := gb513) (o := .cells #[.int .i64 a1_0, .int .i64 a1_1, .int .i64 a1_2, .int .i64 a1_3] 48 (0, 0)) (by (with_reducible repeat (first | refine blk_drewN ?_ _ | refine blk_drew ?_ | refine blk_alloc ?_ _)); exact BK513.out)) : gb514 ≠ gb513)); clear BK512; clear BK513; clear HB; have BK512 := n0_; have BK513 := n1_; have HB := n2_; have BK514 := n3_; have GW514 := n4_; have GE514 := n5_; have NB512_514 := n6_; have NB514_512 := n7_; have NB513_514 := n8_; have NB514_513 := n9_; clear n0_ n1_ n2_ n3_ n4_ n5_ n6_ n7_ n8_ n9_; clear hb hbox hg; have hnb9 := NB512_513.out; have hnc9 := NB513_512.out; have hnb10 := NB512_514.out; have hnc10 := NB514_512.out; have hcz11_0 : w8.cell? ⟨gb512, 0, none⟩ = some (.slice A0_0 l0_0.length c0_0) := (blk_cell BK512.out 0).trans rfl; have hfz11_0 := blk_frozen BK512.out 0) | ((with_reducible refine gate_callee (f := 89) rfl ?_); refine goesL_ (some 12) rfl rfl Try.func89 (by kernel_rfl) rfl #[.agg #[.slice A0_0 l0_0.length c0_0]] rfl (by (try simp only [List.map_toArray, List.map_cons, List.map_nil]); first | done | rfl | (simp only [List.length_drop, List.length_take]; rfl)) ?_; (with_reducible refine (spec_l2Own.calls k _ _ l0_0 t515 _ ?side1 ?side2 A5.out).mono ?_); (case side1 => repeat (first | exact (Kd.C_below HR0_0.out HB.out) | (with_reducible refine Kd.C_alloc ?_ _) | (with_reducible refine Kd.C_drewN ?_ _) | (with_reducible refine Kd.C_drew ?_))); (case side2 => exact HC0_0.out); rintro e w12 ⟨v516, rfl, ho0, hb⟩; refine ⟨_, rfl, ?_⟩; have n0_ := Aside0.mk (Kd.S_lower ho0 (below_size (by repeat (first | (with_reducible first | exact HB.out | apply below_alloc | apply pw_below_drewN | apply below_drew1 | refine below_set ?_ GE512.out | refine below_set ?_ GE513.out | refine below_set ?_ GE514.out) | exact HB.out)))); have n1_ := Aside0.mk (blk_below (g := gb512) (o := .cells #[.slice A0_0 l0_0.length c0_0] 26 (0, 0)) (by (with_reducible repeat (first | refine blk_drewN ?_ _ | refine blk_drew ?_ | refine blk_alloc ?_ _)); exact BK512.out) hb); have n2_ := Aside0.mk (blk_below (g := gb513) (o := .cells #[.int .i64 a1_0, .int .i64 a1_1, .int .i64 a1_2, .int .i64 a1_3] 48 (0, 0)) (by (with_reducible repeat (first | refine blk_drewN ?_ _ | refine blk_drew ?_ | refine blk_alloc ?_ _)); exact BK513.out) hb); have n3_ := Aside0.mk (blk_below (g := gb514) (o := .cells #[.slice none 0 0] 26 (0, 0)) (by (with_reducible repeat (first | refine blk_drewN ?_ _ | refine blk_drew ?_ | refine blk_alloc ?_ _)); exact BK514.out) hb); have n4_ := Aside0.mk (below_step (by repeat (first | (with_reducible first | exact HB.out | apply below_alloc | apply pw_below_drewN | apply below_drew1 | refine below_set ?_ GE512.out | refine below_set ?_ GE513.out | refine below_set ?_ GE514.out) | exact HB.out)) hb); clear BK512; clear BK513; clear BK514; clear HB; have HO517 := n0_; have BK512 := n1_; have BK513 := n2_; have BK514 := n3_; have HB := n4_; clear n0_ n1_ n2_ n3_ n4_; (try clear hb); (try clear hb2); (try clear hk); (try clear hi); (try clear ho0)) | ((with_reducible refine gate_dst (N := 9) rfl ?_); refine box_event ?hg (N := 9) ?hd (cs := #[.slice none 0 0]) (t := 26) ?hr ?_; (case hd => rfl); (case hg => rfl); (case hr => first | (go_simp; done) | (go_simp; rfl)); intro gb518 hg w13 hbox hb; have n0_ := Aside0.mk (Kd.S_below (by (with_reducible repeat (first | apply Kd.S_alloc | apply Kd.S_drewN | apply Kd.S_drew)); exact HO517.out) hb); have n1_ := Aside0.mk (blk_below (g := gb512) (o := .cells #[.slice A0_0 l0_0.length c0_0] 26 (0, 0)) (by (with_reducible repeat (first | refine blk_drewN ?_ _ | refine blk_drew ?_ | refine blk_alloc ?_ _)); exact BK512.out) hb); have n2_ := Aside0.mk (blk_below (g := gb513) (o := .cells #[.int .i64 a1_0, .int .i64 a1_1, .int .i64 a1_2, .int .i64 a1_3] 48 (0, 0)) (by (with_reducible repeat (first | refine blk_drewN ?_ _ | refine blk_drew ?_ | refine blk_alloc ?_ _)); exact BK513.out) hb); have n3_ := Aside0.mk (blk_below (g := gb514) (o := .cells #[.slice none 0 0] 26 (0, 0)) (by (with_reducible repeat (first | refine blk_drewN ?_ _ | refine blk_drew ?_ | refine blk_alloc ?_ _)); exact BK514.out) hb); have n4_ := Aside0.mk (below_step (by repeat (first | (with_reducible first | exact HB.out | apply below_alloc | apply pw_below_drewN | apply below_drew1 | refine below_set ?_ GE512.out | refine below_set ?_ GE513.out | refine below_set ?_ GE514.out) | exact HB.out)) hb); have n5_ := Aside0.mk (hbox); have n6_ := Aside0.mk ((by rw [hg]; exact (below_size (by repeat (first | (with_reducible first | exact HB.out | apply below_alloc | apply pw_below_drewN | apply below_drew1 | refine below_set ?_ GE512.out | refine below_set ?_ GE513.out | refine below_set ?_ GE514.out) | exact HB.out))) : w.heap.size ≤ gb518)); have n7_ := Aside0.mk ((by rw [hg]; exact (below_size (by repeat (first | (with_reducible first | exact HB.out | apply below_alloc | apply pw_below_drewN | apply below_drew1 | refine below_set ?_ GE512.out | refine below_set ?_ GE513.out | refine below_set ?_ GE514.out) | exact HB.out))) : w.heap.size ≤ gb518)); have n8_ := Aside0.mk ((by rw [hg]; exact Nat.ne_of_lt (blk_lt (g := gb512) (o := .cells #[.slice A0_0 l0_0.length c0_0] 26 (0, 0)) (by (with_reducible repeat (first | refine blk_drewN ?_ _ | refine blk_drew ?_ | refine blk_alloc ?_ _)); exact BK512.out)) : gb512 ≠ gb518)); have n9_ := Aside0.mk ((by rw [hg]; exact Nat.ne_of_gt (blk_lt (g := gb512) (o := .cells #[.slice A0_0 l0_0.length c0_0] 26 (0, 0)) (by (with_reducible repeat (first | refine blk_drewN ?_ _ | refine blk_drew ?_ | refine blk_alloc ?_ _)); exact BK512.out)) : gb518 ≠ gb512)); have n10_ := Aside0.mk ((by rw [hg]; exact Nat.ne_of_lt (blk_lt (g := gb513) (o := .cells #[.int .i64 a1_0, .int .i64 a1_1, .int .i64 a1_2, .int .i64 a1_3] 48 (0, 0)) (by (with_reducible repeat (first | refine blk_drewN ?_ _ | refine blk_drew ?_ | refine blk_alloc ?_ _)); exact BK513.out)) : gb513 ≠ gb518)); have n11_ := Aside0.mk ((by rw [hg]; exact Nat.ne_of_gt (blk_lt (g := gb513) (o := .cells #[.int .i64 a1_0, .int .i64 a1_1, .int .i64 a1_2, .int .i64 a1_3] 48 (0, 0)) (by (with_reducible repeat (first | refine blk_drewN ?_ _ | refine blk_drew ?_ | refine blk_alloc ?_ _)); exact BK513.out)) : gb518 ≠ gb513)); have n12_ := Aside0.mk ((by rw [hg]; exact Nat.ne_of_lt (blk_lt (g := gb514) (o := .cells #[.slice none 0 0] 26 (0, 0)) (by (with_reducible repeat (first | refine blk_drewN ?_ _ | refine blk_drew ?_ | refine blk_alloc ?_ _)); exact BK514.out)) : gb514 ≠ gb518)); have n13_ := Aside0.mk ((by rw [hg]; exact Nat.ne_of_gt (blk_lt (g := gb514) (o := .cells #[.slice none 0 0] 26 (0, 0)) (by (with_reducible repeat (first | refine blk_drewN ?_ _ | refine blk_drew ?_ | refine blk_alloc ?_ _)); exact BK514.out)) : gb518 ≠ gb514)); clear HO517; clear BK512; clear BK513; clear BK514; clear HB; have HO517 := n0_; have BK512 := n1_; have BK513 := n2_; have BK514 := n3_; have HB := n4_; have BK518 := n5_; have GW518 := n6_; have GE518 := n7_; have NB512_518 := n8_; have NB518_512 := n9_; have NB513_518 := n10_; have NB518_513 := n11_; have NB514_518 := n12_; have NB518_514 := n13_; clear n0_ n1_ n2_ n3_ n4_ n5_ n6_ n7_ n8_ n9_ n10_ n11_ n12_ n13_; clear hb hbox hg; obtain ⟨Ao14, co14, eo14⟩ := Kd.S_slice HO517.out; subst eo14; have hnb15 := NB518_512.out; have hnc15 := NB512_518.out; have hnb16 := NB518_513.out; have hnc16 := NB513_518.out; have hnb17 := NB518_514.out; have hnc17 := NB514_518.out; have hcz18_0 : w13.cell? ⟨gb518, 0, none⟩ = some (.slice none 0 0) := (blk_cell BK518.out 0).trans rfl; have hfz18_0 := blk_frozen BK518.out 0))
  go_loopg [10] k (fun kq v10 w' => ∃ (x10_1 : Int) (x519000_1 : List (List Int)) (u519000 : Value), v10 = .int .i64 x10_1 ∧ Aside0 (spec_l2Write.l0 kq a2 l3 x10_1 a1_0 a1_1 a1_2 a1_3 x519000_1 = some r) ∧ Aside0 (kq ≤ k) ∧ Aside0 (Kd.S (Kd.slice 5 (Kd.int .u8)) 119 w' w.heap.size (fun _ => True) u519000 x519000_1) ∧ Aside0 (w'.heap[gb512]? = some (.cells #[(.slice A0_0 l0_0.length c0_0)] 26 (0, 0))) ∧ Aside0 (w'.heap[gb513]? = some (.cells #[.int .i64 a1_0, .int .i64 a1_1, .int .i64 a1_2, .int .i64 a1_3] 48 (0, 0))) ∧ Aside0 (w'.heap[gb514]? = some (.cells #[(.slice none 0 0)] 26 (0, 0))) ∧ Aside0 (w'.heap[gb518]? = some (.cells #[u519000] 26 (0, 0))) ∧ Aside0 (Below w.heap.size w w'))
  case atStart => exact ⟨(0), (t515), (.slice Ao14 t515.length co14), (by first | rfl | (simp; done) | (simp [*]; done)), H', ⟨Nat.le_refl _⟩, ⟨by (with_reducible repeat (first | apply Kd.S_alloc | apply Kd.S_drewN | apply Kd.S_drew)); exact Kd.S_mono (Kd.S_far (p := ⟨gb518, 0, none⟩) (Kd.S_types HO517.out BK518.out (by decide)) (fun _ hk => hk.2) (.slice Ao14 t515.length co14)) (fun _ hk => trivial)⟩, ⟨by (with_reducible repeat (first | refine blk_drewN ?_ _ | refine blk_drew ?_ | refine blk_alloc ?_ _)); refine blk_far ?_ NB512_518.out _; (with_reducible repeat (first | refine blk_drewN ?_ _ | refine blk_drew ?_ | refine blk_alloc ?_ _)); exact BK512.out⟩, ⟨by (with_reducible repeat (first | refine blk_drewN ?_ _ | refine blk_drew ?_ | refine blk_alloc ?_ _)); refine blk_far ?_ NB513_518.out _; (with_reducible repeat (first | refine blk_drewN ?_ _ | refine blk_drew ?_ | refine blk_alloc ?_ _)); exact BK513.out⟩, ⟨by (with_reducible repeat (first | refine blk_drewN ?_ _ | refine blk_drew ?_ | refine blk_alloc ?_ _)); refine blk_far ?_ NB514_518.out _; (with_reducible repeat (first | refine blk_drewN ?_ _ | refine blk_drew ?_ | refine blk_alloc ?_ _)); exact BK514.out⟩, ⟨by (with_reducible repeat (first | refine blk_drewN ?_ _ | refine blk_drew ?_ | refine blk_alloc ?_ _)); refine blk_put (cs := #[.slice none 0 0]) ?_ 0 _ rfl; (with_reducible repeat (first | refine blk_drewN ?_ _ | refine blk_drew ?_ | refine blk_alloc ?_ _)); exact BK518.out⟩, ⟨by repeat (first | (with_reducible first | exact HB.out | apply below_alloc | apply pw_below_drewN | apply below_drew1 | refine below_set ?_ GE512.out | refine below_set ?_ GE513.out | refine below_set ?_ GE514.out | refine below_set ?_ GE518.out) | exact HB.out)⟩⟩
  case round =>
    clear H'
    try clear c1
    try clear p2
    try clear c3
    try clear c8
    try clear c9
    try clear c10
    try clear c14
    try clear c15
    try clear c16
    try clear c17
    try clear hcz11_0
    try clear hcz18_0
    try clear hfz11_0
    try clear hfz18_0
    obtain ⟨x10_1, x519000_1, u519000, rfl, HA, HK1, HO_519000, BK512, BK513, BK514, BK518, HB⟩ := hrel
    cases gk with
    | zero => exact absurd HA.out (by simp [spec_l2Write.l0])
    | succ k1 =>
      have H := HA.out
      clear HA
      simp only [spec_l2Write.l0] at H
      by_cases c19 : x10_1 < (l3.length : Int)
      · rw [if_pos c19] at H
        have c19b0 : decide (x10_1 < (l3.length : Int)) = true := decide_eq_true c19
        clear c19
        by_cases c20 : 0 ≤ a1_0
        · rw [if_pos c20] at H
          have c20b0 : decide (0 ≤ a1_0) = true := decide_eq_true c20
          clear c20
          by_cases c21 : a1_0 < (x519000_1.length : Int)
          · rw [if_pos c21] at H
            have c21b0 : decide (a1_0 < (x519000_1.length : Int)) = true := decide_eq_true c21
            clear c21
            by_cases c22 : 0 ≤ x10_1
            · rw [if_pos c22] at H
              have c22b0 : decide (0 ≤ x10_1) = true := decide_eq_true c22
              clear c22
              obtain ⟨ji23, hji23⟩ : ∃ j_ : Int, (wrap64 ((wrap64 (a1_1 + a2)) + x10_1)) = j_ := ⟨_, rfl⟩
              replace H : (if 0 ≤ (ji23) then (if (ji23) < ((rd_Lsu8 x519000_1 a1_0).length : Int) then (spec_l2Write.l0 k1 a2 l3 (wrap64 (x10_1 + 1)) a1_0 a1_1 a1_2 a1_3 (x519000_1.set (a1_0 : Int).toNat ((rd_Lsu8 x519000_1 a1_0).set ((ji23) : Int).toNat (rd l3 x10_1)))) else (none)) else (none)) = some r := by first | (rw [hji23] at H; exact H) | (simp only [hji23] at H ⊢; exact H)
              have hji23w : (IntKind.i64.wrap ((wrap64 (a1_1 + a2)) + x10_1)) = ji23 := (i64_w _).trans hji23
              by_cases c24 : 0 ≤ (ji23)
              · rw [if_pos c24] at H
                have c24b0 : decide (0 ≤ (ji23)) = true := decide_eq_true c24
                clear c24
                by_cases c25 : (ji23) < ((rd_Lsu8 x519000_1 a1_0).length : Int)
                · rw [if_pos c25] at H
                  have c25b0 : decide ((ji23) < ((rd_Lsu8 x519000_1 a1_0).length : Int)) = true := decide_eq_true c25
                  clear c25
                  obtain ⟨y521, hy521⟩ : ∃ y_ : List Int, y_ = ((rd_Lsu8 x519000_1 a1_0).set ((ji23) : Int).toNat (rd l3 x10_1)) := ⟨_, rfl⟩
                  replace H : (spec_l2Write.l0 k1 a2 l3 (wrap64 (x10_1 + 1)) a1_0 a1_1 a1_2 a1_3 (x519000_1.set (a1_0 : Int).toNat y521)) = some r := by first | (rw [hy521]; with_reducible exact H) | (have H2_ := (Option.bind_some _ _).symm.trans H; rw [hy521]; with_reducible exact H2_) | (have H2_ := (Option.bind_some _ _).symm.trans H; with_reducible exact H2_) | with_reducible exact H | (rw [hy521]; exact H) | exact H
                  have Ny521 := Aside0.mk hy521
                  clear hy521
                  obtain ⟨y523, hy523⟩ : ∃ y_ : List (List Int), y_ = (x519000_1.set (a1_0 : Int).toNat y521) := ⟨_, rfl⟩
                  replace H : (spec_l2Write.l0 k1 a2 l3 (wrap64 (x10_1 + 1)) a1_0 a1_1 a1_2 a1_3 y523) = some r := by first | (rw [hy523]; with_reducible exact H) | (have H2_ := (Option.bind_some _ _).symm.trans H; rw [hy523]; with_reducible exact H2_) | (have H2_ := (Option.bind_some _ _).symm.trans H; with_reducible exact H2_) | with_reducible exact H | (rw [hy523]; exact H) | exact H
                  have Ny523 := Aside0.mk hy523
                  clear hy523
                  have H' := Aside0.mk H
                  clear H
                  try go_wp2
                  have n0_ := Aside0.mk (Kd.S_drew HO_519000.out)
                  have n1_ := Aside0.mk (blk_drew BK512.out)
                  have n2_ := Aside0.mk (blk_drew BK513.out)
                  have n3_ := Aside0.mk (blk_drew BK514.out)
                  have n4_ := Aside0.mk (blk_drew BK518.out)
                  have n5_ := Aside0.mk (below_drew1 HB.out)
                  clear HO_519000
                  clear BK512
                  clear BK513
                  clear BK514
                  clear BK518
                  clear HB
                  have HO_519000 := n0_
                  have BK512 := n1_
                  have BK513 := n2_
                  have BK514 := n3_
                  have BK518 := n4_
                  have HB := n5_
                  clear n0_ n1_ n2_ n3_ n4_ n5_
                  obtain ⟨Ao28, co28, eo28⟩ := Kd.S_slice HO_519000.out
                  (first | subst eo28 | (injection eo28 with f1_ f2_ f3_; have f4_ := f1_.symm; have f5_ := f3_.symm; clear f1_ f2_ f3_; subst f4_; subst f5_))
                  have p519 : 0 ≤ (a1_0 : Int) := of_decide_eq_true (by first | (with_reducible assumption) | assumption)
                  have q519 : a1_0 < (x519000_1.length : Int) := of_decide_eq_true (by first | (with_reducible assumption) | assumption)
                  obtain ⟨ad519, A519_0, c519_0, e519, hx519_0, hl519_0, hi519_0⟩ := at_Lsu8 (Kd.S_reads' HO_519000.out).2.2 a1_0 p519 q519
                  cases e519
                  obtain ⟨ce519, hce519, hMe519, hcc519⟩ := Kd.S_get HO_519000.out [] a1_0 p519 (by first | exact q519 | exact of_decide_eq_true (by first | (with_reducible assumption) | assumption) | (have e_ := (Kd.S_reads' HO_519000.out).1; omega))
                  obtain ⟨ve519_0, rfl, ge519_0⟩ := hMe519
                  have hv519_0 := hcc519 0 _ rfl
                  rw [Nat.add_zero, show ((Kd.slice 5 (Kd.int .u8))).sz = 1 from rfl, Nat.mul_one] at hv519_0
                  replace hv519_0 := Option.some.inj (hv519_0.symm.trans hx519_0)
                  rw [hv519_0] at ge519_0
                  have HL519_0 := Aside0.mk (show Kd.R (Kd.int .u8) 5 _ _ _ _ (rd_Lsu8 x519000_1 a1_0) from ge519_0)
                  clear hv519_0 ge519_0
                  have HX519_0 := Aside0.mk hx519_0
                  clear hcc519 hce519
                  have HR519_0 := Aside0.mk hi519_0
                  have HC519_0 := Aside0.mk hl519_0
                  clear hi519_0 hl519_0
                  replace p519 := eq_true p519
                  replace q519 := eq_true q519
                  have p520 : 0 ≤ (x10_1 : Int) := of_decide_eq_true (by first | (with_reducible assumption) | assumption)
                  have q520 : x10_1 < (l3.length : Int) := of_decide_eq_true (by first | (with_reducible assumption) | assumption)
                  obtain ⟨ad520, e520, hx520_0⟩ := Kd.at_int HR3.out x10_1 p520 q520
                  have hw520_0 := hx520_0
                  cases e520
                  replace hx520_0 := (HB.out.cell (World.block_lt_of_cell? w _ hx520_0)).trans hx520_0
                  replace p520 := eq_true p520
                  replace q520 := eq_true q520
                  have p26 : 0 ≤ ((ji23) : Int) := of_decide_eq_true (by first | (with_reducible assumption) | assumption)
                  have q26 : ((ji23) : Int) < (((rd_Lsu8 x519000_1 a1_0).length : Int) : Int) := of_decide_eq_true (by first | (with_reducible assumption) | assumption)
                  obtain ⟨go26, co26, eo26, gb26, gl26, cl26, HG26⟩ := Kd.R_form HL519_0.out (by omega)
                  (first | cases eo26 | (injection eo26 with ea_ en_ ec_; (first | subst ea_ | (injection ea_ with ea_; subst ea_)); subst ec_; clear en_))
                  have GB26 := Aside0.mk gb26
                  have GG26 := Aside0.mk HG26
                  clear gb26 gl26 HG26
                  obtain ⟨hx26_0, hf26_0⟩ := Kd.R_celln 0 HL519_0.out ((ji23) : Int) p26 q26
                  replace p26 := eq_true p26
                  replace q26 := eq_true q26
                  have hq29 : (a1_0 : Int) < (x519000_1.length : Int) := (by have h_ : (a1_0 : Int) < ((x519000_1.length : Int) : Int) := of_decide_eq_true (by first | (with_reducible assumption) | assumption); first | exact h_ | (have e_ := (Kd.S_reads' HO_519000.out).1; omega) | simpa only [List.length_set, List.length_set] using h_)
                  obtain ⟨oki29, ce29, hcl29, hM29, hcc29, hok29, hbk29⟩ := Kd.S_borrow HO_519000.out [] (a1_0 : Int) (of_decide_eq_true (by first | (with_reducible assumption) | assumption)) hq29
                  obtain ⟨ve29_0, rfl, ge29_0⟩ := hM29
                  have hv29 := hcc29 0 _ rfl
                  rw [Nat.add_zero, show ((Kd.slice 5 (Kd.int .u8))).sz = 1 from rfl, Nat.mul_one] at hv29
                  replace hv29 := Option.some.inj (hv29.symm.trans HX519_0.out)
                  subst hv29
                  clear hcc29 hcl29
                  replace ge29_0 := (show Kd.R (Kd.int .u8) 5 _ _ _ _ (rd_Lsu8 x519000_1 a1_0) from ge29_0)
                  have HP29 := Kd.R_putg ge29_0 ((ji23) : Int) (rd l3 x10_1)
                  rw [← Ny521.out] at HP29
                  have HS29 := hbk29 HP29.2 (fun k_ e_ => by injection e_ with e_; subst e_; exact ge29_0.1 _ rfl) (x' := y521) (Kd.M_row HP29.1)
                  rw [← Ny523.out] at HS29
                  have HQ29 := Aside0.mk HS29
                  clear HP29 HS29 hbk29 hok29
                  refine start_ (n := 18) (S := fun w' => w'.cell? ⟨gb518, 0, none⟩ = some (.slice (some ad519) x519000_1.length co28) ∧ w'.cell? ⟨gb513, 0, none⟩ = some (.int .i64 a1_0) ∧ w'.cell? ⟨gb513, 1, none⟩ = some (.int .i64 a1_1) ∧ w'.cell? ⟨gb513, 2, none⟩ = some (.int .i64 a1_2) ∧ w'.cell? ⟨gb513, 3, none⟩ = some (.int .i64 a1_3) ∧ w'.cell? (ad519.add (a1_0).toNat) = some (.slice (some ⟨go26, 0, none⟩) (rd_Lsu8 x519000_1 a1_0).length c519_0) ∧ w'.cell? (ad520.add (x10_1).toNat) = some (.int .u8 (rd l3 x10_1))) (ds := [17]) #[false, false, false, false, false, false, false, false, false, false, false, false, false, false, false, false, false, false] (by kernel_rfl) rfl rfl ⟨(blk_cell BK518.out 0).trans rfl, (blk_cell BK513.out 0).trans rfl, (blk_cell BK513.out 1).trans rfl, (blk_cell BK513.out 2).trans rfl, (blk_cell BK513.out 3).trans rfl, hx519_0, (by have h_ := ((HB.out.cell (World.block_lt_of_cell? w _ hw520_0)).trans hw520_0); first | exact h_ | (simp only [*] at h_; exact h_) | (simp [*]; done) | simpa [*] using h_)⟩ (fun hHeld => ?_); refine with_tabW spec_l2Write.tab5 spec_l2Write.bits5 (fun HT_ HW_ => ?_)
                  generalize wr.drew = w27 at HO_519000 BK512 BK513 BK514 BK518 HB GG26 HL519_0 HQ29 HR519_0 HX519_0 hf26_0 hx26_0 hx519_0 hx520_0 hHeld ⊢
                  refine pure_ (i := 0) (N := some 19) (v := ?_) (a' := ?_) #[true, false, false, false, false, false, false, false, false, false, false, false, false, false, false, false, false, false] rfl rfl (any_of HT_.out (by kernel_rfl)) (fun _ _ _ h => h) (Or.inl ⟨by rfl, ?_⟩) ?_ ?_
                  rotate_left
                  · intro w'
                    go_simp
                    with_reducible rfl
                  rotate_left
                  · simp only [Act.put, List.setIfInBounds_toArray, List.set_cons_zero, List.set_cons_succ, i64_w, i32_w]
                    rfl
                  refine pure_ (i := 2) (N := some 21) (v := ?_) (a' := ?_) #[true, false, true, false, false, false, false, false, false, false, false, false, false, false, false, false, false, false] rfl rfl (any_of HT_.out (by kernel_rfl)) (fun _ _ _ h => h) (Or.inl ⟨by rfl, ?_⟩) ?_ ?_
                  rotate_left
                  · intro w'
                    go_simp
                    with_reducible rfl
                  rotate_left
                  · simp only [Act.put, List.setIfInBounds_toArray, List.set_cons_zero, List.set_cons_succ, i64_w, i32_w]
                    rfl
                  refine pure_ (i := 6) (N := some 25) (v := ?_) (a' := ?_) #[true, false, true, false, false, false, true, false, false, false, false, false, false, false, false, false, false, false] rfl rfl (any_of HT_.out (by kernel_rfl)) (fun _ _ _ h => h) (Or.inl ⟨by rfl, ?_⟩) ?_ ?_
                  rotate_left
                  · intro w'
                    go_simp
                    with_reducible rfl
                  rotate_left
                  · simp only [Act.put, List.setIfInBounds_toArray, List.set_cons_zero, List.set_cons_succ, i64_w, i32_w]
                    rfl
                  refine pure_ (i := 8) (N := some 27) (v := ?_) (a' := ?_) #[true, false, true, false, false, false, true, false, true, false, false, false, false, false, false, false, false, false] rfl rfl (any_of HT_.out (by kernel_rfl)) (fun _ _ _ h => h) (Or.inl ⟨by rfl, ?_⟩) ?_ ?_
                  rotate_left
                  · intro w'
                    go_simp
                    with_reducible rfl
                  rotate_left
                  · simp only [Act.put, List.setIfInBounds_toArray, List.set_cons_zero, List.set_cons_succ, i64_w, i32_w]
                    rfl
                  refine pure_ (i := 10) (N := some 29) (v := ?_) (a' := ?_) #[true, false, true, false, false, false, true, false, true, false, true, false, false, false, false, false, false, false] rfl rfl (any_of HT_.out (by kernel_rfl)) (fun _ _ _ h => h) (Or.inl ⟨by rfl, ?_⟩) ?_ ?_
                  rotate_left
                  · intro w'
                    go_simp
                    with_reducible rfl
                  rotate_left
                  · simp only [Act.put, List.setIfInBounds_toArray, List.set_cons_zero, List.set_cons_succ, i64_w, i32_w]
                    rfl
                  refine pure_ (i := 12) (N := some 31) (v := ?_) (a' := ?_) #[true, false, true, false, false, false, true, false, true, false, true, false, true, false, false, false, false, false] rfl rfl (any_of HT_.out (by kernel_rfl)) (fun _ _ _ h => h) (Or.inl ⟨by rfl, ?_⟩) ?_ ?_
                  rotate_left
                  · intro w'
                    go_simp
                    with_reducible rfl
                  rotate_left
                  · simp only [Act.put, List.setIfInBounds_toArray, List.set_cons_zero, List.set_cons_succ, i64_w, i32_w]
                    rfl
                  refine pure_ (i := 13) (N := some 32) (v := ?_) (a' := ?_) #[true, false, true, false, false, false, true, false, true, false, true, false, true, true, false, false, false, false] rfl rfl (any_of HT_.out (by kernel_rfl)) (fun _ _ _ h => h) (Or.inl ⟨by rfl, ?_⟩) ?_ ?_
                  rotate_left
                  · intro w'
                    go_simp
                    with_reducible rfl
                  rotate_left
                  · simp only [Act.put, List.setIfInBounds_toArray, List.set_cons_zero, List.set_cons_succ, i64_w, i32_w]
                    rfl
                  refine pure_ (i := 14) (N := some 33) (v := ?_) (a' := ?_) #[true, false, true, false, false, false, true, false, true, false, true, false, true, true, true, false, false, false] rfl rfl (any_of HT_.out (by kernel_rfl)) (fun _ _ _ h => h) (Or.inl ⟨by rfl, ?_⟩) ?_ ?_
                  rotate_left
                  · intro w'
                    go_simp
                    with_reducible rfl
                  rotate_left
                  · simp only [Act.put, List.setIfInBounds_toArray, List.set_cons_zero, List.set_cons_succ, i64_w, i32_w]
                    rfl
                  refine take_ (i := 1) (N := some 20) (v := ?_) (a' := ?_) #[true, true, true, false, false, false, true, false, true, false, true, false, true, true, true, false, false, false] rfl rfl (take_ofW HT_.out HW_.out (by kernel_rfl)) (fun _ _ _ h => h) (Or.inl ⟨by rfl, ?_⟩) hHeld ?_ ?_
                  rotate_left
                  · rintro w' ⟨s0, s1, s2, s3, s4, s5, s6⟩
                    go_simp
                    with_reducible rfl
                  rotate_left
                  · simp only [Act.put, List.setIfInBounds_toArray, List.set_cons_zero, List.set_cons_succ, i64_w, i32_w]
                    rfl
                  refine take_ (i := 3) (N := some 22) (v := ?_) (a' := ?_) #[true, true, true, true, false, false, true, false, true, false, true, false, true, true, true, false, false, false] rfl rfl (take_ofW HT_.out HW_.out (by kernel_rfl)) (fun _ _ _ h => h) (Or.inl ⟨by rfl, ?_⟩) hHeld ?_ ?_
                  rotate_left
                  · rintro w' ⟨s0, s1, s2, s3, s4, s5, s6⟩
                    go_simp
                    with_reducible rfl
                  rotate_left
                  · simp only [Act.put, List.setIfInBounds_toArray, List.set_cons_zero, List.set_cons_succ, i64_w, i32_w]
                    rfl
                  refine pure_ (i := 4) (N := some 23) (v := ?_) (a' := ?_) #[true, true, true, true, true, false, true, false, true, false, true, false, true, true, true, false, false, false] rfl rfl (any_of HT_.out (by kernel_rfl)) (fun _ _ _ h => h) (Or.inl ⟨by rfl, ?_⟩) ?_ ?_
                  rotate_left
                  · intro w'
                    go_simp
                    with_reducible rfl
                  rotate_left
                  · simp only [Act.put, List.setIfInBounds_toArray, List.set_cons_zero, List.set_cons_succ, i64_w, i32_w]
                    rfl
                  refine take_ (i := 5) (N := some 24) (v := ?_) (a' := ?_) #[true, true, true, true, true, true, true, false, true, false, true, false, true, true, true, false, false, false] rfl rfl (take_ofW HT_.out HW_.out (by kernel_rfl)) (fun _ _ _ h => h) (Or.inl ⟨by rfl, ?_⟩) hHeld ?_ ?_
                  rotate_left
                  · rintro w' ⟨s0, s1, s2, s3, s4, s5, s6⟩
                    go_simp
                    with_reducible rfl
                  rotate_left
                  · simp only [Act.put, List.setIfInBounds_toArray, List.set_cons_zero, List.set_cons_succ, i64_w, i32_w]
                    rfl
                  refine take_ (i := 7) (N := some 26) (v := ?_) (a' := ?_) #[true, true, true, true, true, true, true, true, true, false, true, false, true, true, true, false, false, false] rfl rfl (take_ofW HT_.out HW_.out (by kernel_rfl)) (fun _ _ _ h => h) (Or.inl ⟨by rfl, ?_⟩) hHeld ?_ ?_
                  rotate_left
                  · rintro w' ⟨s0, s1, s2, s3, s4, s5, s6⟩
                    go_simp
                    with_reducible rfl
                  rotate_left
                  · simp only [Act.put, List.setIfInBounds_toArray, List.set_cons_zero, List.set_cons_succ, i64_w, i32_w]
                    rfl
                  refine pure_ (i := 9) (N := some 28) (v := ?_) (a' := ?_) #[true, true, true, true, true, true, true, true, true, true, true, false, true, true, true, false, false, false] rfl rfl (any_of HT_.out (by kernel_rfl)) (fun _ _ _ h => h) (Or.inl ⟨by rfl, ?_⟩) ?_ ?_
                  rotate_left
                  · intro w'
                    go_simp
                    with_reducible rfl
                  rotate_left
                  · simp only [Act.put, List.setIfInBounds_toArray, List.set_cons_zero, List.set_cons_succ, i64_w, i32_w]
                    rfl
                  refine pure_ (i := 11) (N := some 30) (v := ?_) (a' := ?_) #[true, true, true, true, true, true, true, true, true, true, true, true, true, true, true, false, false, false] rfl rfl (any_of HT_.out (by kernel_rfl)) (fun _ _ _ h => h) (Or.inl ⟨by rfl, ?_⟩) ?_ ?_
                  rotate_left
                  · intro w'
                    go_simp
                    with_reducible rfl
                  rotate_left
                  · simp only [Act.put, List.setIfInBounds_toArray, List.set_cons_zero, List.set_cons_succ, i64_w, i32_w]
                    rfl
                  refine take_ (i := 15) (N := some 34) (v := ?_) (a' := ?_) #[true, true, true, true, true, true, true, true, true, true, true, true, true, true, true, true, false, false] rfl rfl (take_ofW HT_.out HW_.out (by kernel_rfl)) (fun _ _ _ h => h) (Or.inl ⟨by rfl, ?_⟩) hHeld ?_ ?_
                  rotate_left
                  · rintro w' ⟨s0, s1, s2, s3, s4, s5, s6⟩
                    go_simp
                    with_reducible rfl
                  rotate_left
                  · simp only [Act.put, List.setIfInBounds_toArray, List.set_cons_zero, List.set_cons_succ, i64_w, i32_w]
                    rfl
                  refine pure_ (i := 16) (N := some 35) (v := ?_) (a' := ?_) #[true, true, true, true, true, true, true, true, true, true, true, true, true, true, true, true, true, false] rfl rfl (any_of HT_.out (by kernel_rfl)) (fun _ _ _ h => h) (Or.inl ⟨by rfl, ?_⟩) ?_ ?_
                  rotate_left
                  · intro w'
                    go_simp
                    with_reducible rfl
                  rotate_left
                  · simp only [Act.put, List.setIfInBounds_toArray, List.set_cons_zero, List.set_cons_succ, i64_w, i32_w]
                    rfl
                  refine last_ (i := 17) (N := none) #[true, true, true, true, true, true, true, true, true, true, true, true, true, true, true, true, true, true] rfl rfl (one_of HT_.out (by kernel_rfl)) (by decide) (fun K hK => ?_)
                  refine skip_ (w1 := ?_) (by rfl) rfl ?_ ?_
                  rotate_left
                  · go_simp
                    rfl
                  refine hK.out _ _ ?_
                  clear hK K
                  refine done_ (done_of HT_.out (by kernel_rfl)) ?_
                  try go_wp2
                  go_roundg k1
                  case measure => have := HK1.out; omega
                  case rel => exact ⟨(wrap64 (x10_1 + 1)), (y523), (.slice (some ad519) x519000_1.length co28), (by first | rfl | (simp; done) | (simp [*]; done)), H', ⟨by have := HK1.out; omega⟩, ⟨by (with_reducible repeat (first | apply Kd.S_alloc | apply Kd.S_drewN | apply Kd.S_drew)); exact HQ29.out⟩, ⟨by (with_reducible repeat (first | refine blk_drewN ?_ _ | refine blk_drew ?_ | refine blk_alloc ?_ _)); refine blk_far ?_ (by have h_ := Kd.R_ne HL519_0.out BK512.out (by decide); intro e_; exact h_ (by rw [e_]; rfl)) _; (with_reducible repeat (first | refine blk_drewN ?_ _ | refine blk_drew ?_ | refine blk_alloc ?_ _)); exact BK512.out⟩, ⟨by (with_reducible repeat (first | refine blk_drewN ?_ _ | refine blk_drew ?_ | refine blk_alloc ?_ _)); refine blk_far ?_ (by have h_ := Kd.R_ne HL519_0.out BK513.out (by decide); intro e_; exact h_ (by rw [e_]; rfl)) _; (with_reducible repeat (first | refine blk_drewN ?_ _ | refine blk_drew ?_ | refine blk_alloc ?_ _)); exact BK513.out⟩, ⟨by (with_reducible repeat (first | refine blk_drewN ?_ _ | refine blk_drew ?_ | refine blk_alloc ?_ _)); refine blk_far ?_ (by have h_ := Kd.R_ne HL519_0.out BK514.out (by decide); intro e_; exact h_ (by rw [e_]; rfl)) _; (with_reducible repeat (first | refine blk_drewN ?_ _ | refine blk_drew ?_ | refine blk_alloc ?_ _)); exact BK514.out⟩, ⟨by (with_reducible repeat (first | refine blk_drewN ?_ _ | refine blk_drew ?_ | refine blk_alloc ?_ _)); refine blk_far ?_ (by have h_ := Kd.R_ne HL519_0.out BK518.out (by decide); intro e_; exact h_ (by rw [e_]; rfl)) _; (with_reducible repeat (first | refine blk_drewN ?_ _ | refine blk_drew ?_ | refine blk_alloc ?_ _)); exact BK518.out⟩, ⟨by repeat (first | (with_reducible first | exact HB.out | apply below_alloc | apply pw_below_drewN | apply below_drew1 | refine below_set ?_ GB26.out | refine below_set ?_ GE512.out | refine below_set ?_ GE513.out | refine below_set ?_ GE514.out | refine below_set ?_ GE518.out) | exact HB.out)⟩⟩
                · rw [if_neg c25] at H
                  exact absurd H (by simp)
              · rw [if_neg c24] at H
                exact absurd H (by simp)
            · rw [if_neg c22] at H
              exact absurd H (by simp)
          · rw [if_neg c21] at H
            exact absurd H (by simp)
        · rw [if_neg c20] at H
          exact absurd H (by simp)
      · rw [if_neg c19] at H
        have c19b0 : decide (x10_1 < (l3.length : Int)) = false := decide_eq_false c19
        clear c19
        obtain rfl := Option.some.inj H
        have hnb31 := NB518_512.out
        have hnc31 := NB512_518.out
        have hnb32 := NB518_513.out
        have hnc32 := NB513_518.out
        have hnb33 := NB518_514.out
        have hnc33 := NB514_518.out
        have hcz34_0 : wr.cell? ⟨gb518, 0, none⟩ = some (u519000) := (blk_cell BK518.out 0).trans rfl
        have hfz34_0 := blk_frozen BK518.out 0
        obtain ⟨Ao35, co35, eo35⟩ := Kd.S_slice HO_519000.out
        subst eo35
        have hnb36 := NB514_512.out
        have hnc36 := NB512_514.out
        have hnb37 := NB514_513.out
        have hnc37 := NB513_514.out
        have hcz38_0 : wr.cell? ⟨gb514, 0, none⟩ = some (.slice none 0 0) := (blk_cell BK514.out 0).trans rfl
        have hfz38_0 := blk_frozen BK514.out 0
        go_wp2
        refine bodyPost_ret (results_cell_row rfl _ _ gb514 26 #[.slice Ao35 x519000_1.length co35] (0, 0) _ rfl (by (with_reducible repeat (first | refine blk_drewN ?_ _ | refine blk_drew ?_ | refine blk_alloc ?_ _)); refine blk_put (cs := #[.slice none 0 0]) ?_ 0 _ rfl; (with_reducible repeat (first | refine blk_drewN ?_ _ | refine blk_drew ?_ | refine blk_alloc ?_ _)); exact BK514.out) Try.underlying26 rfl (by kernel_rfl)) rfl ?_
        exact ⟨_, by first | rfl | (simp [errW_none, errW_some] <;> rfl) | (simp [*, errW_none, errW_some] <;> rfl), by (with_reducible repeat (first | apply Kd.S_alloc | apply Kd.S_drewN | apply Kd.S_drew)); exact Kd.S_mono (Kd.S_far (p := ⟨gb514, 0, none⟩) (Kd.S_types HO_519000.out BK514.out (by decide)) (fun _ hk => hk.2) (.slice Ao35 x519000_1.length co35)) (fun _ hk => trivial), by repeat (first | (with_reducible first | exact HB.out | apply below_alloc | apply pw_below_drewN | apply below_drew1 | refine below_set ?_ GE512.out | refine below_set ?_ GE513.out | refine below_set ?_ GE514.out | refine below_set ?_ GE518.out) | exact HB.out)⟩

end Go.Proofs.Ytoomjghabiojkaa.P


namespace Go.Proofs.Ytoomjghabiojkaa.P
open Go.RowKit Go.Proofs.YtoomjghabiojkaaW.PrintWords Go.Proofs.YtoomjghabiojkaaW.PrintLast Go.Proofs.YtoomjghabiojkaaW.PrintMore
attribute [local go_sem] max2_int min2_int max_two min_two max_three min_three max_four min_four   -- for this text's walks alone
set_option linter.unusedVariables false
set_option linter.unusedSimpArgs false

def spec_l2At.f (l0_0 : List (List Int)) (a1_0 : Int) (a1_1 : Int) (a1_2 : Int) (a1_3 : Int) (a2 : Int) : Option (Int) := if 0 ≤ a1_0 then (if a1_0 < (l0_0.length : Int) then (if 0 ≤ (wrap64 (a1_1 + a2)) then (if (wrap64 (a1_1 + a2)) < ((rd_Lsu8 l0_0 a1_0).length : Int) then (some (rd (rd_Lsu8 l0_0 a1_0) (wrap64 (a1_1 + a2)))) else (none)) else (none)) else (none)) else (none)
set_option maxHeartbeats 8000000 in
set_option maxRecDepth 100000 in
theorem spec_l2At.calls (A0_0 : Option Addr) (c0_0 : Nat) (l0_0 : List (List Int)) (a1_0 : Int) (a1_1 : Int) (a1_2 : Int) (a1_3 : Int) (a2 : Int) (r : Int) (w : World) (hr0_0 : Kd.C (Kd.slice 5 (Kd.int .u8)) w A0_0 l0_0.length l0_0) (hc0_0 : l0_0.length ≤ c0_0) (h : spec_l2At.f l0_0 a1_0 a1_1 a1_2 a1_3 a2 = some r) :
    Calls Try.prog 156 #[.agg #[.slice A0_0 l0_0.length c0_0], .agg #[.int .i64 a1_0, .int .i64 a1_1, .int .i64 a1_2, .int .i64 a1_3], .int .i64 a2] w fun e w' => e = .returned (.int .u8 r) ∧ Below w.heap.size w w' := by
  have hu26 := Try.underlying26
  have hu48 := Try.underlying48
  have HR0_0 := Aside0.mk hr0_0
  have HC0_0 := Aside0.mk hc0_0
  clear hr0_0 hc0_0
  have HB := Aside0.mk (Below.refl w.heap.size w)
  have H : (if 0 ≤ a1_0 then (if a1_0 < (l0_0.length : Int) then (if 0 ≤ (wrap64 (a1_1 + a2)) then (if (wrap64 (a1_1 + a2)) < ((rd_Lsu8 l0_0 a1_0).length : Int) then (some (rd (rd_Lsu8 l0_0 a1_0) (wrap64 (a1_1 + a2)))) else (none)) else (none)) else (none)) else (none)) = some r := h
  clear h
  by_cases c4 : 0 ≤ a1_0
  · rw [if_pos c4] at H
    have c4b0 : decide (0 ≤ a1_0) = true := decide_eq_true c4
    clear c4
    by_cases c5 : a1_0 < (l0_0.length : Int)
    · rw [if_pos c5] at H
      have c5b0 : decide (a1_0 < (l0_0.length : Int)) = true := decide_eq_true c5
      clear c5
      obtain ⟨ji6, hji6⟩ : ∃ j_ : Int, (wrap64 (a1_1 + a2)) = j_ := ⟨_, rfl⟩
      replace H : (if 0 ≤ (ji6) then (if (ji6) < ((rd_Lsu8 l0_0 a1_0).length : Int) then (some (rd (rd_Lsu8 l0_0 a1_0) (ji6))) else (none)) else (none)) = some r := by first | (rw [hji6] at H; exact H) | (simp only [hji6] at H ⊢; exact H)
      have hji6w : (IntKind.i64.wrap (a1_1 + a2)) = ji6 := (i64_w _).trans hji6
      by_cases c7 : 0 ≤ (ji6)
      · rw [if_pos c7] at H
        have c7b0 : decide (0 ≤ (ji6)) = true := decide_eq_true c7
        clear c7
        by_cases c8 : (ji6) < ((rd_Lsu8 l0_0 a1_0).length : Int)
        · rw [if_pos c8] at H
          have c8b0 : decide ((ji6) < ((rd_Lsu8 l0_0 a1_0).length : Int)) = true := decide_eq_true c8
          clear c8
          obtain rfl := Option.some.inj H
          go_enter Try.func156, Try.ntmps156
          go_wp2_with (first | ((with_reducible refine gate_dst (N := 3) rfl ?_); refine box_event ?hg (N := 3) ?hd (cs := #[.slice A0_0 l0_0.length c0_0]) (t := 26) ?hr ?_; (case hd => rfl); (case hg => rfl); (case hr => first | (go_simp; done) | (go_simp; rfl)); intro gb499 hg w9 hbox hb; have n0_ := Aside0.mk (below_step (by repeat (first | (with_reducible first | exact HB.out | apply below_alloc | apply pw_below_drewN | apply below_drew1) | exact HB.out)) hb); have n1_ := Aside0.mk (hbox); have n2_ := Aside0.mk ((by rw [hg]; exact (below_size (by repeat (first | (with_reducible first | exact HB.out | apply below_alloc | apply pw_below_drewN | apply below_drew1) | exact HB.out))) : w.heap.size ≤ gb499)); have n3_ := Aside0.mk ((by rw [hg]; exact (below_size (by repeat (first | (with_reducible first | exact HB.out | apply below_alloc | apply pw_below_drewN | apply below_drew1) | exact HB.out))) : w.heap.size ≤ gb499)); clear HB; have HB := n0_; have BK499 := n1_; have GW499 := n2_; have GE499 := n3_; clear n0_ n1_ n2_ n3_; clear hb hbox hg) | ((with_reducible refine gate_dst (N := 4) rfl ?_); refine box_event ?hg (N := 4) ?hd (cs := #[.int .i64 a1_0, .int .i64 a1_1, .int .i64 a1_2, .int .i64 a1_3]) (t := 48) ?hr ?_; (case hd => rfl); (case hg => rfl); (case hr => first | (go_simp; done) | (go_simp; rfl)); intro gb500 hg w10 hbox hb; have n0_ := Aside0.mk (blk_below (g := gb499) (o := .cells #[.slice A0_0 l0_0.length c0_0] 26 (0, 0)) (by (with_reducible repeat (first | refine blk_drewN ?_ _ | refine blk_drew ?_ | refine blk_alloc ?_ _)); exact BK499.out) hb); have n1_ := Aside0.mk (below_step (by repeat (first | (with_reducible first | exact HB.out | apply below_alloc | apply pw_below_drewN | apply below_drew1 | refine below_set ?_ GE499.out) | exact HB.out)) hb); have n2_ := Aside0.mk (hbox); have n3_ := Aside0.mk ((by rw [hg]; exact (below_size (by repeat (first | (with_reducible first | exact HB.out | apply below_alloc | apply pw_below_drewN | apply below_drew1 | refine below_set ?_ GE499.out) | exact HB.out))) : w.heap.size ≤ gb500)); have n4_ := Aside0.mk ((by rw [hg]; exact (below_size (by repeat (first | (with_reducible first | exact HB.out | apply below_alloc | apply pw_below_drewN | apply below_drew1 | refine below_set ?_ GE499.out) | exact HB.out))) : w.heap.size ≤ gb500)); have n5_ := Aside0.mk ((by rw [hg]; exact Nat.ne_of_lt (blk_lt (g := gb499) (o := .cells #[.slice A0_0 l0_0.length c0_0] 26 (0, 0)) (by (with_reducible repeat (first | refine blk_drewN ?_ _ | refine blk_drew ?_ | refine blk_alloc ?_ _)); exact BK499.out)) : gb499 ≠ gb500)); have n6_ := Aside0.mk ((by rw [hg]; exact Nat.ne_of_gt (blk_lt (g := gb499) (o := .cells #[.slice A0_0 l0_0.length c0_0] 26 (0, 0)) (by (with_reducible repeat (first | refine blk_drewN ?_ _ | refine blk_drew ?_ | refine blk_alloc ?_ _)); exact BK499.out)) : gb500 ≠ gb499)); clear BK499; clear HB; have BK499 := n0_; have HB := n1_; have BK500 := n2_; have GW500 := n3_; have GE500 := n4_; have NB499_500 := n5_; have NB500_499 := n6_; clear n0_ n1_ n2_ n3_ n4_ n5_ n6_; clear hb hbox hg; have hnb11 := NB499_500.out; have hnc11 := NB500_499.out; have hcz12_0 : w10.cell? ⟨gb499, 0, none⟩ = some (.slice A0_0 l0_0.length c0_0) := (blk_cell BK499.out 0).trans rfl; have hfz12_0 := blk_frozen BK499.out 0; have hcz13_0 : w10.cell? ⟨gb500, 0, none⟩ = some (.int .i64 a1_0) := (blk_cell BK500.out 0).trans rfl; have hcz13_1 : w10.cell? ⟨gb500, 1, none⟩ = some (.int .i64 a1_1) := (blk_cell BK500.out 1).trans rfl; have hcz13_2 : w10.cell? ⟨gb500, 2, none⟩ = some (.int .i64 a1_2) := (blk_cell BK500.out 2).trans rfl; have hcz13_3 : w10.cell? ⟨gb500, 3, none⟩ = some (.int .i64 a1_3) := (blk_cell BK500.out 3).trans rfl; have hfz13_0 := blk_frozen BK500.out 0; have hfz13_1 := blk_frozen BK500.out 1; have hfz13_2 := blk_frozen BK500.out 2; have hfz13_3 := blk_frozen BK500.out 3; have p501 : 0 ≤ (a1_0 : Int) := of_decide_eq_true (by first | (with_reducible assumption) | assumption); have q501 : a1_0 < (l0_0.length : Int) := of_decide_eq_true (by first | (with_reducible assumption) | assumption); obtain ⟨ad501, A501_0, c501_0, e501, hx501_0, hl501_0, hi501_0⟩ := at_Lsu8 HR0_0.out a1_0 p501 q501; cases e501; replace hx501_0 := (HB.out.cell (World.block_lt_of_cell? w _ hx501_0)).trans hx501_0; have HR501_0 := Aside0.mk hi501_0; have HC501_0 := Aside0.mk hl501_0; clear hi501_0 hl501_0; replace p501 := eq_true p501; replace q501 := eq_true q501; have p502 : 0 ≤ ((ji6) : Int) := of_decide_eq_true (by first | (with_reducible assumption) | assumption); have q502 : (ji6) < ((rd_Lsu8 l0_0 a1_0).length : Int) := of_decide_eq_true (by first | (with_reducible assumption) | assumption); obtain ⟨ad502, e502, hx502_0⟩ := Kd.at_int HR501_0.out (ji6) p502 q502; cases e502; replace hx502_0 := (HB.out.cell (World.block_lt_of_cell? w _ hx502_0)).trans hx502_0; replace p502 := eq_true p502; replace q502 := eq_true q502))
          repeat (go_quiet (first | ((with_reducible refine gate_dst (N := 3) rfl ?_); refine box_event ?hg (N := 3) ?hd (cs := #[.slice A0_0 l0_0.length c0_0]) (t := 26) ?hr ?_; (case hd => rfl); (case hg => rfl); (case hr => first | (go_simp; done) | (go_simp; rfl)); intro gb499 hg w9 hbox hb; have n0_ := Aside0.mk (below_step (by repeat (first | (with_reducible first | exact HB.out | apply below_alloc | apply pw_below_drewN | apply below_drew1) | exact HB.out)) hb); have n1_ := Aside0.mk (hbox); have n2_ := Aside0.mk ((by rw [hg]; exact (below_size (by repeat (first | (with_reducible first | exact HB.out | apply below_alloc | apply pw_below_drewN | apply below_drew1) | exact HB.out))) : w.heap.size ≤ gb499)); have n3_ := Aside0.mk ((by rw [hg]; exact (below_size (by repeat (first | (with_reducible first | exact HB.out | apply below_alloc | apply pw_below_drewN | apply below_drew1) | exact HB.out))) : w.heap.size ≤ gb499)); clear HB; have HB := n0_; have BK499 := n1_; have GW499 := n2_; have GE499 := n3_; clear n0_ n1_ n2_ n3_; clear hb hbox hg) | ((with_reducible refine gate_dst (N := 4) rfl ?_); refine box_event ?hg (N := 4) ?hd (cs := #[.int .i64 a1_0, .int .i64 a1_1, .int .i64 a1_2, .int .i64 a1_3]) (t := 48) ?hr ?_; (case hd => rfl); (case hg => rfl); (case hr => first | (go_simp; done) | (go_simp; rfl)); intro gb500 hg w10 hbox hb; have n0_ := Aside0.mk (blk_below (g := gb499) (o := .cells #[.slice A0_0 l0_0.length c0_0] 26 (0, 0)) (by (with_reducible repeat (first | refine blk_drewN ?_ _ | refine blk_drew ?_ | refine blk_alloc ?_ _)); exact BK499.out) hb); have n1_ := Aside0.mk (below_step (by repeat (first | (with_reducible first | exact HB.out | apply below_alloc | apply pw_below_drewN | apply below_drew1 | refine below_set ?_ GE499.out) | exact HB.out)) hb); have n2_ := Aside0.mk (hbox); have n3_ := Aside0.mk ((by rw [hg]; exact (below_size (by repeat (first | (with_reducible first | exact HB.out | apply below_alloc | apply pw_below_drewN | apply below_drew1 | refine below_set ?_ GE499.out) | exact HB.out))) : w.heap.size ≤ gb500)); have n4_ := Aside0.mk ((by rw [hg]; exact (below_size (by repeat (first | (with_reducible first | exact HB.out | apply below_alloc | apply pw_below_drewN | apply below_drew1 | refine below_set ?_ GE499.out) | exact HB.out))) : w.heap.size ≤ gb500)); have n5_ := Aside0.mk ((by rw [hg]; exact Nat.ne_of_lt (blk_lt (g := gb499) (o := .cells #[.slice A0_0 l0_0.length c0_0] 26 (0, 0)) (by (with_reducible repeat (first | refine blk_drewN ?_ _ | refine blk_drew ?_ | refine blk_alloc ?_ _)); exact BK499.out)) : gb499 ≠ gb500)); have n6_ := Aside0.mk ((by rw [hg]; exact Nat.ne_of_gt (blk_lt (g := gb499) (o := .cells #[.slice A0_0 l0_0.length c0_0] 26 (0, 0)) (by (with_reducible repeat (first | refine blk_drewN ?_ _ | refine blk_drew ?_ | refine blk_alloc ?_ _)); exact BK499.out)) : gb500 ≠ gb499)); clear BK499; clear HB; have BK499 := n0_; have HB := n1_; have BK500 := n2_; have GW500 := n3_; have GE500 := n4_; have NB499_500 := n5_; have NB500_499 := n6_; clear n0_ n1_ n2_ n3_ n4_ n5_ n6_; clear hb hbox hg; have hnb11 := NB499_500.out; have hnc11 := NB500_499.out; have hcz12_0 : w10.cell? ⟨gb499, 0, none⟩ = some (.slice A0_0 l0_0.length c0_0) := (blk_cell BK499.out 0).trans rfl; have hfz12_0 := blk_frozen BK499.out 0; have hcz13_0 : w10.cell? ⟨gb500, 0, none⟩ = some (.int .i64 a1_0) := (blk_cell BK500.out 0).trans rfl; have hcz13_1 : w10.cell? ⟨gb500, 1, none⟩ = some (.int .i64 a1_1) := (blk_cell BK500.out 1).trans rfl; have hcz13_2 : w10.cell? ⟨gb500, 2, none⟩ = some (.int .i64 a1_2) := (blk_cell BK500.out 2).trans rfl; have hcz13_3 : w10.cell? ⟨gb500, 3, none⟩ = some (.int .i64 a1_3) := (blk_cell BK500.out 3).trans rfl; have hfz13_0 := blk_frozen BK500.out 0; have hfz13_1 := blk_frozen BK500.out 1; have hfz13_2 := blk_frozen BK500.out 2; have hfz13_3 := blk_frozen BK500.out 3; have p501 : 0 ≤ (a1_0 : Int) := of_decide_eq_true (by first | (with_reducible assumption) | assumption); have q501 : a1_0 < (l0_0.length : Int) := of_decide_eq_true (by first | (with_reducible assumption) | assumption); obtain ⟨ad501, A501_0, c501_0, e501, hx501_0, hl501_0, hi501_0⟩ := at_Lsu8 HR0_0.out a1_0 p501 q501; cases e501; replace hx501_0 := (HB.out.cell (World.block_lt_of_cell? w _ hx501_0)).trans hx501_0; have HR501_0 := Aside0.mk hi501_0; have HC501_0 := Aside0.mk hl501_0; clear hi501_0 hl501_0; replace p501 := eq_true p501; replace q501 := eq_true q501; have p502 : 0 ≤ ((ji6) : Int) := of_decide_eq_true (by first | (with_reducible assumption) | assumption); have q502 : (ji6) < ((rd_Lsu8 l0_0 a1_0).length : Int) := of_decide_eq_true (by first | (with_reducible assumption) | assumption); obtain ⟨ad502, e502, hx502_0⟩ := Kd.at_int HR501_0.out (ji6) p502 q502; cases e502; replace hx502_0 := (HB.out.cell (World.block_lt_of_cell? w _ hx502_0)).trans hx502_0; replace p502 := eq_true p502; replace q502 := eq_true q502)); try go_wp2_with (first | ((with_reducible refine gate_dst (N := 3) rfl ?_); refine box_event ?hg (N := 3) ?hd (cs := #[.slice A0_0 l0_0.length c0_0]) (t := 26) ?hr ?_; (case hd => rfl); (case hg => rfl); (case hr => first | (go_simp; done) | (go_simp; rfl)); intro gb499 hg w9 hbox hb; have n0_ := Aside0.mk (below_step (by repeat (first | (with_reducible first | exact HB.out | apply below_alloc | apply pw_below_drewN | apply below_drew1) | exact HB.out)) hb); have n1_ := Aside0.mk (hbox); have n2_ := Aside0.mk ((by rw [hg]; exact (below_size (by repeat (first | (with_reducible first | exact HB.out | apply below_alloc | apply pw_below_drewN | apply below_drew1) | exact HB.out))) : w.heap.size ≤ gb499)); have n3_ := Aside0.mk ((by rw [hg]; exact (below_size (by repeat (first | (with_reducible first | exact HB.out | apply below_alloc | apply pw_below_drewN | apply below_drew1) | exact HB.out))) : w.heap.size ≤ gb499)); clear HB; have HB := n0_; have BK499 := n1_; have GW499 := n2_; have GE499 := n3_; clear n0_ n1_ n2_ n3_; clear hb hbox hg) | ((with_reducible refine gate_dst (N := 4) rfl ?_); refine box_event ?hg (N := 4) ?hd (cs := #[.int .i64 a1_0, .int .i64 a1_1, .int .i64 a1_2, .int .i64 a1_3]) (t := 48) ?hr ?_; (case hd => rfl); (case hg => rfl); (case hr => first | (go_simp; done) | (go_simp; rfl)); intro gb500 hg w10 hbox hb; have n0_ := Aside0.mk (blk_below (g := gb499) (o := .cells #[.slice A0_0 l0_0.length c0_0] 26 (0, 0)) (by (with_reducible repeat (first | refine blk_drewN ?_ _ | refine blk_drew ?_ | refine blk_alloc ?_ _)); exact BK499.out) hb); have n1_ := Aside0.mk (below_step (by repeat (first | (with_reducible first | exact HB.out | apply below_alloc | apply pw_below_drewN | apply below_drew1 | refine below_set ?_ GE499.out) | exact HB.out)) hb); have n2_ := Aside0.mk (hbox); have n3_ := Aside0.mk ((by rw [hg]; exact (below_size (by repeat (first | (with_reducible first | exact HB.out | apply below_alloc | apply pw_below_drewN | apply below_drew1 | refine below_set ?_ GE499.out) | exact HB.out))) : w.heap.size ≤ gb500)); have n4_ := Aside0.mk ((by rw [hg]; exact (below_size (by repeat (first | (with_reducible first | exact HB.out | apply below_alloc | apply pw_below_drewN | apply below_drew1 | refine below_set ?_ GE499.out) | exact HB.out))) : w.heap.size ≤ gb500)); have n5_ := Aside0.mk ((by rw [hg]; exact Nat.ne_of_lt (blk_lt (g := gb499) (o := .cells #[.slice A0_0 l0_0.length c0_0] 26 (0, 0)) (by (with_reducible repeat (first | refine blk_drewN ?_ _ | refine blk_drew ?_ | refine blk_alloc ?_ _)); exact BK499.out)) : gb499 ≠ gb500)); have n6_ := Aside0.mk ((by rw [hg]; exact Nat.ne_of_gt (blk_lt (g := gb499) (o := .cells #[.slice A0_0 l0_0.length c0_0] 26 (0, 0)) (by (with_reducible repeat (first | refine blk_drewN ?_ _ | refine blk_drew ?_ | refine blk_alloc ?_ _)); exact BK499.out)) : gb500 ≠ gb499)); clear BK499; clear HB; have BK499 := n0_; have HB := n1_; have BK500 := n2_; have GW500 := n3_; have GE500 := n4_; have NB499_500 := n5_; have NB500_499 := n6_; clear n0_ n1_ n2_ n3_ n4_ n5_ n6_; clear hb hbox hg; have hnb11 := NB499_500.out; have hnc11 := NB500_499.out; have hcz12_0 : w10.cell? ⟨gb499, 0, none⟩ = some (.slice A0_0 l0_0.length c0_0) := (blk_cell BK499.out 0).trans rfl; have hfz12_0 := blk_frozen BK499.out 0; have hcz13_0 : w10.cell? ⟨gb500, 0, none⟩ = some (.int .i64 a1_0) := (blk_cell BK500.out 0).trans rfl; have hcz13_1 : w10.cell? ⟨gb500, 1, none⟩ = some (.int .i64 a1_1) := (blk_cell BK500.out 1).trans rfl; have hcz13_2 : w10.cell? ⟨gb500, 2, none⟩ = some (.int .i64 a1_2) := (blk_cell BK500.out 2).trans rfl; have hcz13_3 : w10.cell? ⟨gb500, 3, none⟩ = some (.int .i64 a1_3) := (blk_cell BK500.out 3).trans rfl; have hfz13_0 := blk_frozen BK500.out 0; have hfz13_1 := blk_frozen BK500.out 1; have hfz13_2 := blk_frozen BK500.out 2; have hfz13_3 := blk_frozen BK500.out 3; have p501 : 0 ≤ (a1_0 : Int) := of_decide_eq_true (by first | (with_reducible assumption) | assumption); have q501 : a1_0 < (l0_0.length : Int) := of_decide_eq_true (by first | (with_reducible assumption) | assumption); obtain ⟨ad501, A501_0, c501_0, e501, hx501_0, hl501_0, hi501_0⟩ := at_Lsu8 HR0_0.out a1_0 p501 q501; cases e501; replace hx501_0 := (HB.out.cell (World.block_lt_of_cell? w _ hx501_0)).trans hx501_0; have HR501_0 := Aside0.mk hi501_0; have HC501_0 := Aside0.mk hl501_0; clear hi501_0 hl501_0; replace p501 := eq_true p501; replace q501 := eq_true q501; have p502 : 0 ≤ ((ji6) : Int) := of_decide_eq_true (by first | (with_reducible assumption) | assumption); have q502 : (ji6) < ((rd_Lsu8 l0_0 a1_0).length : Int) := of_decide_eq_true (by first | (with_reducible assumption) | assumption); obtain ⟨ad502, e502, hx502_0⟩ := Kd.at_int HR501_0.out (ji6) p502 q502; cases e502; replace hx502_0 := (HB.out.cell (World.block_lt_of_cell? w _ hx502_0)).trans hx502_0; replace p502 := eq_true p502; replace q502 := eq_true q502)))
          go_ret
          exact ⟨by first | rfl | (simp [errW_none, errW_some] <;> rfl) | (simp only [← hji6]; first | rfl | (simp [errW_none, errW_some] <;> rfl)) | (simp [*, errW_none, errW_some] <;> rfl), by repeat (first | (with_reducible first | exact HB.out | apply below_alloc | apply pw_below_drewN | apply below_drew1 | refine below_set ?_ GE499.out | refine below_set ?_ GE500.out) | exact HB.out)⟩
        · rw [if_neg c8] at H
          exact absurd H (by simp)
      · rw [if_neg c7] at H
        exact absurd H (by simp)
    · rw [if_neg c5] at H
      exact absurd H (by simp)
  · rw [if_neg c4] at H
    exact absurd H (by simp)

end Go.Proofs.Ytoomjghabiojkaa.P


namespace Go.Proofs.Ytoomjghabiojkaa.P
open Go.RowKit Go.Proofs.YtoomjghabiojkaaW.PrintWords Go.Proofs.YtoomjghabiojkaaW.PrintLast Go.Proofs.YtoomjghabiojkaaW.PrintMore
attribute [local go_sem] max2_int min2_int max_two min_two max_three min_three max_four min_four   -- for this text's walks alone
set_option linter.unusedVariables false
set_option linter.unusedSimpArgs false

def spec_l2Bytes.l0 : Nat → List Int → Int → List (List Int) → Int → Int → Int → Int → Option (List Int)
  | 0, _, _, _, _, _, _, _ => none
  | k + 1, x5, x6, x504000, x505000, x505001, x505002, x505003 => if x6 < x505002 then ((spec_l2At.f x504000 x505000 x505001 x505002 x505003 x6).bind fun t508 => (if x5.length < 140737488355328 then (spec_l2Bytes.l0 k (x5 ++ [t508]) (wrap64 (x6 + 1)) x504000 x505000 x505001 x505002 x505003) else (none))) else (some x5)
def spec_l2Bytes.f (k : Nat) (l0_0 : List (List Int)) (a1_0 : Int) (a1_1 : Int) (a1_2 : Int) (a1_3 : Int) : Option (List Int) := spec_l2Bytes.l0 k (([] : List Int)) 0 l0_0 a1_0 a1_1 a1_2 a1_3
set_option maxHeartbeats 8000000 in
set_option maxRecDepth 100000 in
theorem spec_l2Bytes.calls (k : Nat) (A0_0 : Option Addr) (c0_0 : Nat) (l0_0 : List (List Int)) (a1_0 : Int) (a1_1 : Int) (a1_2 : Int) (a1_3 : Int) (r : List Int) (w : World) (hr0_0 : Kd.C (Kd.slice 5 (Kd.int .u8)) w A0_0 l0_0.length l0_0) (hc0_0 : l0_0.length ≤ c0_0) (h : spec_l2Bytes.f k l0_0 a1_0 a1_1 a1_2 a1_3 = some r) :
    Calls Try.prog 142 #[.agg #[.slice A0_0 l0_0.length c0_0], .agg #[.int .i64 a1_0, .int .i64 a1_1, .int .i64 a1_2, .int .i64 a1_3]] w fun e w' => ∃ v0_ : Value, e = .returned (v0_) ∧ Kd.R (Kd.int .u8) 5 w' w.heap.size (fun _ => True) v0_ r ∧ Below w.heap.size w w' := by
  have hu26 := Try.underlying26
  have hu48 := Try.underlying48
  have HR0_0 := Aside0.mk hr0_0
  have HC0_0 := Aside0.mk hc0_0
  clear hr0_0 hc0_0
  have HB := Aside0.mk (Below.refl w.heap.size w)
  have H : (spec_l2Bytes.l0 k (([] : List Int)) 0 l0_0 a1_0 a1_1 a1_2 a1_3) = some r := h
  clear h
  obtain ⟨y505, hy505⟩ : ∃ y_ : List Int, y_ = (([] : List Int)) := ⟨_, rfl⟩
  replace H : (spec_l2Bytes.l0 k y505 0 l0_0 a1_0 a1_1 a1_2 a1_3) = some r := by first | (rw [hy505]; with_reducible exact H) | (have H2_ := (Option.bind_some _ _).symm.trans H; rw [hy505]; with_reducible exact H2_) | (have H2_ := (Option.bind_some _ _).symm.trans H; with_reducible exact H2_) | with_reducible exact H | (rw [hy505]; exact H) | exact H
  have Ny505 := Aside0.mk hy505
  clear hy505
  have H' := Aside0.mk H
  clear H
  go_enter Try.func142, Try.ntmps142
  go_wp2_with (first | ((with_reducible refine gate_dst (N := 2) rfl ?_); refine box_event ?hg (N := 2) ?hd (cs := #[.slice A0_0 l0_0.length c0_0]) (t := 26) ?hr ?_; (case hd => rfl); (case hg => rfl); (case hr => first | (go_simp; done) | (go_simp; rfl)); intro gb503 hg w3 hbox hb; have n0_ := Aside0.mk (below_step (by repeat (first | (with_reducible first | exact HB.out | apply below_alloc | apply pw_below_drewN | apply below_drew1) | exact HB.out)) hb); have n1_ := Aside0.mk (hbox); have n2_ := Aside0.mk ((by rw [hg]; exact (below_size (by repeat (first | (with_reducible first | exact HB.out | apply below_alloc | apply pw_below_drewN | apply below_drew1) | exact HB.out))) : w.heap.size ≤ gb503)); have n3_ := Aside0.mk ((by rw [hg]; exact (below_size (by repeat (first | (with_reducible first | exact HB.out | apply below_alloc | apply pw_below_drewN | apply below_drew1) | exact HB.out))) : w.heap.size ≤ gb503)); clear HB; have HB := n0_; have BK503 := n1_; have GW503 := n2_; have GE503 := n3_; clear n0_ n1_ n2_ n3_; clear hb hbox hg) | ((with_reducible refine gate_dst (N := 3) rfl ?_); refine box_event ?hg (N := 3) ?hd (cs := #[.int .i64 a1_0, .int .i64 a1_1, .int .i64 a1_2, .int .i64 a1_3]) (t := 48) ?hr ?_; (case hd => rfl); (case hg => rfl); (case hr => first | (go_simp; done) | (go_simp; rfl)); intro gb504 hg w4 hbox hb; have n0_ := Aside0.mk (blk_below (g := gb503) (o := .cells #[.slice A0_0 l0_0.length c0_0] 26 (0, 0)) (by (with_reducible repeat (first | refine blk_drewN ?_ _ | refine blk_drew ?_ | refine blk_alloc ?_ _)); exact BK503.out) hb); have n1_ := Aside0.mk (below_step (by repeat (first | (with_reducible first | exact HB.out | apply below_alloc | apply pw_below_drewN | apply below_drew1 | refine below_set ?_ GE503.out) | exact HB.out)) hb); have n2_ := Aside0.mk (hbox); have n3_ := Aside0.mk ((by rw [hg]; exact (below_size (by repeat (first | (with_reducible first | exact HB.out | apply below_alloc | apply pw_below_drewN | apply below_drew1 | refine below_set ?_ GE503.out) | exact HB.out))) : w.heap.size ≤ gb504)); have n4_ := Aside0.mk ((by rw [hg]; exact (below_size (by repeat (first | (with_reducible first | exact HB.out | apply below_alloc | apply pw_below_drewN | apply below_drew1 | refine below_set ?_ GE503.out) | exact HB.out))) : w.heap.size ≤ gb504)); have n5_ := Aside0.mk ((by rw [hg]; exact Nat.ne_of_lt (blk_lt (g := gb503) (o := .cells #[.slice A0_0 l0_0.length c0_0] 26 (0, 0)) (by (with_reducible repeat (first | refine blk_drewN ?_ _ | refine blk_drew ?_ | refine blk_alloc ?_ _)); exact BK503.out)) : gb503 ≠ gb504)); have n6_ := Aside0.mk ((by rw [hg]; exact Nat.ne_of_gt (blk_lt (g := gb503) (o := .cells #[.slice A0_0 l0_0.length c0_0] 26 (0, 0)) (by (with_reducible repeat (first | refine blk_drewN ?_ _ | refine blk_drew ?_ | refine blk_alloc ?_ _)); exact BK503.out)) : gb504 ≠ gb503)); clear BK503; clear HB; have BK503 := n0_; have HB := n1_; have BK504 := n2_; have GW504 := n3_; have GE504 := n4_; have NB503_504 := n5_; have NB504_503 := n6_; clear n0_ n1_ n2_ n3_ n4_ n5_ n6_; clear hb hbox hg) | ((with_reducible refine gate_dst (N := 7) rfl ?_); refine Kd.R_lit (Kd.int .u8) _ 5 ?hg (N := 7) ?hd (xs := ([] : List Int)) (inner := []) (ok := fun _ => True) (okp := fun _ => True) ?hr ?hp (fun _ hk => hk) trivial (Below.refl _ _) (Nat.le_refl _) (by simp) ?_; (case hd => rfl); (case hg => rfl); (case hr => first | (go_simp; done) | (go_simp; rfl)); (case hp => exact (Reps.none _ _)); intro v506 w5 ho6 hb hg_ hnew_; clear hg_ hnew_; (first | rw [← Ny505.out] at ho6 | (simp only [Int.reduceToNat] at ho6; rw [← Ny505.out] at ho6)); have n0_ := Aside0.mk (Kd.R_lower ho6 (below_size (by repeat (first | (with_reducible first | exact HB.out | apply below_alloc | apply pw_below_drewN | apply below_drew1 | refine below_set ?_ GE503.out | refine below_set ?_ GE504.out) | exact HB.out)))); have n1_ := Aside0.mk (blk_below (g := gb503) (o := .cells #[.slice A0_0 l0_0.length c0_0] 26 (0, 0)) (by (with_reducible repeat (first | refine blk_drewN ?_ _ | refine blk_drew ?_ | refine blk_alloc ?_ _)); exact BK503.out) hb); have n2_ := Aside0.mk (blk_below (g := gb504) (o := .cells #[.int .i64 a1_0, .int .i64 a1_1, .int .i64 a1_2, .int .i64 a1_3] 48 (0, 0)) (by (with_reducible repeat (first | refine blk_drewN ?_ _ | refine blk_drew ?_ | refine blk_alloc ?_ _)); exact BK504.out) hb); have n3_ := Aside0.mk (below_step (by repeat (first | (with_reducible first | exact HB.out | apply below_alloc | apply pw_below_drewN | apply below_drew1 | refine below_set ?_ GE503.out | refine below_set ?_ GE504.out) | exact HB.out)) hb); clear BK503; clear BK504; clear HB; have HO507 := n0_; have BK503 := n1_; have BK504 := n2_; have HB := n3_; clear n0_ n1_ n2_ n3_; clear hb ho6))
  go_loopg [5, 6] k (fun kq v5 v6 w' => ∃ (x5_1 : List Int) (x6_1 : Int), v6 = .int .i64 x6_1 ∧ Aside0 (spec_l2Bytes.l0 kq x5_1 x6_1 l0_0 a1_0 a1_1 a1_2 a1_3 = some r) ∧ Aside0 (kq ≤ k) ∧ Aside0 (Kd.R (Kd.int .u8) 5 w' w.heap.size (fun _ => True) v5 x5_1) ∧ Aside0 (w'.heap[gb503]? = some (.cells #[(.slice A0_0 l0_0.length c0_0)] 26 (0, 0))) ∧ Aside0 (w'.heap[gb504]? = some (.cells #[.int .i64 a1_0, .int .i64 a1_1, .int .i64 a1_2, .int .i64 a1_3] 48 (0, 0))) ∧ Aside0 (Below w.heap.size w w'))
  case atStart => exact ⟨(y505), (0), (by first | rfl | (simp; done) | (simp [*]; done)), H', ⟨Nat.le_refl _⟩, ⟨by (with_reducible repeat (first | apply Kd.R_alloc | apply Kd.R_drewN | apply Kd.R_drew)); exact HO507.out⟩, ⟨by (with_reducible repeat (first | refine blk_drewN ?_ _ | refine blk_drew ?_ | refine blk_alloc ?_ _)); exact BK503.out⟩, ⟨by (with_reducible repeat (first | refine blk_drewN ?_ _ | refine blk_drew ?_ | refine blk_alloc ?_ _)); exact BK504.out⟩, ⟨by repeat (first | (with_reducible first | exact HB.out | apply below_alloc | apply pw_below_drewN | apply below_drew1 | refine below_set ?_ GE503.out | refine below_set ?_ GE504.out) | exact HB.out)⟩⟩
  case round =>
    clear H'
    try clear c1
    try clear p2
    obtain ⟨x5_1, x6_1, rfl, HA, HK1, HO_5, BK503, BK504, HB⟩ := hrel
    cases gk with
    | zero => exact absurd HA.out (by simp [spec_l2Bytes.l0])
    | succ k1 =>
      have H := HA.out
      clear HA
      simp only [spec_l2Bytes.l0] at H
      by_cases c7 : x6_1 < a1_2
      · rw [if_pos c7] at H
        have c7b0 : decide (x6_1 < a1_2) = true := decide_eq_true c7
        clear c7
        replace H := Option.bind_eq_some_iff.mp H
        obtain ⟨t508, A80, H⟩ := H
        replace H : (if x5_1.length < 140737488355328 then (spec_l2Bytes.l0 k1 (x5_1 ++ [t508]) (wrap64 (x6_1 + 1)) l0_0 a1_0 a1_1 a1_2 a1_3) else (none)) = some r := H
        have A8 := Aside0.mk A80
        clear A80
        by_cases c9 : x5_1.length < 140737488355328
        · rw [if_pos c9] at H
          have LMc9 := Aside0.mk c9
          clear c9
          obtain ⟨y509, hy509⟩ : ∃ y_ : List Int, y_ = (x5_1 ++ [t508]) := ⟨_, rfl⟩
          replace H : (spec_l2Bytes.l0 k1 y509 (wrap64 (x6_1 + 1)) l0_0 a1_0 a1_1 a1_2 a1_3) = some r := by first | (rw [hy509]; with_reducible exact H) | (have H2_ := (Option.bind_some _ _).symm.trans H; rw [hy509]; with_reducible exact H2_) | (have H2_ := (Option.bind_some _ _).symm.trans H; with_reducible exact H2_) | with_reducible exact H | (rw [hy509]; exact H) | exact H
          have Ny509 := Aside0.mk hy509
          clear hy509
          have H' := Aside0.mk H
          clear H
          have hnb10 := NB504_503.out
          have hnc10 := NB503_504.out
          have hcz11_0 : wr.cell? ⟨gb504, 0, none⟩ = some (.int .i64 a1_0) := (blk_cell BK504.out 0).trans rfl
          have hcz11_1 : wr.cell? ⟨gb504, 1, none⟩ = some (.int .i64 a1_1) := (blk_cell BK504.out 1).trans rfl
          have hcz11_2 : wr.cell? ⟨gb504, 2, none⟩ = some (.int .i64 a1_2) := (blk_cell BK504.out 2).trans rfl
          have hcz11_3 : wr.cell? ⟨gb504, 3, none⟩ = some (.int .i64 a1_3) := (blk_cell BK504.out 3).trans rfl
          have hfz11_0 := blk_frozen BK504.out 0
          have hfz11_1 := blk_frozen BK504.out 1
          have hfz11_2 := blk_frozen BK504.out 2
          have hfz11_3 := blk_frozen BK504.out 3
          have hcz12_0 : wr.cell? ⟨gb503, 0, none⟩ = some (.slice A0_0 l0_0.length c0_0) := (blk_cell BK503.out 0).trans rfl
          have hfz12_0 := blk_frozen BK503.out 0
          go_wp2_with (first | ((with_reducible refine gate_callee (f := 156) rfl ?_); refine goesL_ (some 18) rfl rfl Try.func156 (by kernel_rfl) rfl #[.agg #[.slice A0_0 l0_0.length c0_0], .agg #[.int .i64 a1_0, .int .i64 a1_1, .int .i64 a1_2, .int .i64 a1_3], .int .i64 x6_1] rfl (by (try simp only [List.map_toArray, List.map_cons, List.map_nil]); first | done | rfl | (simp only [List.length_drop, List.length_take]; rfl)) ?_; (with_reducible refine (spec_l2At.calls _ _ l0_0 a1_0 a1_1 a1_2 a1_3 x6_1 t508 _ ?side1 ?side2 A8.out).mono ?_); (case side1 => repeat (first | exact (Kd.C_below HR0_0.out HB.out) | (with_reducible refine Kd.C_alloc ?_ _) | (with_reducible refine Kd.C_drewN ?_ _) | (with_reducible refine Kd.C_drew ?_))); (case side2 => exact HC0_0.out); rintro e w13 ⟨rfl, hb⟩; refine ⟨_, rfl, ?_⟩; have n0_ := Aside0.mk (Kd.R_below (by (with_reducible repeat (first | apply Kd.R_alloc | apply Kd.R_drewN | apply Kd.R_drew)); exact HO_5.out) hb); have n1_ := Aside0.mk (blk_below (g := gb503) (o := .cells #[.slice A0_0 l0_0.length c0_0] 26 (0, 0)) (by (with_reducible repeat (first | refine blk_drewN ?_ _ | refine blk_drew ?_ | refine blk_alloc ?_ _)); exact BK503.out) hb); have n2_ := Aside0.mk (blk_below (g := gb504) (o := .cells #[.int .i64 a1_0, .int .i64 a1_1, .int .i64 a1_2, .int .i64 a1_3] 48 (0, 0)) (by (with_reducible repeat (first | refine blk_drewN ?_ _ | refine blk_drew ?_ | refine blk_alloc ?_ _)); exact BK504.out) hb); have n3_ := Aside0.mk (below_step (by repeat (first | (with_reducible first | exact HB.out | apply below_alloc | apply pw_below_drewN | apply below_drew1 | refine below_set ?_ GE503.out | refine below_set ?_ GE504.out) | exact HB.out)) hb); clear HO_5; clear BK503; clear BK504; clear HB; have HO_5 := n0_; have BK503 := n1_; have BK504 := n2_; have HB := n3_; clear n0_ n1_ n2_ n3_; (try clear hb); (try clear hb2); (try clear hk); (try clear hi)) | ((with_reducible refine gate_builtin (b := .append) (xs := #[.tmp 14, .tmp 19]) rfl ?_); at_builtin; refine Kd.R_append (Kd.int .u8) (w0 := w) w.heap.size rfl (.tmp 14) (.tmp 19) 119 5 (.int .u8 0) 1 rfl Try.underlying119 info5 rfl (by decide) (by omega) u5 x5_1 t508 [.int .u8 t508] (fun _ => True) (fun _ => False) rfl rfl ?aP (fun _ hk => hk.elim) ?aF ?aO ?aB ?aS ?aL ?_; (case aP => exact rfl); (case aB => exact (by repeat (first | (with_reducible first | exact HB.out | apply below_alloc | apply pw_below_drewN | apply below_drew1 | refine below_set ?_ GE503.out | refine below_set ?_ GE504.out) | exact HB.out))); (case aF => exact (fun _ _ => trivial)); (case aO => exact (by (with_reducible repeat (first | apply Kd.R_alloc | apply Kd.R_drewN | apply Kd.R_drew)); exact HO_5.out)); (case aS => exact (below_size (by repeat (first | (with_reducible first | exact HB.out | apply below_alloc | apply pw_below_drewN | apply below_drew1 | refine below_set ?_ GE503.out | refine below_set ?_ GE504.out) | exact HB.out)))); (case aL => have := LMc9.out; omega); intro v510 w14 ho hb hg hat; rw [← Ny509.out] at ho; have n0_ := Aside0.mk (blk_grown (g := gb503) (o := .cells #[.slice A0_0 l0_0.length c0_0] 26 (0, 0)) (by (with_reducible repeat (first | refine blk_drewN ?_ _ | refine blk_drew ?_ | refine blk_alloc ?_ _)); exact BK503.out) hg (Kd.R_ne HO_5.out BK503.out (by decide))); have n1_ := Aside0.mk (blk_grown (g := gb504) (o := .cells #[.int .i64 a1_0, .int .i64 a1_1, .int .i64 a1_2, .int .i64 a1_3] 48 (0, 0)) (by (with_reducible repeat (first | refine blk_drewN ?_ _ | refine blk_drew ?_ | refine blk_alloc ?_ _)); exact BK504.out) hg (Kd.R_ne HO_5.out BK504.out (by decide))); have n2_ := Aside0.mk (hb); have n3_ := Aside0.mk (ho); clear BK503; clear BK504; clear HB; clear HO_5; have BK503 := n0_; have BK504 := n1_; have HB := n2_; have HO511 := n3_; clear n0_ n1_ n2_ n3_; clear ho hb hg hat))
          go_roundg k1
          case measure => have := HK1.out; omega
          case rel => exact ⟨(y509), (wrap64 (x6_1 + 1)), (by first | rfl | (simp; done) | (simp [*]; done)), H', ⟨by have := HK1.out; omega⟩, ⟨by (with_reducible repeat (first | apply Kd.R_alloc | apply Kd.R_drewN | apply Kd.R_drew)); exact HO511.out⟩, ⟨by (with_reducible repeat (first | refine blk_drewN ?_ _ | refine blk_drew ?_ | refine blk_alloc ?_ _)); exact BK503.out⟩, ⟨by (with_reducible repeat (first | refine blk_drewN ?_ _ | refine blk_drew ?_ | refine blk_alloc ?_ _)); exact BK504.out⟩, ⟨by repeat (first | (with_reducible first | exact HB.out | apply below_alloc | apply pw_below_drewN | apply below_drew1 | refine below_set ?_ GE503.out | refine below_set ?_ GE504.out) | exact HB.out)⟩⟩
        · rw [if_neg c9] at H
          exact absurd H (by simp)
      · rw [if_neg c7] at H
        have c7b0 : decide (x6_1 < a1_2) = false := decide_eq_false c7
        clear c7
        obtain rfl := Option.some.inj H
        have hnb15 := NB504_503.out
        have hnc15 := NB503_504.out
        have hcz16_0 : wr.cell? ⟨gb504, 0, none⟩ = some (.int .i64 a1_0) := (blk_cell BK504.out 0).trans rfl
        have hcz16_1 : wr.cell? ⟨gb504, 1, none⟩ = some (.int .i64 a1_1) := (blk_cell BK504.out 1).trans rfl
        have hcz16_2 : wr.cell? ⟨gb504, 2, none⟩ = some (.int .i64 a1_2) := (blk_cell BK504.out 2).trans rfl
        have hcz16_3 : wr.cell? ⟨gb504, 3, none⟩ = some (.int .i64 a1_3) := (blk_cell BK504.out 3).trans rfl
        have hfz16_0 := blk_frozen BK504.out 0
        have hfz16_1 := blk_frozen BK504.out 1
        have hfz16_2 := blk_frozen BK504.out 2
        have hfz16_3 := blk_frozen BK504.out 3
        go_wp2
        go_ret
        exact ⟨_, by first | rfl | (simp [errW_none, errW_some] <;> rfl) | (simp [*, errW_none, errW_some] <;> rfl), by (with_reducible repeat (first | apply Kd.R_alloc | apply Kd.R_drewN | apply Kd.R_drew)); exact HO_5.out, by repeat (first | (with_reducible first | exact HB.out | apply below_alloc | apply pw_below_drewN | apply below_drew1 | refine below_set ?_ GE503.out | refine below_set ?_ GE504.out) | exact HB.out)⟩

end Go.Proofs.Ytoomjghabiojkaa.P


/- What the reference reads of a window and writes into it. -/
namespace Go.Proofs.Ytoomjghabiojkaa.P
open Go.RowKit Go.Proofs.YtoomjghabiojkaaW.PrintWords
set_option linter.unusedVariables false
set_option linter.unusedSimpArgs false
def spl (row : List Int) (off : Nat) (vs : List Int) : List Int := row.take off ++ (vs ++ row.drop (off + vs.length))
theorem spl_length (row : List Int) (off : Nat) (vs : List Int) (h : off + vs.length ≤ row.length) : (spl row off vs).length = row.length := by
  simp [spl]
  omega
theorem spl_nil (row : List Int) (off : Nat) : spl row off [] = row := by simp [spl]
theorem spl_snoc (row : List Int) (off : Nat) (pre : List Int) (x : Int) (h : off + pre.length < row.length) : (spl row off pre).set (off + pre.length) x = spl row off (pre ++ [x]) := by
  unfold spl
  have h1 : (row.take off).length = off := by simp; omega
  rw [List.set_append_right _ _ (by rw [h1]; omega), h1, Nat.add_sub_cancel_left, List.set_append_right _ _ (Nat.le_refl _), Nat.sub_self]
  have h2 : row.drop (off + pre.length) = row[off + pre.length] :: row.drop (off + pre.length + 1) := List.drop_eq_getElem_cons h
  rw [h2]
  simp [List.append_assoc, Nat.add_assoc]
theorem l2Write_ev (m : List (List Int)) (a s n c at_ : Int) (h0 : 0 ≤ a) (h1 : a < (m.length : Int)) (hs : 0 ≤ s) (hat : 0 ≤ at_) (hr : (rowB m a).length ≤ 64) (suf : List Int) : ∀ (pre : List Int), s + at_ + (pre ++ suf).length ≤ ((rowB m a).length : Int) →
    Ev (fun k => spec_l2Write.l0 k at_ (pre ++ suf) (pre.length : Int) a s n c (putRow m a (spl (rowB m a) (s.toNat + at_.toNat) pre))) (putRow m a (spl (rowB m a) (s.toNat + at_.toNat) (pre ++ suf))) := by
  induction suf with
  | nil =>
    intro pre hl
    refine Ev.step (fun k => ?_) (Ev.now _)
    simp only [spec_l2Write.l0]
    rw [if_neg (by simp)]
    simp
  | cons x suf ih =>
    intro pre hl
    simp only [List.length_append, List.length_cons] at hl
    refine Ev.step (f := fun k => spec_l2Write.l0 k at_ ((pre ++ [x]) ++ suf) ((pre ++ [x]).length : Int) a s n c (putRow m a (spl (rowB m a) (s.toNat + at_.toNat) (pre ++ [x])))) (fun k => ?_) ?_
    · simp only [spec_l2Write.l0]
      have hsl := spl_length (rowB m a) (s.toNat + at_.toNat) pre (by omega)
      have hrw : rd_Lsu8 (putRow m a (spl (rowB m a) (s.toNat + at_.toNat) pre)) a = spl (rowB m a) (s.toNat + at_.toNat) pre := rowB_put h0 h1
      have hw1 : wrap64 (s + at_) = s + at_ := wrap_ok (by omega) (by omega)
      have hw2 : wrap64 (s + at_ + (pre.length : Int)) = s + at_ + (pre.length : Int) := wrap_ok (by omega) (by omega)
      have hx : (s + at_ + (pre.length : Int)).toNat = s.toNat + at_.toNat + pre.length := by omega
      rw [if_pos (by simp; omega), if_pos h0, if_pos (by rw [putRow_length]; exact h1), if_pos (by omega), hw1, hw2, hrw, if_pos (by omega), if_pos (by rw [hsl]; omega), rd_mid, hx, spl_snoc _ _ _ _ (by omega), wrap_len (by omega)]
      have e1 : (putRow m a (spl (rowB m a) (s.toNat + at_.toNat) pre)).set a.toNat (spl (rowB m a) (s.toNat + at_.toNat) (pre ++ [x])) = putRow m a (spl (rowB m a) (s.toNat + at_.toNat) (pre ++ [x])) := putRow_put
      rw [e1]
      simp
    · have := ih (pre ++ [x]) (by simp; omega)
      simpa using this
theorem l2Write_f (m : List (List Int)) (a s n c at_ : Int) (vs : List Int) (h : okM m) (hw : WinOk m a s n c) (hat : 0 ≤ at_) (hl : at_ + vs.length ≤ c) : Ev (fun k => spec_l2Write.f k m a s n c at_ vs) (putRow m a (spl (rowB m a) (s.toNat + at_.toNat) vs)) := by
  have := hw.s1
  refine Ev.bind (l2Own_f m h) ?_
  have hx := l2Write_ev m a s n c at_ hw.a0 hw.a1 hw.s0 hat hw.r1 vs [] (by simp; omega)
  have e0 : putRow m a (spl (rowB m a) (s.toNat + at_.toNat) []) = m := by
    rw [spl_nil]
    unfold putRow rowB
    have h1 := hw.a1
    have h0 := hw.a0
    have h2 : a.toNat < m.length := by omega
    rw [List.getD_eq_getElem?_getD, List.getElem?_eq_getElem h2]
    exact List.set_getElem_self h2
  rw [e0] at hx
  simpa using hx
def seeB (m : List (List Int)) (a s n : Int) : List Int := ((rowB m a).drop s.toNat).take n.toNat
theorem seeB_length {m : List (List Int)} {a s n c : Int} (hw : WinOk m a s n c) : ((seeB m a s n).length : Int) = n := by
  have := hw.n0; have := hw.n1; have := hw.s0; have := hw.s1
  simp only [seeB, List.length_take, List.length_drop]
  omega
theorem l2At_f {m : List (List Int)} {a s n c : Int} (hw : WinOk m a s n c) (i : Nat) (hi : (i : Int) < n) : spec_l2At.f m a s n c (i : Int) = some ((seeB m a s n).getD i 0) := by
  have := hw.n0; have := hw.n1; have := hw.s0; have := hw.s1; have := hw.r1; have := hw.c1
  have hw1 : wrap64 (s + (i : Int)) = s + (i : Int) := wrap_ok (by omega) (by omega)
  have hx : (s + (i : Int)).toNat = s.toNat + i := by omega
  have he : rd_Lsu8 m a = rowB m a := rfl
  unfold spec_l2At.f rd
  rw [if_pos hw.a0, if_pos hw.a1, hw1, he, if_pos (by omega), if_pos (by omega), hx]
  congr 1
  simp only [seeB, List.getD_eq_getElem?_getD, List.getElem?_take, List.getElem?_drop]
  rw [if_pos (by omega)]
end Go.Proofs.Ytoomjghabiojkaa.P


/- The reference's bytes of a window. -/
namespace Go.Proofs.Ytoomjghabiojkaa.P
open Go.RowKit Go.Proofs.YtoomjghabiojkaaW.PrintWords
set_option linter.unusedVariables false
set_option linter.unusedSimpArgs false
theorem l2Bytes_ev {m : List (List Int)} {a s n c : Int} (hw : WinOk m a s n c) : ∀ (j i : Nat), i + j = n.toNat → Ev (fun k => spec_l2Bytes.l0 k ((seeB m a s n).take i) (i : Int) m a s n c) (seeB m a s n) := by
  have hn0 := hw.n0; have hn1 := hw.n1; have hc1 := hw.c1
  have hsl := seeB_length hw
  intro j
  induction j with
  | zero =>
    intro i hi
    refine Ev.step (fun k => ?_) (Ev.now _)
    simp only [spec_l2Bytes.l0]
    rw [if_neg (by omega), List.take_of_length_le (by omega)]
  | succ j ih =>
    intro i hi
    refine Ev.step (f := fun k => spec_l2Bytes.l0 k ((seeB m a s n).take (i + 1)) ((i + 1 : Nat) : Int) m a s n c) (fun k => ?_) (ih (i + 1) (by omega))
    simp only [spec_l2Bytes.l0]
    have hlt : i < (seeB m a s n).length := by omega
    rw [if_pos (by omega), l2At_f hw i (by omega), Option.bind_some, if_pos (by simp; omega), wrap_ok (by omega) (by omega), List.take_succ_eq_append_getElem hlt, List.getD_eq_getElem?_getD, List.getElem?_eq_getElem hlt]
    simp
theorem l2Bytes_f {m : List (List Int)} {a s n c : Int} (hw : WinOk m a s n c) : Ev (fun k => spec_l2Bytes.f k m a s n c) (seeB m a s n) := by
  have := l2Bytes_ev hw n.toNat 0 (by omega)
  simpa [spec_l2Bytes.f] using this
end Go.Proofs.Ytoomjghabiojkaa.P


/- What a window of an argument sees; copying into an open row. -/
namespace Go.Proofs.Ytoomjghabiojkaa.P
open Go.RowKit Go.Proofs.YtoomjghabiojkaaW.PrintWords Go.Proofs.YtoomjghabiojkaaW.PrintLast Go.Proofs.YtoomjghabiojkaaW.PrintMore Go.Proofs.YtoomjghabiojkaaW.Mine
set_option linter.unusedVariables false
set_option linter.unusedSimpArgs false
def Bytes (w : World) (X : Option Addr) (bs : List Int) : Prop := ∀ j, j < bs.length → ∃ b, X = some b ∧ w.cell? (b.add j) = some (.int .u8 (bs.getD j 0))
theorem Bytes.below {w w' : World} {X : Option Addr} {bs : List Int} (h : Bytes w X bs) (hb : Below w.heap.size w w') : Bytes w' X bs := by
  intro j hj
  obtain ⟨b, h1, h2⟩ := h j hj
  exact ⟨b, h1, (hb.cell (World.block_lt_of_cell? w _ h2)).trans h2⟩
theorem Bytes.cut {w : World} {X : Option Addr} {bs : List Int} (h : Bytes w X bs) (l k C : Nat) (hl : l + k ≤ bs.length) (hC : bs.length ≤ C) : Bytes w (cutA X l C) ((bs.drop l).take k) := by
  intro j hj
  have hj' : j < k := by simp at hj; omega
  obtain ⟨b, h1, h2⟩ := h (l + j) (by omega)
  unfold cutA
  rw [if_neg (by omega), h1]
  refine ⟨b.add l, rfl, ?_⟩
  have e1 : (b.add l).add j = b.add (l + j) := by
    unfold Addr.add
    by_cases z1 : l = 0 <;> by_cases z2 : j = 0 <;> simp [z1, z2, Nat.add_assoc]
  rw [e1, h2]
  congr 2
  simp [List.getD_eq_getElem?_getD, List.getElem?_take, List.getElem?_drop, hj']
theorem Bytes.take {w : World} {X : Option Addr} {bs : List Int} (h : Bytes w X bs) (k : Nat) : Bytes w X (bs.take k) := by
  intro j hj
  have hj' : j < k ∧ j < bs.length := by simp at hj; omega
  obtain ⟨b, h1, h2⟩ := h j hj'.2
  refine ⟨b, h1, h2.trans ?_⟩
  congr 2
  simp [List.getD_eq_getElem?_getD, List.getElem?_take, hj'.1]
theorem len_take {S : List Int} {n : Nat} (h : S.length = n) (k : Nat) : (S.take k).length = Nat.min n k := by rw [List.length_take, h]; exact Nat.min_comm _ _
theorem fit_take {S : List Int} {off k L : Nat} (h : off + k ≤ L) : off + (S.take k).length ≤ L := by simp; omega
theorem seg_len {row : List Int} {s n : Nat} (h : s + n ≤ row.length) : ((row.drop s).take n).length = n := by simp; omega
theorem bytes_C {w : World} {A : Option Addr} {n : Nat} {xs : List Int} (h : Kd.C (Kd.int .u8) w A n xs) : Bytes w A xs := by
  intro j hj
  obtain ⟨b, hb, hcb⟩ := h.2.2 (by have := h.1; omega)
  obtain ⟨c', hcl', hK', hcell'⟩ := hcb j _ (List.getElem?_eq_getElem hj)
  have hK'' : c' = [.int .u8 xs[j]] := hK'
  subst hK''
  have h0' := hcell' 0 _ rfl
  refine ⟨b, hb, ?_⟩
  rw [List.getD_eq_getElem?_getD, List.getElem?_eq_getElem hj]
  show _ = some (Value.int .u8 xs[j])
  rw [← h0']
  congr 1
  first | rfl | (unfold Addr.add; by_cases z : j = 0 <;> simp [z, Kd.int, Kd.scalar])
section
variable {e2 e lo hi n c i g cap base_ : Nat} {A : Option Addr} {m : List (List Int)} {row : List Int} {W w : World} {ts : List Th}
theorem copy_o (q : Nat) (h : Stk W ts w) (hq : ts[q]? = some (rowO 5 e W lo hi A n c m i g cap row)) {X Y : Option Addr} {off dLen dCap sLen sCap : Nat} {bs : List Int} (hX : Al X g off dLen) (hn : bs.length = Nat.min sLen dLen) (hfit : off + bs.length ≤ row.length) (hs : Bytes w Y bs) (ty : TypeId) :
    ∃ w', (Builtin.copy_ #[119, 119] ty #[.slice X dLen dCap, .slice Y sLen sCap]).run Try.prog w = .ok (goInt bs.length) w' ∧ Wrote (rowO 5 e W lo hi A n c m i g cap row) (rowO 5 e W lo hi A n c m i g cap (spl row off bs)) w w' := by
  have hu : Try.prog.underlying 119 = some (.slice 5) := by kernel_rfl
  have hz : (Try.prog.info? 5).map (·.size) = some 1 := by kernel_rfl
  by_cases h0 : bs.length = 0
  · obtain rfl : bs = [] := List.eq_nil_of_length_eq_zero h0
    refine ⟨w, run_copy_none (P := Try.prog) w _ _ ty _ X Y dLen dCap sLen sCap hu hz (by simpa using hn.symm), ?_⟩
    rw [spl_nil]
    exact ⟨Below.refl _ _, Nat.le_refl _, fun _ _ _ => rfl, rfl, rfl, fun w'' ha => RowO.agree (h.get q hq) ha⟩
  · obtain ⟨b, hY, _⟩ := hs 0 (by omega)
    have hX' : X = some ⟨g, off, none⟩ := hX.resolve_left (fun hz0 => h0 (by rw [hn, hz0]; exact Nat.min_eq_right (Nat.zero_le _)))
    subst hX' hY
    obtain ⟨g0, cur, _, _, _, _, h5⟩ := (show RowO 5 e W.heap.size lo hi A n c m i g cap row w from h.get q hq)
    have hh := h5.2.1
    have hsz : row.length ≤ cur.size := by have := h5.2.2.1; have := h5.2.2.2.2.1; omega
    have hrun := run_copy_row (P := Try.prog) w 119 119 ty 5 g off dLen dCap b sLen sCap cur 5 (bs.map (fun x => Value.int .u8 x)) hu hz hh (by simpa using hn) (fun j v hj => by
      rw [List.getElem?_map] at hj
      have hjl : j < bs.length := by
        rcases Nat.lt_or_ge j bs.length with h1 | h1
        · exact h1
        · rw [List.getElem?_eq_none h1] at hj; cases hj
      obtain ⟨b', hb', hc⟩ := hs j hjl
      cases hb'
      rw [hc, ← hj, List.getD_eq_getElem?_getD, List.getElem?_eq_getElem hjl]
      rfl) (by simp; omega) (by intro v hv; obtain ⟨x, _, rfl⟩ := List.mem_map.1 hv; rfl)
    rw [List.length_map] at hrun
    refine ⟨_, hrun, ?_⟩
    refine RowO.wrote q h hq (spl_length row off bs hfit) (below_setRow (Below.refl g w) (Nat.le_refl g) _) (by simp [World.setRow]) (fun k _ hk => setRow_other w g k _ hk) (fun cur0 hc0 _ ht => ?_)
    rw [hh] at hc0
    cases hc0
    refine ⟨_, setRow_heap w g _ _ _ _ hh, ?_, ?_⟩
    · simp
      omega
    · have e1 : ∀ (L : List Value) (M : List Int) (r : List Int), L.take r.length = r.map (fun x => Value.int .u8 x) → r.length ≤ L.length → off + M.length ≤ r.length → (L.take off ++ M.map (fun x => Value.int .u8 x) ++ L.drop (off + M.length)).take r.length = (spl r off M).map (fun x => Value.int .u8 x) := by
        intro L M r h1 h2 h3
        unfold spl
        rw [List.map_append, List.map_append, List.map_take, List.map_drop, ← h1, List.take_take, List.drop_take, List.append_assoc, List.take_append, List.take_append, Nat.min_eq_left (by omega), List.take_of_length_le (by simp; omega), List.take_of_length_le (l := M.map _) (by simp; omega)]
        simp only [List.length_take, List.length_map, Nat.min_eq_left (show off ≤ L.length by omega)]
        rw [Nat.sub_sub]
      exact e1 cur.toList bs row ht (by simpa using hsz) hfit
end
section
variable {ops : Array Oper} {evs : List EvT} {W : World} {base : List Th} {mods : List Md} {aF : (Nat → Lt) → Act} {X : Option Addr} {x y : Operand} {e lo hi n c i0 g cap : Nat} {A : Option Addr} {m : List (List Int)} {row : List Int}
theorem cp {i : Nat} {d : Option Tmp} {us : List Nat} {o : Oper} {off dLen dCap : Nat} {Y : (Nat → Lt) → Option Addr} {sLen sCap : (Nat → Lt) → Nat} {bs : List Int} (ho : ops.toList[i]? = some o) (q k : Nat) {um : List Nat} (hq : mods[q]? = some ⟨k, i, um, fun s => rowO 5 e W lo hi A n c m i0 g cap (spl row off bs)⟩) (hk : base[k]? = some (rowO 5 e W lo hi A n c m i0 g cap row))
    (hX : Al X g off dLen) (hn : ∀ s, bs.length = Nat.min (sLen s) dLen) (hfit : off + bs.length ≤ row.length) (hsrc : ∀ s w, Stk W (thU us s evs ++ [rowO 5 e W lo hi A n c m i0 g cap row]) w → Bytes w (Y s) bs)
    (hop : o.op = .call { callee := .builtin .copy, args := #[x, y], argTypes := #[119, 119] } := by rfl) (hx : ∀ s, (aF s).eval x = .slice X dLen dCap := by intro s; rfl) (hy : ∀ s, (aF s).eval y = .slice (Y s) (sLen s) (sCap s) := by intro s; rfl) (hd : o.dst = d := by rfl) (hw : ∀ s, Region.wanted o (yielded ops (aF s).tmps) = true := by intro s; rfl) :
    Sh Try.prog ops W base mods aF evs (evW i d us (fun s => .int .i64 (bs.length : Int))) := by
  refine ⟨fun s x => ⟨rfl, rfl, rfl⟩, ⟨o, by rw [← Array.getElem?_toList]; exact ho, fun _ _ => rfl, .inr ⟨q, _, _, hq, rfl, hk, fun s w hst => ⟨hw s, fun K hK => ?_⟩⟩⟩⟩
  obtain ⟨w', hrun, hwr⟩ := copy_o (thU us s evs).length hst (by rw [List.getElem?_append_right (Nat.le_refl _), Nat.sub_self]; rfl) (dCap := dCap) (sCap := sCap s) hX (hn s) hfit (hsrc s w hst) o.type
  unfold Oper.wp
  have he : (execOp (aF s).eval o).run Try.prog w = .ok (.value (goInt bs.length)) w' := by
    simp [execOp, hop, resolve, invoke, builtin, hx s, hy s, hrun, Result.andThen]
  rw [he]
  show K ((aF s).put o.dst _) w'
  rw [hd]
  exact hK.out w' hwr
end
end Go.Proofs.Ytoomjghabiojkaa.P


/- Operations one behind the other; writes into what stood ahead of the call: the base world is changed alike. -/
namespace Go.Proofs.YtoomjghabiojkaaW.Mine
open Go.RowKit Go.Proofs.YtoomjghabiojkaaW.PrintWords
set_option linter.unusedVariables false
set_option linter.unusedSimpArgs false
section
variable {P : Program} {ops : Array Oper} {Q : Exit → Act → World → Prop} {W W2 w w2 : World} {ts : List Th} {a : Act} {r : List Nat} {i : Nat} {o : Oper}
theorem Stk.rebase (h : Stk W ts w) (hs : W2.heap.size = W.heap.size) (ho : W2.os = W.os ∧ W2.tape = W.tape ∧ W2.output = W.output) (hs2 : w2.heap.size = w.heap.size) (ho2 : w2.os = w.os ∧ w2.tape = w.tape ∧ w2.output = w.output)
    (hk : ∀ k, k < W.heap.size → w2.heap[k]? = W2.heap[k]?) (hk2 : ∀ k, W.heap.size ≤ k → w2.heap[k]? = w.heap[k]?) : Stk W2 ts w2 := by
  refine ⟨⟨ho2.1.trans (h.hb.os.trans ho.1.symm), ho2.2.1.trans (h.hb.tape.trans ho.2.1.symm), ho2.2.2.trans (h.hb.output.trans ho.2.2.symm), ?_, fun k hkk => hk k (by rw [← hs]; exact hkk)⟩, fun t ht => ?_, h.ap⟩
  · rw [hs, hs2]; exact h.hb.size
  · have hm := h.all t ht
    exact ⟨by rw [hs]; exact hm.1, hm.2.move (Nat.le_of_eq hs2.symm) (fun k h1 _ => hk2 k (Nat.le_trans hm.1 h1))⟩
theorem Stk.setRowW (h : Stk W ts w) (g : Nat) (hg : g < W.heap.size) (cs : Array Value) : Stk (W.setRow g cs) ts (w.setRow g cs) := by
  have hgw : w.heap[g]? = W.heap[g]? := h.hb.block g hg
  refine h.rebase (by simp) ⟨rfl, rfl, rfl⟩ (by simp) ⟨rfl, rfl, rfl⟩ (fun k hk => ?_) (fun k hk => setRow_other w g k cs (by omega))
  by_cases e : k = g
  · subst e
    simp only [World.setRow, Array.getElem?_modify, if_true, hgw]
  · rw [setRow_other w g k cs e, setRow_other W g k cs e]
    exact h.hb.block k hk
theorem heap_size_setCell (w : World) (p : Addr) (u : Value) : (w.setCell p u).heap.size = w.heap.size := by simp [World.setCell]
theorem Stk.setCellW (h : Stk W ts w) (p : Addr) (hg : p.block < W.heap.size) (u : Value) : Stk (W.setCell p u) ts (w.setCell p u) := by
  have hgw : w.heap[p.block]? = W.heap[p.block]? := h.hb.block p.block hg
  refine h.rebase (heap_size_setCell _ _ _) ⟨rfl, rfl, rfl⟩ (heap_size_setCell _ _ _) ⟨rfl, rfl, rfl⟩ (fun k hk => ?_) (fun k hk => Below.heap_setCell w p u k (by omega))
  by_cases e : k = p.block
  · subst e
    simp only [World.setCell, Array.getElem?_modify, if_true, hgw]
  · rw [Below.heap_setCell w p u k e, Below.heap_setCell W p u k e]
    exact h.hb.block k hk
theorem Stk.putsW : ∀ (us : List Value) (W w : World) (h : Stk W ts w) (g off : Nat) (hg : g < W.heap.size), Stk (puts W g off us) ts (puts w g off us)
  | [], _, _, h, _, _, _ => h
  | u :: r, W, w, h, g, off, hg => Stk.putsW r _ _ (h.setCellW ⟨g, off, none⟩ hg u) g (off + 1) (by rw [heap_size_setCell]; exact hg)
theorem puts_other : ∀ (us : List Value) (w : World) {g off k : Nat}, k ≠ g → (puts w g off us).heap[k]? = w.heap[k]?
  | [], _, _, _, _, _ => rfl
  | u :: r, w, g, off, k, h => (puts_other r (w.setCell ⟨g, off, none⟩ u) h).trans (Below.heap_setCell w ⟨g, off, none⟩ u k h)
theorem size_puts : ∀ (us : List Value) (w : World) (g off : Nat), (puts w g off us).heap.size = w.heap.size
  | [], _, _, _ => rfl
  | u :: r, w, g, off => (size_puts r (w.setCell ⟨g, off, none⟩ u) g (off + 1)).trans (heap_size_setCell w _ u)
theorem tlRun (ho : ops.toList[i]? = some o) (hw : Region.wanted o (yielded ops a.tmps) = true) (h : Oper.wp P o a w (wpOps P ops Q r) Q) : wpOps P ops Q (i :: r) a w := by
  rw [Array.getElem?_toList] at ho
  rw [wpOps_cons]
  unfold wpOp
  rw [ho]
  simp only
  rw [if_pos hw]
  exact .inl h
theorem tlStoreOld (ho : ops.toList[i]? = some o) (hst : Stk W ts w) (g off : Nat) (us : List Value) (hg : g < W.heap.size) (hr : (execOp a.eval o).run P w = .ok .skip (puts w g off us)) (h : ∀ w', Stk (puts W g off us) ts w' → wpOps P ops Q r a w')
    (hd : o.dst = none := by rfl) (hw : Region.wanted o (yielded ops a.tmps) = true := by rfl) : wpOps P ops Q (i :: r) a w := by
  refine tlRun ho hw ?_
  unfold Oper.wp
  rw [hr]
  show wpOps P ops Q r (a.put o.dst undef) _
  rw [hd]
  exact h _ (Stk.putsW us W w hst g off hg)
theorem tlStore (ho : ops.toList[i]? = some o) (hst : Stk W ts w) (k off : Nat) (us : List Value) {g t : Nat} {cs cs2 : Array Value} (hk : ts[k]? = some (boxT g cs t)) (hr : (∀ j u, cs[j]? = some u → w.cell? ⟨g, j, none⟩ = some u) → (∀ j, w.frozen? ⟨g, j, none⟩ = false) → (execOp a.eval o).run P w = .ok .skip (puts w g off us)) (h : ∀ w', Stk W (ts.set k (boxT g cs2 t)) w' → wpOps P ops Q r a w')
    (h2 : setAll cs off us = cs2 := by rfl) (hd : o.dst = none := by rfl) (hw : Region.wanted o (yielded ops a.tmps) = true := by rfl) : wpOps P ops Q (i :: r) a w := by
  refine tlRun ho hw ?_
  have hb : bx g cs t w := hst.get k hk
  unfold Oper.wp
  rw [hr (fun j u hj => by rw [blk_cell hb j]; exact hj) (fun j => blk_frozen hb j)]
  show wpOps P ops Q r (a.put o.dst undef) _
  rw [hd]
  subst h2
  exact h _ (hst.wrote k hk (wrote_puts us off cs w hb))
theorem tlCall (d : Option Tmp) (ho : ops.toList[i]? = some o) {f : FuncId} {fn : Func} {ar : Array Operand} {tys : Array TypeId} (args : Array Value) (hf : P.funcs[f]? = some fn) {R : Ending → World → Prop} (hc : Calls P f args w R) (h : ∀ e w', R e w' → ∃ v, e = .returned v ∧ wpOps P ops Q r (a.put d v) w')
    (hop : o.op = .call { callee := .value (.func f), args := ar, argTypes := tys } := by rfl) (hd : o.dst = d := by rfl) (hname : (fn.name == "runtime.NumGoroutine") = false := by kernel_rfl) (hb : fn.body.isSome = true := by rfl)
    (hargs : ar.map a.eval = args := by simp only [List.map_toArray, List.map_cons, List.map_nil]; rfl) (hw : Region.wanted o (yielded ops a.tmps) = true := by rfl) : wpOps P ops Q (i :: r) a w := by
  refine tlRun ho hw ?_
  refine calls_wp hf hname hb hop hargs (hc.mono ?_)
  intro e w' hR
  obtain ⟨v, rfl, hx⟩ := h e w' hR
  exact ⟨v, rfl, by rw [hd]; exact hx⟩
theorem seqReg {id n : Nat} (l : List Nat) (hn : ops.size = n) (hl : List.range n = l) (h : wpOps P ops Q l a w) : (Code.region id ops false).wp P Q a w := by
  subst hl hn
  exact wp_region h
end
end Go.Proofs.YtoomjghabiojkaaW.Mine
namespace Go.Proofs.Ytoomjghabiojkaa.P
open Go.RowKit Go.Proofs.YtoomjghabiojkaaW.PrintWords Go.Proofs.YtoomjghabiojkaaW.Mine
set_option linter.unusedVariables false
set_option linter.unusedSimpArgs false
section
variable {ops : Array Oper} {Q : Exit → Act → World → Prop} {W w : World} {ts : List Th} {a : Act} {r : List Nat} {i : Nat} {o : Oper} {x y : Operand}
theorem run_copy_blk {e2 g off dLen dCap sLen sCap : Nat} {X Y : Option Addr} {row bs : List Int} {cur : Array Value} (he : e2 = 5) (hh : w.heap[g]? = some (.cells cur e2 (0, 0))) (hsz : row.length ≤ cur.size) (ht : cur.toList.take row.length = row.map (fun x => Value.int .u8 x))
    (hX : Al X g off dLen) (hn : bs.length = Nat.min sLen dLen) (hfit : off + bs.length ≤ row.length) (hs : Bytes w Y bs) (ty : TypeId) :
    ∃ cur', (Builtin.copy_ #[119, 119] ty #[.slice X dLen dCap, .slice Y sLen sCap]).run Try.prog w = .ok (goInt bs.length) (w.setRow g cur') ∧ cur'.size = cur.size ∧ cur'.toList.take row.length = (spl row off bs).map (fun x => Value.int .u8 x) := by
  subst he
  have hu : Try.prog.underlying 119 = some (.slice 5) := by kernel_rfl
  have hz : (Try.prog.info? 5).map (·.size) = some 1 := by kernel_rfl
  by_cases h0 : bs.length = 0
  · obtain rfl : bs = [] := List.eq_nil_of_length_eq_zero h0
    refine ⟨cur, ?_, rfl, by rw [spl_nil]; exact ht⟩
    rw [setRow_self w g cur _ _ hh]
    exact run_copy_none (P := Try.prog) w _ _ ty _ X Y dLen dCap sLen sCap hu hz (by simpa using hn.symm)
  · obtain ⟨b, hY, _⟩ := hs 0 (by omega)
    have hX' : X = some ⟨g, off, none⟩ := hX.resolve_left (fun hz0 => h0 (by rw [hn, hz0]; exact Nat.min_eq_right (Nat.zero_le _)))
    subst hX' hY
    have hrun := run_copy_row (P := Try.prog) w 119 119 ty 5 g off dLen dCap b sLen sCap cur 5 (bs.map (fun x => Value.int .u8 x)) hu hz hh (by simpa using hn) (fun j v hj => by
      rw [List.getElem?_map] at hj
      have hjl : j < bs.length := by
        rcases Nat.lt_or_ge j bs.length with h1 | h1
        · exact h1
        · rw [List.getElem?_eq_none h1] at hj; cases hj
      obtain ⟨b', hb', hc⟩ := hs j hjl
      cases hb'
      rw [hc, ← hj, List.getD_eq_getElem?_getD, List.getElem?_eq_getElem hjl]
      rfl) (by simp; omega) (by intro v hv; obtain ⟨x, _, rfl⟩ := List.mem_map.1 hv; rfl)
    rw [List.length_map] at hrun
    refine ⟨_, hrun, ?_, ?_⟩
    · simp
      omega
    · have e1 : ∀ (L : List Value) (M : List Int) (r : List Int), L.take r.length = r.map (fun x => Value.int .u8 x) → r.length ≤ L.length → off + M.length ≤ r.length → (L.take off ++ M.map (fun x => Value.int .u8 x) ++ L.drop (off + M.length)).take r.length = (spl r off M).map (fun x => Value.int .u8 x) := by
        intro L M r h1 h2 h3
        unfold spl
        rw [List.map_append, List.map_append, List.map_take, List.map_drop, ← h1, List.take_take, List.drop_take, List.append_assoc, List.take_append, List.take_append, Nat.min_eq_left (by omega), List.take_of_length_le (by simp; omega), List.take_of_length_le (l := M.map _) (by simp; omega)]
        simp only [List.length_take, List.length_map, Nat.min_eq_left (show off ≤ L.length by omega)]
        rw [Nat.sub_sub]
      exact e1 cur.toList bs row ht (by simpa using hsz) hfit
theorem al_self (g n : Nat) : Al (some ⟨g, 0, none⟩) g 0 n := .inr rfl
theorem bytes_blk {g e2 : Nat} {row : List Int} {cur : Array Value} (hh : w.heap[g]? = some (.cells cur e2 (0, 0))) (ht : cur.toList.take row.length = row.map (fun x => Value.int .u8 x)) {X : Option Addr} {off k : Nat} (hX : Al X g off k) (hk : off + k ≤ row.length) : Bytes w X ((row.drop off).take k) := by
  intro j hj
  have hj' : j < k := by simp at hj; omega
  refine ⟨⟨g, off, none⟩, hX.resolve_left (by omega), ?_⟩
  have e1 : (⟨g, off, none⟩ : Addr).add j = ⟨g, off + j, none⟩ := by
    unfold Addr.add
    by_cases z : j = 0 <;> simp [z]
  rw [e1, row_cell hh ht (off + j) (by omega)]
  congr 2
  simp [List.getD_eq_getElem?_getD, List.getElem?_take, List.getElem?_drop, hj']
theorem tlCopyOld (d : Option Tmp) (ho : ops.toList[i]? = some o) (hst : Stk W ts w) {g off dLen dCap sLen sCap : Nat} {X Y : Option Addr} {row bs : List Int} {cur : Array Value} (hh : W.heap[g]? = some (.cells cur 5 (0, 0))) (hsz : row.length ≤ cur.size) (ht : cur.toList.take row.length = row.map (fun x => Value.int .u8 x))
    (hX : Al X g off dLen) (hn : bs.length = Nat.min sLen dLen) (hfit : off + bs.length ≤ row.length) (hs : Bytes w Y bs) (h : ∀ cur' w', cur'.size = cur.size → cur'.toList.take row.length = (spl row off bs).map (fun x => Value.int .u8 x) → Stk (W.setRow g cur') ts w' → wpOps Try.prog ops Q r (a.put d (.int .i64 (bs.length : Int))) w')
    (hop : o.op = .call { callee := .builtin .copy, args := #[x, y], argTypes := #[119, 119] } := by rfl) (hx : a.eval x = .slice X dLen dCap := by rfl) (hy : a.eval y = .slice Y sLen sCap := by rfl) (hd : o.dst = d := by rfl) (hw : Region.wanted o (yielded ops a.tmps) = true := by rfl) : wpOps Try.prog ops Q (i :: r) a w := by
  have hg := blk_lt hh
  obtain ⟨cur', hrun, h1, h2⟩ := run_copy_blk (w := w) (dCap := dCap) (sCap := sCap) rfl ((hst.hb.block g hg).trans hh) hsz ht hX hn hfit hs o.type
  refine tlRun ho hw ?_
  unfold Oper.wp
  have he : (execOp a.eval o).run Try.prog w = .ok (.value (goInt bs.length)) (w.setRow g cur') := by
    simp [execOp, hop, resolve, invoke, builtin, hx, hy, hrun, Result.andThen]
  rw [he]
  show wpOps Try.prog ops Q r (a.put o.dst _) _
  rw [hd]
  exact h cur' _ h1 h2 (hst.setRowW g hg cur')
theorem tlCopyBox (d : Option Tmp) (ho : ops.toList[i]? = some o) (hst : Stk W ts w) (k : Nat) {g off dLen dCap sLen sCap : Nat} {X Y : Option Addr} {row bs : List Int} {cur : Array Value} (hk : ts[k]? = some (boxT g cur 5)) (hsz : row.length ≤ cur.size) (ht : cur.toList.take row.length = row.map (fun x => Value.int .u8 x))
    (hX : Al X g off dLen) (hn : bs.length = Nat.min sLen dLen) (hfit : off + bs.length ≤ row.length) (hs : Bytes w Y bs) (h : ∀ cur' w', cur'.size = cur.size → cur'.toList.take row.length = (spl row off bs).map (fun x => Value.int .u8 x) → Stk W (ts.set k (boxT g cur' 5)) w' → wpOps Try.prog ops Q r (a.put d (.int .i64 (bs.length : Int))) w')
    (hop : o.op = .call { callee := .builtin .copy, args := #[x, y], argTypes := #[119, 119] } := by rfl) (hx : a.eval x = .slice X dLen dCap := by rfl) (hy : a.eval y = .slice Y sLen sCap := by rfl) (hd : o.dst = d := by rfl) (hw : Region.wanted o (yielded ops a.tmps) = true := by rfl) : wpOps Try.prog ops Q (i :: r) a w := by
  have hb : bx g cur 5 w := hst.get k hk
  have hge : W.heap.size ≤ g := hst.ge k hk
  obtain ⟨cur', hrun, h1, h2⟩ := run_copy_blk (w := w) (dCap := dCap) (sCap := sCap) rfl hb hsz ht hX hn hfit hs o.type
  refine tlRun ho hw ?_
  unfold Oper.wp
  have he : (execOp a.eval o).run Try.prog w = .ok (.value (goInt bs.length)) (w.setRow g cur') := by
    simp [execOp, hop, resolve, invoke, builtin, hx, hy, hrun, Result.andThen]
  rw [he]
  show wpOps Try.prog ops Q r (a.put o.dst _) _
  rw [hd]
  refine h cur' _ h1 h2 (hst.wrote k hk ⟨below_setRow (Below.refl _ _) (Nat.le_refl _) _, by simp, fun q hq hn' => setRow_other w g q cur' (fun e_ => hn' (by subst e_; exact ⟨Nat.le_refl _, Nat.lt_succ_self _⟩)), rfl, rfl, fun w'' ha => ?_⟩)
  exact (ha g (Nat.le_refl _) (Nat.lt_succ_self _)).trans (setRow_heap w g _ _ _ _ hb)
theorem made_take (m : Nat) : (madeCells #[Value.int .u8 0] m).toList.take (List.replicate m (0 : Int)).length = (List.replicate m (0 : Int)).map (fun x => Value.int .u8 x) := by
  have hl : (madeCells #[Value.int .u8 0] m).toList = (List.replicate m (0 : Int)).map (fun x => Value.int .u8 x) := by
    apply List.ext_getElem
    · simp [madeCells]
    · intro i h1 h2
      simp [madeCells, Nat.mod_one]
  rw [hl, List.take_of_length_le (by simp)]
end
section
variable {ops : Array Oper} {evs : List EvT} {W : World} {base : List Th} {mods : List Md} {aF : (Nat → Lt) → Act} {x y : Operand}
theorem mkb {i : Nat} {d : Tmp} {o : Oper} (ho : ops.toList[i]? = some o) (n : Int) (h0 : 0 ≤ n) (h1 : n ≤ 1048576) (hop : o.op = .makeSlice 119 x y := by rfl) (hx : ∀ s, (aF s).eval x = .int .i64 n := by intro s; rfl) (hy : ∀ s, (aF s).eval y = .int .i64 n := by intro s; rfl) (hd : o.dst = some d := by rfl) (hw : ∀ s, Region.wanted o (yielded ops (aF s).tmps) = true := by intro s; rfl) :
    Sh Try.prog ops W base mods aF evs (evC i (some d) [] (fun s x => .slice (some ⟨x.lo, 0, none⟩) n.toNat n.toNat) (fun s x => [boxT x.lo (madeCells #[Value.int .u8 0] n.toNat) 5])) := by
  refine ⟨fun s x => ⟨rfl, rfl, rfl⟩, ⟨o, by rw [← Array.getElem?_toList]; exact ho, fun s w hst K hK => wanted_get (hw s) ?_⟩⟩
  obtain ⟨m, rfl⟩ := Int.eq_ofNat_of_zero_le h0
  have hinfo : (Try.prog.info? 5).map (fun i => (i.zero, i.size, i.bytes)) = some (some (.int .u8 0), 1, 1) := by kernel_rfl
  have hrun := print_make (P := Try.prog) 119 5 .u8 1 (by kernel_rfl) hinfo (by decide) m (by omega) w
  have he : (execOp (aF s).eval o).run Try.prog w = .ok (.value (.slice (some ⟨w.heap.size, 0, none⟩) m m)) (w.alloc (.cells (madeCells #[.int .u8 0] m) 5)) := by
    unfold execOp
    rw [hop]
    simp [hx s, hy s, hrun, Result.andThen]
  unfold Oper.wp
  rw [he]
  show K ((aF s).put o.dst _) _
  rw [hd]
  exact hK.out ⟨w.heap.size, 0, none, 0, none, 0, none, 0⟩ _ ((Stk.nil w).box (below_alloc (Below.refl _ _) _) rfl (blk_new w _))
end
end Go.Proofs.Ytoomjghabiojkaa.P


/- (*Gap).move: what it does to the gap's box and rows; a call that changes a box and a row of its caller's. -/
namespace Go.Proofs.YtoomjghabiojkaaW.Mine
open Go.RowKit Go.Proofs.YtoomjghabiojkaaW.PrintWords
set_option linter.unusedVariables false
section
variable {W w w' : World} {ts : List Th}
theorem Stk.apartOf (h : Stk W ts w) (i j : Nat) (hij : i ≠ j) {t u : Th} (hi : ts[i]? = some t) (hj : ts[j]? = some u) : Th.apart t u := by
  obtain ⟨h1, e1⟩ := List.getElem?_eq_some_iff.1 hi
  obtain ⟨h2, e2⟩ := List.getElem?_eq_some_iff.1 hj
  have hap := List.pairwise_iff_getElem.1 h.ap
  rw [← e1, ← e2]
  rcases Nat.lt_or_gt_of_ne hij with hlt | hlt
  · exact hap i j h1 h2 hlt
  · exact (hap j i h2 h1 hlt).symm
theorem Stk.step2 (h : Stk W ts w) (i j : Nat) (hij : i ≠ j) {g t lo hi : Nat} {cs cs2 : Array Value} {P P2 : World → Prop} (hi' : ts[i]? = some (boxT g cs t)) (hj : ts[j]? = some ⟨lo, hi, P⟩) (ho : w'.os = w.os ∧ w'.tape = w.tape ∧ w'.output = w.output) (hK : Kept w w' (fun k => (lo ≤ k ∧ k < hi) ∨ k = g)) (hb : bx g cs2 t w') (hP : ∀ w'', Agree lo hi w' w'' → P2 w'') :
    Stk W ((ts.set i (boxT g cs2 t)).set j ⟨lo, hi, P2⟩) w' := by
  have hmi := h.all _ (List.mem_of_getElem? hi')
  have hmj := h.all _ (List.mem_of_getElem? hj)
  have hgW : W.heap.size ≤ g := hmi.1
  have hlW : W.heap.size ≤ lo := hmj.1
  have hli : lo ≤ hi := hmj.2.1
  have hgw : g < w.heap.size := hmi.2.2.1
  have hhw : hi ≤ w.heap.size := hmj.2.2.1
  obtain ⟨hil, ei⟩ := List.getElem?_eq_some_iff.1 hi'
  obtain ⟨hjl, ej⟩ := List.getElem?_eq_some_iff.1 hj
  have hlen : ((ts.set i (boxT g cs2 t)).set j ⟨lo, hi, P2⟩).length = ts.length := by simp
  have hat : ∀ k (hk : k < ts.length), ∃ x, ((ts.set i (boxT g cs2 t)).set j ⟨lo, hi, P2⟩)[k]? = some x ∧ x.lo = ts[k].lo ∧ x.hi = ts[k].hi ∧ (k ≠ i → k ≠ j → x = ts[k]) ∧ (k = i → x = boxT g cs2 t) ∧ (k = j → x = ⟨lo, hi, P2⟩) := by
    intro k hk
    by_cases e1 : k = j
    · subst e1
      exact ⟨_, by rw [List.getElem?_set_self (by simpa using hjl)], by rw [ej], by rw [ej], fun _ h => absurd rfl h, fun e => absurd e.symm hij, fun _ => rfl⟩
    · by_cases e2 : k = i
      · subst e2
        exact ⟨_, by rw [List.getElem?_set_ne (Ne.symm e1), List.getElem?_set_self hil], by rw [ei]; rfl, by rw [ei]; rfl, fun h => absurd rfl h, fun _ => rfl, fun e => absurd e e1⟩
      · exact ⟨_, by rw [List.getElem?_set_ne (Ne.symm e1), List.getElem?_set_ne (Ne.symm e2), List.getElem?_eq_getElem hk], rfl, rfl, fun _ _ => rfl, fun e => absurd e e2, fun e => absurd e e1⟩
  refine ⟨⟨ho.1.trans h.hb.os, ho.2.1.trans h.hb.tape, ho.2.2.trans h.hb.output, Nat.le_trans h.hb.size hK.1, fun k hk => (hK.2 k (Nat.lt_of_lt_of_le hk h.hb.size) (fun hh => by rcases hh with hh | hh <;> omega)).trans (h.hb.block k hk)⟩, fun x hx => ?_, ?_⟩
  · obtain ⟨k, hk, rfl⟩ := List.getElem_of_mem hx
    rw [hlen] at hk
    obtain ⟨y, hy, h1, h2, h3, h4, h5⟩ := hat k hk
    have hey : ((ts.set i (boxT g cs2 t)).set j ⟨lo, hi, P2⟩)[k]'(by rw [hlen]; exact hk) = y := by
      rw [List.getElem?_eq_getElem (by rw [hlen]; exact hk)] at hy
      exact Option.some.inj hy
    rw [hey]
    by_cases e1 : k = j
    · rw [h5 e1]
      exact ⟨hlW, hli, Nat.le_trans hhw hK.1, hP⟩
    · by_cases e2 : k = i
      · rw [h4 e2]
        exact ⟨hgW, Nat.le_succ _, Nat.lt_of_lt_of_le hgw hK.1, fun w'' ha => (ha g (Nat.le_refl _) (Nat.lt_succ_self _)).trans hb⟩
      · rw [h3 e2 e1]
        have hm := h.all ts[k] (List.getElem_mem hk)
        refine ⟨hm.1, hm.2.move hK.1 (fun q hq1 hq2 => hK.2 q (Nat.lt_of_lt_of_le hq2 hm.2.2.1) (fun hh => ?_))⟩
        have a1 := h.apartOf k j e1 (List.getElem?_eq_getElem hk) hj
        have a2 := h.apartOf k i e2 (List.getElem?_eq_getElem hk) hi'
        unfold Th.apart at a1 a2
        have a2' : ts[k].hi ≤ g ∨ g + 1 ≤ ts[k].lo := a2
        have a1' : ts[k].hi ≤ lo ∨ hi ≤ ts[k].lo := a1
        rcases hh with hh | hh <;> omega
  · rw [List.pairwise_iff_getElem]
    intro p q hp hq hlt
    rw [hlen] at hp hq
    obtain ⟨x, hx, x1, x2, _⟩ := hat p hp
    obtain ⟨y, hy, y1, y2, _⟩ := hat q hq
    have ex : ((ts.set i (boxT g cs2 t)).set j ⟨lo, hi, P2⟩)[p]'(by rw [hlen]; exact hp) = x := by
      rw [List.getElem?_eq_getElem (by rw [hlen]; exact hp)] at hx
      exact Option.some.inj hx
    have ey : ((ts.set i (boxT g cs2 t)).set j ⟨lo, hi, P2⟩)[q]'(by rw [hlen]; exact hq) = y := by
      rw [List.getElem?_eq_getElem (by rw [hlen]; exact hq)] at hy
      exact Option.some.inj hy
    rw [ex, ey]
    have := List.pairwise_iff_getElem.1 h.ap p q hp hq hlt
    unfold Th.apart at *
    rw [x1, x2, y1, y2]
    exact this
end
end Go.Proofs.YtoomjghabiojkaaW.Mine
namespace Go.Proofs.Ytoomjghabiojkaa.P
open Go.RowKit Go.Proofs.YtoomjghabiojkaaW.PrintWords Go.Proofs.YtoomjghabiojkaaW.PrintMore Go.Proofs.YtoomjghabiojkaaW.Mine
set_option linter.unusedVariables false
set_option linter.unusedSimpArgs false
end Go.Proofs.Ytoomjghabiojkaa.P


/- Moving a gap's hole: the reference's. -/
namespace Go.Proofs.Ytoomjghabiojkaa.P
open Go.RowKit Go.Proofs.YtoomjghabiojkaaW.PrintWords Go.Proofs.YtoomjghabiojkaaW.PrintMore
set_option linter.unusedVariables false
set_option linter.unusedSimpArgs false
theorem gapB_of {m : List (List Int)} {a s n c f t : Int} (h : gapB m a s n c f t = true) : memB m = true ∧ WinOk m a s n c ∧ 0 ≤ f ∧ f ≤ t ∧ t ≤ n := by
  unfold gapB at h
  simp only [Bool.and_eq_true, decide_eq_true_eq] at h
  exact ⟨h.1.1, WinOk.of h.1.1 h.1.2, h.2.2.1, h.2.2.2, h.2.1.2⟩
end Go.Proofs.Ytoomjghabiojkaa.P


/- A region in which one operation (a call) writes into what stood ahead of the function: behind it the base world is another one. -/
namespace Go.Proofs.YtoomjghabiojkaaW.Mine
open Go.RowKit Go.Proofs.YtoomjghabiojkaaW.PrintWords
set_option linter.unusedVariables false
set_option linter.unusedSimpArgs false
structure Shift (W W2 w w' : World) : Prop where
  hs : W2.heap.size = W.heap.size
  os : W2.os = W.os ∧ W2.tape = W.tape ∧ W2.output = W.output
  os2 : w'.os = w.os ∧ w'.tape = w.tape ∧ w'.output = w.output
  sz : w.heap.size ≤ w'.heap.size
  base : ∀ k, k < W.heap.size → w'.heap[k]? = W2.heap[k]?
  rest : ∀ k, W.heap.size ≤ k → k < w.heap.size → w'.heap[k]? = w.heap[k]?
theorem Stk.shift {W W2 w w' : World} {ts : List Th} (h : Stk W ts w) (hS : Shift W W2 w w') : Stk W2 (ts ++ [frm w.heap.size w'.heap.size w']) w' := by
  refine ⟨⟨hS.os2.1.trans (h.hb.os.trans hS.os.1.symm), hS.os2.2.1.trans (h.hb.tape.trans hS.os.2.1.symm), hS.os2.2.2.trans (h.hb.output.trans hS.os.2.2.symm), by rw [hS.hs]; exact Nat.le_trans h.hb.size hS.sz, fun k hk => hS.base k (by rw [← hS.hs]; exact hk)⟩, fun t ht => ?_, ?_⟩
  · rcases List.mem_append.1 ht with ht | ht
    · have hm := h.all t ht
      exact ⟨by rw [hS.hs]; exact hm.1, hm.2.move hS.sz (fun k h1 h2 => hS.rest k (Nat.le_trans hm.1 h1) (Nat.lt_of_lt_of_le h2 hm.2.2.1))⟩
    · rw [List.mem_singleton] at ht
      subst ht
      exact ⟨by rw [hS.hs]; exact h.hb.size, hS.sz, Nat.le_refl _, fun w'' ha => ha⟩
  · refine List.pairwise_append.2 ⟨h.ap, List.pairwise_singleton _ _, fun x hx y hy => ?_⟩
    rw [List.mem_singleton] at hy
    subst hy
    exact .inl (h.all x hx).2.2.1
def cutW (n : Nat) (w : World) : World := { w with heap := w.heap.extract 0 n }
theorem Shift.of {W w w' : World} (hb : Below W.heap.size W w) (ho : w'.os = w.os ∧ w'.tape = w.tape ∧ w'.output = w.output) (hK : Kept w w' (fun k => k < W.heap.size)) : Shift W (cutW W.heap.size w') w w' := by
  have hsz : W.heap.size ≤ w'.heap.size := Nat.le_trans hb.size hK.1
  refine ⟨by simp [cutW]; omega, ⟨ho.1.trans hb.os, ho.2.1.trans hb.tape, ho.2.2.trans hb.output⟩, ho, hK.1, fun k hk => ?_, fun k h1 h2 => hK.2 k h2 (by omega)⟩
  show w'.heap[k]? = (w'.heap.extract 0 W.heap.size)[k]?
  rw [Array.getElem?_extract]
  simp
  omega
theorem cutW_heap {n k : Nat} {w : World} (h : k < n) (hn : n ≤ w.heap.size) : (cutW n w).heap[k]? = w.heap[k]? := by
  show (w.heap.extract 0 n)[k]? = _
  rw [Array.getElem?_extract]
  simp
  omega
theorem any_inv {P : Program} {ops : Array Oper} {N : List (List Nat)} {Q : Exit → Act → World → Prop} (hN : ntab ops = N) (hlen : N.length = ops.size) (hdown : ∀ i, i < N.length → ∀ k ∈ N.getD i [], k < i) (I : (Nat → Bool) → Act → World → Prop)
    (hstep : ∀ (b : Nat → Bool) i a w, i < ops.size → b i = false → (∀ k ∈ N.getD i [], b k = true) → (∀ q, b q = true → ∀ k ∈ N.getD q [], b k = true) → (∀ q, b q = true → q < ops.size) → I b a w → wpOp P ops Q i (I (up1 b i)) a w)
    (hend : ∀ b a w, (∀ j, j < ops.size → b j = true) → (∀ q, b q = true → q < ops.size) → I b a w → Q .normal a w) :
    ∀ (m : Nat) (listed : Array Bool) a w, listed.size = ops.size → cnt (fun j => listed.getD j false) ops.size = m → (∀ i, listed.getD i false = true → ∀ k ∈ N.getD i [], listed.getD k false = true) → I (fun j => listed.getD j false) a w → wpAny P .any ops Q m listed a w := by
  have hlt' : ∀ (listed : Array Bool), listed.size = ops.size → ∀ i, listed.getD i false = true → i < ops.size := fun listed hsz i hi => by
    rcases Nat.lt_or_ge i ops.size with h | h
    · exact h
    · simp [Array.getD_eq_getD_getElem?, Array.getElem?_eq_none (show listed.size ≤ i by omega)] at hi
  intro m
  induction m with
  | zero =>
    intro listed a w hsz hc hcl hI
    have hall : ∀ j, j < ops.size → listed.getD j false = true := fun j hj => by
      cases hb : listed.getD j false with
      | true => rfl
      | false =>
        have h1 : j ∈ (List.range ops.size).filter fun j => !(fun j => listed.getD j false) j := List.mem_filter.2 ⟨List.mem_range.2 hj, by simp [hb]⟩
        rw [List.eq_nil_of_length_eq_zero hc] at h1
        cases h1
    refine ⟨List.eq_nil_iff_forall_not_mem.2 (fun i hi => ?_), hend _ a w hall (hlt' listed hsz) hI⟩
    obtain ⟨h3, h4, _⟩ := nds_ready hN hi
    have h6 := hall i h4
    simp [Array.getD_eq_getD_getElem?, show i < listed.size by omega] at h3 h6
    rw [h3] at h6
    cases h6
  | succ m ih =>
    intro listed a w hsz hc hcl hI
    refine ⟨fun hr => ?_, fun i hi => ?_⟩
    · exfalso
      have hex : ∃ j, j < ops.size ∧ listed.getD j false = false := by
        by_cases h : ∃ j, j < ops.size ∧ listed.getD j false = false
        · exact h
        · exfalso
          have h1 : cnt (fun j => listed.getD j false) ops.size = 0 := by
            unfold cnt
            have : (List.range ops.size).filter (fun j => !(fun j => listed.getD j false) j) = [] := by
              refine List.filter_eq_nil_iff.2 (fun j hj => ?_)
              have hj' := List.mem_range.1 hj
              cases hb : listed.getD j false with
              | true => simp [hb]
              | false => exact absurd ⟨j, hj', hb⟩ h
            rw [this]
            rfl
          omega
      have hmin : ∀ q, (∃ j, j < ops.size ∧ j ≤ q ∧ listed.getD j false = false) → ∃ j, j < ops.size ∧ listed.getD j false = false ∧ ∀ p, p < j → listed.getD p false = true := by
        intro q
        induction q with
        | zero =>
          rintro ⟨j, hj, h1, h2⟩
          exact ⟨j, hj, h2, fun p hp => by omega⟩
        | succ q ihq =>
          rintro ⟨j, hj, h1, h2⟩
          by_cases hlow : ∃ p, p < ops.size ∧ p ≤ q ∧ listed.getD p false = false
          · exact ihq hlow
          · refine ⟨j, hj, h2, fun p hp => ?_⟩
            cases hb : listed.getD p false with
            | true => rfl
            | false => exact absurd ⟨p, by omega, by omega, hb⟩ hlow
      obtain ⟨j0, hj0, h1⟩ := hex
      obtain ⟨j, hj, h2, h3⟩ := hmin j0 ⟨j0, hj0, Nat.le_refl _, h1⟩
      have ho : ops[j]? = some ops[j] := Array.getElem?_eq_getElem hj
      have : j ∈ Region.ready .any ops listed := by
        refine mem_ready.2 ⟨?_, _, ho, fun x hx hb => ?_⟩
        · simpa [Array.getD_eq_getD_getElem?, show j < listed.size by omega] using h2
        · refine h3 x.on (hdown j (by rw [hlen]; omega) x.on ?_)
          subst hN
          unfold ntab
          rw [List.getD_eq_getElem?_getD, List.getElem?_map, Array.getElem?_toList, ho]
          simp only [Option.map_some, Option.getD_some, nds, List.mem_map, List.mem_filter]
          exact ⟨x, ⟨Array.mem_toList_iff.2 hx, hb⟩, rfl⟩
      rw [hr] at this
      cases this
    · obtain ⟨h1, h2, h3⟩ := nds_ready hN hi
      have h1' : listed.getD i false = false := by simpa [Array.getD_eq_getD_getElem?, show i < listed.size by omega] using h1
      have hup := getD_up (listed := listed) (i := i) (by omega)
      refine wpOp_mono (fun a' w' h' => ih _ a' w' (by simpa using hsz) ?_ (fun q hq k hk => ?_) (by rw [hup]; exact h')) (hstep (fun j => listed.getD j false) i a w h2 h1' h3 hcl (hlt' listed hsz) hI)
      · rw [hup]
        have := cnt_up (b := fun j => listed.getD j false) h1' ops.size h2
        omega
      · have e1 : (listed.setIfInBounds i true).getD q false = up1 (fun j => listed.getD j false) i q := congrFun hup q
        have e2 : (listed.setIfInBounds i true).getD k false = up1 (fun j => listed.getD j false) i k := congrFun hup k
        rw [e1] at hq
        rw [e2]
        by_cases hki : k = i
        · rw [hki, up1_self]
        · rw [up1_ne hki]
          by_cases hqi : q = i
          · subst hqi
            exact h3 k hk
          · rw [up1_ne hqi] at hq
            exact hcl q hq k hk
section
variable {P : Program} {ops : Array Oper} {N : List (List Nat)} {evs : List EvT} {Q : Exit → Act → World → Prop} {W : World} {aF : (Nat → Lt) → Act} {a0 : Act}
def StepsF (f : Nat → Bool) (P : Program) (ops : Array Oper) (W : World) (base : List Th) (aF : (Nat → Lt) → Act) (evs : List EvT) : List EvT → Prop
  | [] => True
  | e :: r => (e.Fit ∧ (f e.i = true → StepK P ops W base [] aF evs e)) ∧ StepsF f P ops W base aF evs r
theorem StepsF.get {f : Nat → Bool} {base : List Th} : ∀ {L : List EvT}, StepsF f P ops W base aF evs L → ∀ e ∈ L, e.Fit ∧ (f e.i = true → StepK P ops W base [] aF evs e)
  | [], _, _, h => by cases h
  | g :: r, hs, e, h => by
    rcases List.mem_cons.1 h with rfl | h
    · exact hs.1
    · exact hs.2.get e h
abbrev shY {c : Prop} {base : List Th} {e : EvT} (h : Sh P ops W base [] aF evs e) : e.Fit ∧ (c → StepK P ops W base [] aF evs e) := ⟨h.1, fun _ => h.2⟩
def StepX (P : Program) (ops : Array Oper) (W : World) (R : World → World → Nat → Nat → Prop) (aF : (Nat → Lt) → Act) (evs : List EvT) (e : EvT) : Prop :=
  ∃ o, ops[e.i]? = some o ∧ ∀ s w, Stk W (thU e.us s evs) w → Region.wanted o (yielded ops (aF s).tmps) = true ∧ ∀ K : Act → World → Prop, Aside0 (∀ W2 w', Shift W W2 w w' → R W2 w' w.heap.size w'.heap.size → K ((aF s).put e.d (e.v s (s e.i))) w') → Oper.wp P o (aF s) w K (fun _ _ _ => False)
def InvX (x : Nat) (W : World) (R : World → World → Nat → Nat → Prop) (a0 : Act) (evs : List EvT) (b : Nat → Bool) (a : Act) (w : World) : Prop :=
  (b x = false ∧ InvB W [] [] a0 evs b a w) ∨ (b x = true ∧ ∃ W2 wX lo hi, R W2 wX lo hi ∧ InvB W2 [frm lo hi wX] [] a0 evs b a w)
theorem x_step {R : World → World → Nat → Nat → Prop} (hp : Par ops N [] evs []) (haF : ∀ s, putE a0 s evs = aF s) (hFs : ∀ f ∈ evs, f.Fit) {e : EvT} (he : e ∈ evs) (hk : e.k = 1) (hsj : e.sj = 9999) (ht : ∀ s y, e.t s y = []) (hX : StepX P ops W R aF evs e) {b : Nat → Bool} {a : Act} {w : World} (hI : InvB W [] [] a0 evs b a w)
    (hc : ∀ i, b i = true → ∀ k ∈ N.getD i [], b k = true) (hlt : ∀ i, b i = true → i < ops.size) (hb : b e.i = false) (hr : ∀ k ∈ N.getD e.i [], b k = true) : wpOp P ops Q e.i (fun a w => ∃ W2 wX lo hi, R W2 wX lo hi ∧ InvB W2 [frm lo hi wX] [] a0 evs (up1 b e.i) a w) a w := by
  obtain ⟨s, rfl, hst⟩ := hI
  obtain ⟨o, ho, hd, hus, hself, hlook, hstore⟩ := hp.each e he
  have hlist : ∀ j, anc N ops.size e.i j = true → b j = true := fun j hj => anc_listed hc _ _ _ hr hj
  have hu : ∀ j, e.us.contains j = true → b j = true := fun j hj => hlist j (hus j (List.contains_iff_mem.1 hj))
  have hsz : (putB a0 b s evs).tmps.size = (aF s).tmps.size := by rw [putB_size, ← haF, putE_size]
  have hag : ∀ t ∈ o.looksAt ops, (putB a0 b s evs).tmps[t]? = (aF s).tmps[t]? := fun t ht => by
    rw [← haF]
    exact agree_put evs a0 a0 rfl rfl (fun f hf hdf => hlist _ (hlook t ht f hf hdf))
  have hex : execOp (putB a0 b s evs).eval o = execOp (aF s).eval o := by
    refine execOp_congr o (fun cs bb => Region.noSelect_spec hp.nosel _ _ _ _ ho) (fun x hx => ?_)
    cases x with
    | tmp t =>
      have := hag t (List.mem_append_left _ (List.mem_filterMap.2 ⟨.tmp t, by simpa using hx, rfl⟩))
      simp [Act.eval, this]
    | _ => rfl
  have hwt : Region.wanted o (yielded ops (putB a0 b s evs).tmps) = Region.wanted o (yielded ops (aF s).tmps) := by
    unfold Region.wanted
    cases hg : o.guard with
    | none => rfl
    | some g =>
      obtain ⟨j, want⟩ := g
      simp only
      unfold yielded
      cases hj : ops[j]? with
      | none => simp
      | some oj =>
        cases hdj : oj.dst with
        | none => simp [hdj]
        | some t =>
          have := hag t (List.mem_append_right _ (by simp [hg, hj, hdj]))
          simp [hdj, this]
  have hnotin : ∀ f ∈ evs, b f.i = true → f.us.contains e.i = false := fun f hf hbf => by
    cases hx : f.us.contains e.i with
    | false => rfl
    | true =>
      obtain ⟨_, _, _, hus2, _⟩ := hp.each f hf
      have := anc_listed hc _ _ _ (hc _ hbf) (hus2 _ (List.contains_iff_mem.1 hx))
      rw [hb] at this
      cases this
  have hnd : (evs.map (·.i)).Nodup := by
    have h1 := hp.nums
    rw [List.append_nil] at h1
    rw [← h1]
    exact List.nodup_range
  have hb9 : b 9999 = false := by
    cases h : b 9999 with
    | false => rfl
    | true =>
      have h1 := hlt _ h
      have h2 := hp.small
      omega
  have hsame : ∀ (x y : EvT), x ∈ evs → y ∈ evs → x.i = y.i → x = y := fun x y hx hy e_ => by
    obtain ⟨p, hpl, rfl⟩ := List.getElem_of_mem hx
    obtain ⟨q, hql, rfl⟩ := List.getElem_of_mem hy
    have h1 := (nodup_get.1 hnd) p q (by simpa using hpl) (by simpa using hql) (by simpa using e_)
    subst h1
    rfl
  have hput : (putB a0 b s evs).put e.d (e.v s (s e.i)) = putB a0 (up1 b e.i) s evs := by
    rw [putB_up evs a0 hFs he hnd hp.slots hb hnotin hself]
    congr 1
    funext j
    unfold upd
    split
    · rename_i h; rw [h]
    · rfl
  have hno : ∀ g ∈ evs, g.k = 2 → b g.i = false := fun g hg h2 => by
    cases hx : b g.i with
    | false => rfl
    | true =>
      obtain ⟨_, _, _, _, _, _, h3⟩ := hp.each g hg
      have := anc_listed hc _ _ _ (hc _ hx) ((h3 h2 e he).1 hk)
      rw [hb] at this
      cases this
  have hsjb : ∀ f ∈ evs, b f.sj = false := fun f hf => by
    rcases hp.sjs f hf with h1 | ⟨⟨g, hg, h1, h2⟩, _⟩
    · rw [h1]; exact hb9
    · rw [← h1]; exact hno g hg h2
  have hsjx : ∀ f ∈ evs, f.sj ≠ e.i := fun f hf e_ => by
    rcases hp.sjs f hf with h1 | ⟨⟨g, hg, h1, h2⟩, _⟩
    · have := hp.small
      have := (Array.getElem?_eq_some_iff.1 ho).1
      omega
    · have := hsame g e hg he (h1.trans e_)
      subst this
      omega
  have hst2 : Stk W (thB b s evs) w := by
    have := hst
    unfold bsB at this
    rwa [List.append_nil] at this
  have hsub := hst2.sub (thU_sub (s := s) hu evs hsjb)
  obtain ⟨o', ho', hstep⟩ := hX
  rw [ho] at ho'
  cases ho'
  obtain ⟨hw, hstep⟩ := hstep s w hsub
  have hte : thB (up1 b e.i) s evs = thB b s evs := by
    have : ∀ (L : List EvT), (∀ f ∈ L, f ∈ evs) → thB (up1 b e.i) s L = thB b s L := by
      intro L
      induction L with
      | nil => intros; rfl
      | cons a r ih =>
        intro h1
        unfold thB
        rw [ih (fun g hg => h1 g (List.mem_cons_of_mem _ hg))]
        congr 1
        have hsa := hsjx a (h1 a List.mem_cons_self)
        have hba := hsjb a (h1 a List.mem_cons_self)
        by_cases hi : a.i = e.i
        · have := hsame a e (h1 a List.mem_cons_self) he hi
          subst this
          rw [up1_self, hb]
          unfold EvT.ths
          rw [up1_ne hsa, hba]
          simp [ht]
        · rw [up1_ne hi]
          unfold EvT.ths
          rw [up1_ne hsa]
    exact this evs (fun f hf => hf)
  have hgo := hstep (fun a' w' => ∃ v, a' = (aF s).put o.dst v ∧ (v = e.v s (s e.i) ∧ ∃ W2, Shift W W2 w w' ∧ R W2 w' w.heap.size w'.heap.size)) ⟨fun W2 w' h h2 => ⟨_, by rw [hd], rfl, W2, h, h2⟩⟩
  unfold wpOp
  rw [ho]
  simp only
  rw [hwt, if_pos hw]
  refine .inl (wp_move hex hsz hgo ?_)
  rintro v w' ⟨rfl, W2, h1, h2⟩
  rw [hd, hput]
  refine ⟨W2, w', _, _, h2, s, rfl, ?_⟩
  unfold bsB
  rw [hte]
  exact hst2.shift h1
theorem parX {id : Nat} {w : World} (x : Nat) (evs : List EvT) (f1 f2 : Nat → Bool) (R : World → World → Nat → Nat → Prop) (hm : P.follows .mixedOrders = true) (hN : ntab ops = N) (hp : parOk ops N [] evs [] = true) (haF : ∀ s, putE a0 s evs = aF s) (hst : Stk W [] w)
    (hf1 : evs.all (fun e => f1 e.i || e.i == x || (anc N ops.size e.i x && !(e.k == 2))) = true) (hf2 : evs.all (fun e => f2 e.i || e.i == x || (anc N ops.size x e.i && !(e.k == 2))) = true)
    (hpre : StepsF f1 P ops W [] aF evs evs) (hpost : ∀ W2 wX lo hi, R W2 wX lo hi → StepsF f2 P ops W2 [frm lo hi wX] aF evs evs)
    (hx : ∃ e ∈ evs, e.i = x ∧ e.k = 1 ∧ e.sj = 9999 ∧ (∀ s y, e.t s y = []) ∧ StepX P ops W R aF evs e)
    (hend : ∀ W2 wX lo hi s w, R W2 wX lo hi → Stk W2 (thA ops.size s evs ++ [frm lo hi wX]) w → Q .normal (aF s) w) : (Code.region id ops true).wp P Q a0 w := by
  have hp := Par.of hp
  obtain ⟨eX, heX, hix, hkx, hsx, htx, hX⟩ := hx
  have hFs : ∀ f ∈ evs, f.Fit := fun f hf => (hpre.get f hf).1
  refine wp_region_any hm ?_
  have hf : ∀ j, (Array.replicate ops.size false).getD j false = false := fun j => by
    rw [Array.getD_eq_getD_getElem?, Array.getElem?_replicate]
    split <;> rfl
  have hnums : evs.length = ops.size := by
    have := congrArg List.length hp.nums
    simp at this
    omega
  refine any_inv hN hp.len hp.down (InvX x W R a0 evs) (fun b i a w hi hb hr hc hlt hI => ?_) (fun b a w hall hlt hI => ?_) _ _ a0 _ (by simp) (by
    have : cnt (fun j => (Array.replicate ops.size false).getD j false) ops.size = ops.size := by
      unfold cnt
      rw [List.filter_eq_self.2 (fun j _ => by simp only [hf, Bool.not_false]), List.length_range]
    exact this) (fun i hi => by rw [hf] at hi; cases hi) ?_
  · have hi' : i < evs.length := by omega
    have hei := evs_i hp (List.getElem?_eq_getElem hi')
    have hem : evs[i] ∈ evs := List.getElem_mem hi'
    have hS2 : ∀ {f : Nat → Bool} {W : World} {base : List Th}, StepsF f P ops W base aF evs evs → (∀ e ∈ evs, e.k = 2 → f e.i = true) → ∀ g ∈ evs, g.k = 2 → StepS P ops W base [] aF evs g := fun hs hk g hg h2 => by
      have := (hs.get g hg).2 (hk g hg h2)
      unfold StepK at this
      rw [h2] at this
      exact this
    have hk1 : ∀ e ∈ evs, e.k = 2 → f1 e.i = true := fun e he h2 => by
      have := List.all_eq_true.1 hf1 e he
      rw [h2] at this
      simp only [beq_self_eq_true, Bool.not_true, Bool.and_false, Bool.or_false, Bool.or_eq_true, beq_iff_eq] at this
      rcases this with h | h
      · exact h
      · exfalso
        obtain ⟨p, hpl, rfl⟩ := List.getElem_of_mem he
        obtain ⟨q, hql, rfl⟩ := List.getElem_of_mem heX
        have e1 := evs_i hp (List.getElem?_eq_getElem hpl)
        have e2 := evs_i hp (List.getElem?_eq_getElem hql)
        have : p = q := by rw [← e1, ← e2, h, hix]
        subst this
        omega
    have hk2 : ∀ e ∈ evs, e.k = 2 → f2 e.i = true := fun e he h2 => by
      have := List.all_eq_true.1 hf2 e he
      rw [h2] at this
      simp only [beq_self_eq_true, Bool.not_true, Bool.and_false, Bool.or_false, Bool.or_eq_true, beq_iff_eq] at this
      rcases this with h | h
      · exact h
      · exfalso
        obtain ⟨p, hpl, rfl⟩ := List.getElem_of_mem he
        obtain ⟨q, hql, rfl⟩ := List.getElem_of_mem heX
        have e1 := evs_i hp (List.getElem?_eq_getElem hpl)
        have e2 := evs_i hp (List.getElem?_eq_getElem hql)
        have : p = q := by rw [← e1, ← e2, h, hix]
        subst this
        omega
    by_cases hxi : i = x
    · subst hxi
      rcases hI with ⟨_, hI⟩ | ⟨h1, _⟩
      · have he : evs[i] = eX := by
          obtain ⟨q, hql, hq⟩ := List.getElem_of_mem heX
          have e2 := evs_i hp (List.getElem?_eq_getElem hql)
          rw [hq, hix] at e2
          subst e2
          exact hq
        have := x_step (Q := Q) hp haF hFs heX hkx hsx htx hX hI hc hlt (by rw [hix]; exact hb) (by rw [hix]; exact hr)
        rw [hix] at this
        exact wpOp_mono (fun a w h => .inr ⟨up1_self b i, h⟩) this
      · rw [hb] at h1
        cases h1
    · have hupx : up1 b i x = b x := up1_ne (fun e_ => hxi e_.symm)
      rcases hI with ⟨h1, hI⟩ | ⟨h1, W2, wX, lo, hi2, hR, hI⟩
      · have hno : anc N ops.size i x = false := by
          cases h2 : anc N ops.size i x with
          | false => rfl
          | true =>
            have := anc_listed hc _ _ _ hr h2
            rw [h1] at this
            cases this
        have hst' := (hpre.get _ hem).2 (by
          have := List.all_eq_true.1 hf1 _ hem
          rw [hei, hno] at this
          simp only [Bool.false_and, Bool.or_false, Bool.or_eq_true, beq_iff_eq] at this
          rcases this with h | h
          · rw [hei]; exact h
          · exact absurd h hxi)
        have := par_stepG (Q := Q) hp rfl mf0 haF hFs (hS2 hpre hk1) hem hst' hI hc hlt (by rw [hei]; exact hb) (by rw [hei]; exact hr)
        rw [hei] at this
        exact wpOp_mono (fun a w h => .inl ⟨by rw [hupx]; exact h1, h⟩) this
      · have hno : anc N ops.size x i = false := by
          cases h2 : anc N ops.size x i with
          | false => rfl
          | true =>
            have := anc_listed hc _ _ _ (hc x h1) h2
            rw [hb] at this
            cases this
        have hst' := ((hpost W2 wX lo hi2 hR).get _ hem).2 (by
          have := List.all_eq_true.1 hf2 _ hem
          rw [hei, hno] at this
          simp only [Bool.false_and, Bool.or_false, Bool.or_eq_true, beq_iff_eq] at this
          rcases this with h | h
          · rw [hei]; exact h
          · exact absurd h hxi)
        have := par_stepG (Q := Q) hp rfl mf0 haF hFs (hS2 (hpost W2 wX lo hi2 hR) hk2) hem hst' hI hc hlt (by rw [hei]; exact hb) (by rw [hei]; exact hr)
        rw [hei] at this
        exact wpOp_mono (fun a w h => .inr ⟨by rw [hupx]; exact h1, W2, wX, lo, hi2, hR, h⟩) this
  · have hxlt : x < ops.size := by
      have := mem_evs_lt hp heX
      omega
    rcases hI with ⟨h1, _⟩ | ⟨_, W2, wX, lo, hi2, hR, hI⟩
    · rw [hall x hxlt] at h1
      cases h1
    · obtain ⟨s, rfl, hst'⟩ := inv_end hp rfl haF hI (fun e he => hall _ (by have := mem_evs_lt hp he; omega)) hlt
      exact hend W2 wX lo hi2 s w hR hst'
  · refine .inl ⟨hf x, ?_⟩
    have : (fun j => (Array.replicate ops.size false).getD j false) = fun _ => false := funext hf
    rw [this]
    exact inv_start hst.drew
end
end Go.Proofs.YtoomjghabiojkaaW.Mine


/- appended: what it comes to, and a call that changes a box and rows and makes more. -/
namespace Go.Proofs.YtoomjghabiojkaaW.Mine
open Go.RowKit Go.Proofs.YtoomjghabiojkaaW.PrintWords
set_option linter.unusedVariables false
theorem Stk.stepA {W w w' : World} {ts : List Th} (h : Stk W ts w) (i j : Nat) (hij : i ≠ j) {g t lo hi : Nat} {cs cs2 : Array Value} {P : World → Prop} (hi' : ts[i]? = some (boxT g cs t)) (hj : ts[j]? = some ⟨lo, hi, P⟩) (ho : w'.os = w.os ∧ w'.tape = w.tape ∧ w'.output = w.output) (hK : Kept w w' (fun k => (lo ≤ k ∧ k < hi) ∨ k = g)) (hb : bx g cs2 t w') :
    Stk W (frm w.heap.size w'.heap.size w' :: (ts.set i (boxT g cs2 t)).set j (frm lo hi w')) w' := by
  have h2 : Stk W ((ts.set i (boxT g cs2 t)).set j (frm lo hi w')) w' := h.step2 i j hij hi' hj ho hK hb (P2 := fun x => Agree lo hi w' x) (fun w'' ha => ha)
  have hmi := h.all _ (List.mem_of_getElem? hi')
  have hmj := h.all _ (List.mem_of_getElem? hj)
  refine ⟨h2.hb, fun t' ht => ?_, List.pairwise_cons.2 ⟨fun t' ht' => .inr ?_, h2.ap⟩⟩
  · rcases List.mem_cons.1 ht with rfl | ht
    · exact ⟨h.hb.size, hK.1, Nat.le_refl _, fun w'' ha => ha⟩
    · exact h2.all t' ht
  · show t'.hi ≤ w.heap.size
    rcases List.mem_or_eq_of_mem_set ht' with h3 | rfl
    · rcases List.mem_or_eq_of_mem_set h3 with h4 | rfl
      · exact (h.all t' h4).2.2.1
      · exact hmi.2.2.1
    · exact hmj.2.2.1
end Go.Proofs.YtoomjghabiojkaaW.Mine
namespace Go.Proofs.Ytoomjghabiojkaa.P
open Go.RowKit Go.Proofs.YtoomjghabiojkaaW.PrintWords Go.Proofs.YtoomjghabiojkaaW.PrintMore Go.Proofs.YtoomjghabiojkaaW.Mine
set_option linter.unusedVariables false
set_option linter.unusedSimpArgs false
def roomP (n c : Int) (l : List Int) : Int := mn 64 (mx (2 * c) (n + (l.length : Int)))
def growRow (row : List Int) (s n : Int) (N : Nat) (l : List Int) : List Int := spl (spl (List.replicate N (0 : Int)) 0 (((row.drop s.toNat).take n.toNat).take N)) (0 + n.toNat) (l.take (N - n.toNat))
def appendP (m : List (List Int)) (a s n c : Int) (l : List Int) : List (List Int) × Int × Int × Int × Int × Bool :=
  if n + (l.length : Int) ≤ c then (putRow m a (spl (rowB m a) (s + n).toNat l), a, s, n + (l.length : Int), c, true)
  else if n + (l.length : Int) > 64 ∨ (m.length : Int) = 16 then (m, 0, 0, 0, 0, false)
  else (m ++ [growRow (rowB m a) s n (roomP n c l).toNat l], (m.length : Int), 0, n + (l.length : Int), ((roomP n c l).toNat : Int), true)
end Go.Proofs.Ytoomjghabiojkaa.P


/- append of one row of bytes to rows of the caller's, operation by operation. -/
namespace Go.Proofs.Ytoomjghabiojkaa.P
open Go.RowKit Go.Proofs.YtoomjghabiojkaaW.PrintWords Go.Proofs.YtoomjghabiojkaaW.Mine
set_option linter.unusedVariables false
set_option linter.unusedSimpArgs false
section
variable {P : Program} {ops : Array Oper} {Q : Exit → Act → World → Prop} {W w w2 : World} {a : Act} {r : List Nat} {i : Nat} {o : Oper}
theorem tlVal (d : Tmp) (ho : ops.toList[i]? = some o) (v : Value) (hr : (execOp a.eval o).run P w = .ok (.value v) w2) (h : wpOps P ops Q r (a.put (some d) v) w2) (hd : o.dst = some d := by rfl) (hw : Region.wanted o (yielded ops a.tmps) = true := by rfl) : wpOps P ops Q (i :: r) a w := by
  refine tlRun ho hw ?_
  unfold Oper.wp
  rw [hr]
  show wpOps P ops Q r (a.put o.dst _) _
  rw [hd]
  exact h
theorem tlSkip (ho : ops.toList[i]? = some o) (hr : (execOp a.eval o).run P w = .ok .skip w2) (h : wpOps P ops Q r a w2) (hd : o.dst = none := by rfl) (hw : Region.wanted o (yielded ops a.tmps) = true := by rfl) : wpOps P ops Q (i :: r) a w := by
  refine tlRun ho hw ?_
  unfold Oper.wp
  rw [hr]
  show wpOps P ops Q r (a.put o.dst undef) _
  rw [hd]
  exact h
theorem tlAppend {x y : Operand} (d : Tmp) (ho : ops.toList[i]? = some o) {w0 : World} {v : Value} {mp : List (List Int)} {row : List Int} {gA n base : Nat} {cur : Array Value} {ok : Nat → Prop}
    (hS : Kd.S (Kd.slice 5 (Kd.int .u8)) 119 w0 base ok v mp) (hB : Below w0.heap.size w0 W) (hbase : base ≤ w0.heap.size) (hA : W.heap[gA]? = some (.cells cur 5 (0, 0))) (hge : w0.heap.size ≤ gA) (hn : row.length = n) (hcs : cur.size = n) (hmax : n ≤ maxLen)
    (ht : cur.toList.take row.length = row.map (fun x => Value.int .u8 x)) (hm : mp.length ≤ 1000000)
    (h : ∀ A2 c2 w1, Kd.S (Kd.slice 5 (Kd.int .u8)) 119 w1 base (fun k => ok k ∨ w0.heap.size ≤ k) (.slice A2 (mp.length + 1) c2) (mp ++ [row]) → W.grownBy w1 v.ownBlock → wpOps Try.prog ops Q r (a.put (some d) (.slice A2 (mp.length + 1) c2)) w1)
    (hop : o.op = .call { callee := .builtin .append, args := #[x, y], argTypes := #[22, 22] } := by rfl) (hx : a.eval x = v := by rfl) (hy : a.eval y = .slice (some ⟨W.heap.size, 0, none⟩) 1 1 := by rfl) (hd : o.dst = some d := by rfl) (hw : Region.wanted o (yielded ops a.tmps) = true := by rfl) :
    wpOps Try.prog ops Q (i :: r) a (W.alloc (.cells #[.slice (some ⟨gA, 0, none⟩) n n] 119)) := by
  have hu : Try.prog.underlying 22 = some (.slice 119) := by kernel_rfl
  have hz : (Try.prog.info? 119).map (fun i => (i.zero, i.size, i.bytes)) = some (some (.slice none 0 0), 1, 24) := by kernel_rfl
  refine tlRun ho hw ?_
  have hlt : ∀ k, v.ownBlock = some k → k < w0.heap.size := Kd.S_lt hS
  have := Kd.S_append_step (P := Try.prog) (ops := ops) (o := o) (a := a) (Q := Q) (Kc := wpOps Try.prog ops Q r) (Kd.slice 5 (Kd.int .u8)) (w0 := w0) (W := W) base hw x y 22 119 (.slice none 0 0) 24 hop hu hz rfl (by decide) (by omega) v mp row [.slice (some ⟨gA, 0, none⟩) n n] (fun k => ok k ∨ w0.heap.size ≤ k) (fun k => k = gA) hx hy
    (Kd.M_row (Kd.R_of_own ⟨by rw [encs_length, Nat.mul_one], .inr ⟨gA, n, cur, by rw [hn], Nat.le_trans hbase hge, hA, by rw [hn]; exact Nat.le_refl _, hmax, by rw [hcs, Nat.mul_one], by rw [Nat.mul_one, ht]; rfl⟩⟩ (fun k hk => by simp [Value.ownBlock] at hk; exact hk.symm)))
    (fun k hk => ⟨.inr (by omega), fun e => by have := hlt k e.symm; omega⟩) (fun k hk => .inr (Nat.le_trans hB.size hk))
    (Kd.S_mono (Kd.S_old hS hB) (fun k hk => ⟨.inl hk.1, fun e => by have := hk.2; omega⟩))
    ⟨hB.os, hB.tape, hB.output, hB.size, fun k hk => hB.block k (Nat.lt_of_lt_of_le hk hbase)⟩ (Nat.le_trans hbase hB.size) (by omega)
    (fun v1 w1 h1 _ h3 _ => by
      obtain ⟨A2, c2, rfl⟩ := Kd.S_slice h1
      rw [List.length_append, List.length_singleton] at h1 ⊢
      rw [hd]
      exact h A2 c2 w1 h1 h3)
  rw [if_pos hw] at this
  exact this
end
end Go.Proofs.Ytoomjghabiojkaa.P


-- written by wip/gen_fn.py
namespace Go.Proofs.Ytoomjghabiojkaa.P
open Go.RowKit Go.Proofs.YtoomjghabiojkaaW.PrintWords Go.Proofs.YtoomjghabiojkaaW.PrintLast Go.Proofs.YtoomjghabiojkaaW.PrintMore Go.Proofs.YtoomjghabiojkaaW.Mine
open List (setIfInBounds_toArray set_cons_zero set_cons_succ)
attribute [local go_sem] max2_int min2_int max_two min_two max_three min_three max_four min_four
set_option linter.unusedVariables false
set_option linter.unusedSimpArgs false
set_option maxHeartbeats 8000000 in
set_option maxRecDepth 100000 in
theorem impl_Memory_appendedG_w0 (a0_0 : Int) (a0_1 : Int) (a0_2 : Int) (a0_3 : Int) (A1_0 : Option Addr) (c1_0 : Nat) (l1_0 : List Int) (bp0 g0 gr cap mc : Nat) (cur : Array Value) (mp : List (List Int)) (row : List Int) (y0 : Int) (y1 : Int) (y2 : Int) (y3 : Int) (y4 : Int) (y5 : Int) (w : World) (hr1_0 : Kd.C (Kd.int .u8) w A1_0 l1_0.length l1_0) (hc1_0 : l1_0.length ≤ c1_0) (hbxbp0 : bx bp0 #[.slice (some ⟨g0, 0, none⟩) mp.length mc, .int .i64 y0, .int .i64 y1, .int .i64 y2, .int .i64 y3, .int .i64 y4, .int .i64 y5] 69 w) (hnebp0 : bp0 ≠ gr) (hcell : w.cell? ⟨g0, a0_0.toNat, none⟩ = some (.slice (some ⟨gr, 0, none⟩) row.length cap)) (hrow : w.heap[gr]? = some (.cells cur 5 (0, 0))) (hle : row.length ≤ cap) (hcs : cur.size = cap) (htk : cur.toList.take row.length = row.map (fun x => Value.int .u8 x)) (T0 : (decide (a0_2 + (l1_0.length : Int) ≤ a0_3)) = true) (F0 : 0 ≤ a0_0) (F1 : a0_0 < (mp.length : Int)) (F2 : 0 ≤ a0_1) (F3 : 0 ≤ a0_2) (F4 : a0_2 ≤ a0_3) (F5 : a0_3 ≤ 64) (F6 : a0_1 + a0_3 ≤ (row.length : Int)) (F7 : row.length ≤ 64) (F8 : mp.length ≤ 16) (F9 : l1_0.length ≤ 1048576) (F10 : a0_2 + (l1_0.length : Int) ≤ a0_3) :
    Calls Try.prog 152 #[.pointer (some ⟨bp0, 0, none⟩), .agg #[.int .i64 a0_0, .int .i64 a0_1, .int .i64 a0_2, .int .i64 a0_3], .slice A1_0 l1_0.length c1_0] w fun e w' => e = .returned (.tuple #[.agg #[.int .i64 a0_0, .int .i64 a0_1, .int .i64 (a0_2 + (l1_0.length : Int)), .int .i64 a0_3], .bool true]) ∧ ∃ cur_ : Array Value, cur_.size = cur.size ∧ cur_.toList.take row.length = (spl row (0 + ((a0_1 + a0_2).toNat)) (l1_0.take (row.length - ((a0_1 + a0_2).toNat)))).map (fun x => Value.int .u8 x) ∧ Below w.heap.size (w.setRow gr cur_) w' := by
  have HR1_0 := Aside0.mk hr1_0; have HC1_0 := Aside0.mk hc1_0; clear hr1_0 hc1_0
  have HXbp0 := Aside0.mk hbxbp0; have HNEbp0 := Aside0.mk hnebp0; have HCELL := Aside0.mk hcell; have HROW := Aside0.mk hrow; have HTK := Aside0.mk htk; clear hbxbp0 hnebp0 hcell hrow htk
  have Hbp0 := Aside0.mk (fun j u (hj : (#[.slice (some ⟨g0, 0, none⟩) mp.length mc, .int .i64 y0, .int .i64 y1, .int .i64 y2, .int .i64 y3, .int .i64 y4, .int .i64 y5] : Array Value)[j]? = some u) => (blk_cell HXbp0.out j).trans hj)
  have T0_ := Aside0.mk T0; clear T0; have T0 := T0_; clear T0_
  have HS0 : Aside0 (Stk w [] w) := ⟨Stk.nil w⟩
  go_enter Try.func152, Try.ntmps152
  refine reg (aF := ?_) (nw := ?_) [evB 0 4 [] 48 (fun s => #[.int .i64 a0_0, .int .i64 a0_1, .int .i64 a0_2, .int .i64 a0_3]) 9999 [] (fun s => #[.int .i64 a0_0, .int .i64 a0_1, .int .i64 a0_2, .int .i64 a0_3]), evB 1 6 [] 48 (fun s => #[.int .i64 0, .int .i64 0, .int .i64 0, .int .i64 0]) 9999 [] (fun s => #[.int .i64 0, .int .i64 0, .int .i64 0, .int .i64 0]), evP 2 7 [] (fun s => .bool false)] [] [] false 3 rfl rfl (by kernel_rfl) rfl (mf0) ?aF ?nw HS0.out ?hs ?_
  rotate_left 2
  case aF => intro s; simp only [putE, EvT.val, Act.put, setIfInBounds_toArray, set_cons_zero, set_cons_succ]; rfl
  case nw => intro s; simp only [thA, bsA, List.nil_append, List.cons_append, List.append_nil, if_true, if_false, Nat.reduceLT, set_cons_zero, set_cons_succ]; rfl
  case hs => exact ⟨bv rfl (fun s w => by go_simp; try rfl), bv rfl (fun s w => by go_simp; try rfl), pu rfl, trivial⟩
  intro s1 w1 h; have HS1 := Aside0.mk h; clear h HS0
  refine tl0 ?_
  refine reg0 (aF := ?_) [evP 0 11 [] (fun s => .pointer (some ⟨(s1 0).lo, 1, none⟩)), evR 1 12 0 (fun s => .int .i64 a0_1), evP 2 13 [] (fun s => .pointer (some ⟨(s1 0).lo, 2, none⟩)), evR 3 14 0 (fun s => .int .i64 a0_2), evP 4 15 [] (fun s => .int .i64 (a0_1 + a0_2)), evP 5 16 [] (fun s => .pointer (some ⟨(s1 0).lo, 2, none⟩)), evR 6 17 0 (fun s => .int .i64 a0_2), evP 7 18 [] (fun s => .slice A1_0 l1_0.length c1_0), evP 8 19 [] (fun s => .int .i64 (l1_0.length : Int)), evP 9 20 [] (fun s => .int .i64 (a0_2 + (l1_0.length : Int))), evP 10 8 [] (fun s => .int .i64 (a0_1 + a0_2))] [11] true 12 rfl rfl (by kernel_rfl) rfl (fun _ => rfl) ?aF HS1.out ?hs ?_
  rotate_left 1
  case aF => intro s; simp only [putE, EvT.val, Act.put, setIfInBounds_toArray, set_cons_zero, set_cons_succ]; rfl
  case hs => exact ⟨pu rfl (hr := fun s w => by go_simp; try rfl), lr rfl 0 rfl (fun s w h => by have h0 := h 0 _ rfl; have h1 := h 1 _ rfl; have h2 := h 2 _ rfl; have h3 := h 3 _ rfl; clear h; go_simp; try rfl), pu rfl (hr := fun s w => by go_simp; try rfl), lr rfl 0 rfl (fun s w h => by have h0 := h 0 _ rfl; have h1 := h 1 _ rfl; have h2 := h 2 _ rfl; have h3 := h 3 _ rfl; clear h; go_simp; try rfl), pa .add (r := a0_1 + a0_2) (.inl ⟨rfl, (i64_ok (n := a0_1 + a0_2) (by omega) (by omega))⟩) rfl, pu rfl (hr := fun s w => by go_simp; try rfl), lr rfl 0 rfl (fun s w h => by have h0 := h 0 _ rfl; have h1 := h 1 _ rfl; have h2 := h 2 _ rfl; have h3 := h 3 _ rfl; clear h; go_simp; try rfl), pu rfl, pu rfl (hr := fun s w => by go_simp; try rfl), pa .add (r := a0_2 + (l1_0.length : Int)) (.inl ⟨rfl, (i64_ok (n := a0_2 + (l1_0.length : Int)) (by omega) (by omega))⟩) rfl, pu rfl, trivial⟩
  intro s2 w2 h; have HS2 := Aside0.mk h; clear h HS1
  refine tlP (v := .int .i64 (a0_2 + (l1_0.length : Int))) 9 rfl ?_
  simp only [Act.put, setIfInBounds_toArray, set_cons_zero, set_cons_succ]
  refine tl0 ?_
  refine wp_seq ?_
  refine reg0 (aF := ?_) [evP 0 21 [] (fun s => .int .i64 (a0_2 + (l1_0.length : Int))), evP 1 22 [] (fun s => .pointer (some ⟨(s1 0).lo, 3, none⟩)), evL 2 23 [] (fun s => .int .i64 a0_3), evP 3 24 [] (fun s => .bool true)] [] false 4 rfl rfl (by kernel_rfl) rfl (fun _ => rfl) ?aF HS2.out ?hs ?_
  rotate_left 1
  case aF => intro s; simp only [putE, EvT.val, Act.put, setIfInBounds_toArray, set_cons_zero, set_cons_succ]; rfl
  case hs => exact ⟨pu rfl, pu rfl (hr := fun s w => by go_simp; try rfl), ld rfl 0 (fun s => rfl) (fun s w h => by have h0 := h 0 _ rfl; have h1 := h 1 _ rfl; have h2 := h 2 _ rfl; have h3 := h 3 _ rfl; clear h; go_simp; try rfl), pb (q := .leq) T0.out rfl, trivial⟩
  intro s3 w3 h; have HS3 := Aside0.mk h; clear h HS2
  refine tl0 ?_
  refine wp_cond_true rfl ?_
  refine reg0 (aF := ?_) [evP 0 25 [] (fun s => .pointer (some ⟨bp0, 0, none⟩)), evP 1 26 [] (fun s => .pointer (some ⟨bp0, 0, none⟩)), evP 2 27 [] (fun s => .pointer (some ⟨bp0, 0, none⟩)), evL 3 28 [] (fun s => .slice (some ⟨g0, 0, none⟩) mp.length mc), evP 4 29 [] (fun s => .pointer (some ⟨(s1 0).lo, 0, none⟩)), evL 5 30 [] (fun s => .int .i64 a0_0), evP 6 31 [] (fun s => .pointer (some ⟨g0, a0_0.toNat, none⟩)), evL 7 32 [] (fun s => .slice (some ⟨gr, 0, none⟩) row.length cap), evP 8 33 [] (fun s => .int .i64 (a0_1 + a0_2)), evP 9 34 [] (fun s => .slice (cutA (some ⟨gr, 0, none⟩) ((a0_1 + a0_2).toNat) cap) (row.length - ((a0_1 + a0_2).toNat)) (cap - ((a0_1 + a0_2).toNat))), evP 10 35 [] (fun s => .slice A1_0 l1_0.length c1_0)] [11] true 12 rfl rfl (by kernel_rfl) rfl (fun _ => rfl) ?aF HS3.out ?hs ?_
  rotate_left 1
  case aF => intro s; simp only [putE, EvT.val, Act.put, setIfInBounds_toArray, set_cons_zero, set_cons_succ]; rfl
  case hs => exact ⟨pu rfl, pu rfl (hr := fun s w => by go_simp; try rfl), pu rfl (hr := fun s w => by go_simp; try rfl), lo rfl Hbp0.out (fun s w h => by have h0 := h 0 _ rfl; have h1 := h 1 _ rfl; have h2 := h 2 _ rfl; have h3 := h 3 _ rfl; have h4 := h 4 _ rfl; have h5 := h 5 _ rfl; have h6 := h 6 _ rfl; clear h; go_simp; try rfl), pu rfl (hr := fun s w => by go_simp; try rfl), ld rfl 0 (fun s => rfl) (fun s w h => by have h0 := h 0 _ rfl; have h1 := h 1 _ rfl; have h2 := h 2 _ rfl; have h3 := h 3 _ rfl; clear h; go_simp; try rfl), pu rfl (hr := fun s w => by go_simp; try rfl), lo rfl (one_at HCELL.out) (fun s w h => by have h0 := h 0 _ rfl; clear h; go_simp; try rfl), pu rfl, cl_ rfl (by omega) (by omega), pu rfl, trivial⟩
  intro s4 w4 h; have HS4 := Aside0.mk h; clear h HS3
  refine tlCopyOld (some 36) rfl HS4.out (bs := (l1_0.take (row.length - ((a0_1 + a0_2).toNat)))) HROW.out (by omega) HTK.out (Al.cut (C := cap) (al_self gr row.length) ((a0_1 + a0_2).toNat) (row.length - ((a0_1 + a0_2).toNat)) (by omega) (by omega)) (len_take rfl _) (fit_take (by omega)) ((bytes_C (Kd.C_below HR1_0.out HS4.out.hb)).take _) (fun cur2 wq2 hsz2 htk2 h => ?_)
  have HQ2 := Aside0.mk h; clear h HS4
  have HROW2 := Aside0.mk (setRow_heap w gr _ cur2 _ _ HROW.out); have HTK := Aside0.mk (show cur2.toList.take (spl row (0 + ((a0_1 + a0_2).toNat)) (l1_0.take (row.length - ((a0_1 + a0_2).toNat)))).length = (spl row (0 + ((a0_1 + a0_2).toNat)) (l1_0.take (row.length - ((a0_1 + a0_2).toNat)))).map (fun x => Value.int .u8 x) by rw [spl_length _ _ _ (fit_take (by omega))]; exact htk2)
  have := spl_length row (0 + ((a0_1 + a0_2).toNat)) (l1_0.take (row.length - ((a0_1 + a0_2).toNat))) (fit_take (by omega))
  have n_ := Aside0.mk ((setRow_other w gr bp0 cur2 HNEbp0.out).trans HXbp0.out); clear HXbp0 Hbp0; have HXbp0 : Aside0 (bx bp0 #[.slice (some ⟨g0, 0, none⟩) mp.length mc, .int .i64 y0, .int .i64 y1, .int .i64 y2, .int .i64 y3, .int .i64 y4, .int .i64 y5] 69 (w.setRow gr cur2)) := n_; clear n_
  have Hbp0 : Aside0 (∀ j u, (#[.slice (some ⟨g0, 0, none⟩) mp.length mc, .int .i64 y0, .int .i64 y1, .int .i64 y2, .int .i64 y3, .int .i64 y4, .int .i64 y5] : Array Value)[j]? = some u → (w.setRow gr cur2).cell? ⟨bp0, j, none⟩ = some u) := ⟨fun j u hj => (blk_cell HXbp0.out j).trans hj⟩
  simp only [Act.put, setIfInBounds_toArray, set_cons_zero, set_cons_succ]
  refine tl0 ?_
  refine reg (aF := ?_) (nw := ?_) [evP 0 37 [] (fun s => .pointer (some ⟨(s1 0).lo, 0, none⟩)), evL 1 38 [] (fun s => .int .i64 a0_0), evP 2 39 [] (fun s => .pointer (some ⟨(s1 0).lo, 1, none⟩)), evL 3 40 [] (fun s => .int .i64 a0_1), evP 4 41 [] (fun s => .int .i64 (a0_2 + (l1_0.length : Int))), evP 5 42 [] (fun s => .pointer (some ⟨(s1 0).lo, 3, none⟩)), evL 6 43 [] (fun s => .int .i64 a0_3), evP 7 44 [] (fun s => .agg #[.int .i64 a0_0, .int .i64 a0_1, .int .i64 (a0_2 + (l1_0.length : Int)), .int .i64 a0_3]), evS 8] [9] [⟨1, 8, [], fun s => boxT (s1 1).lo #[.int .i64 a0_0, .int .i64 a0_1, .int .i64 (a0_2 + (l1_0.length : Int)), .int .i64 a0_3] 48⟩] false 10 rfl rfl (by kernel_rfl) rfl ((mf1 mf0)) ?aF ?nw HQ2.out ?hs ?_
  rotate_left 2
  case aF => intro s; simp only [putE, EvT.val, Act.put, setIfInBounds_toArray, set_cons_zero, set_cons_succ]; rfl
  case nw => intro s; simp only [thA, bsA, List.nil_append, List.cons_append, List.append_nil, if_true, if_false, Nat.reduceLT, set_cons_zero, set_cons_succ]; rfl
  case hs => exact ⟨pu rfl (hr := fun s w => by go_simp; try rfl), ld rfl 0 (fun s => rfl) (fun s w h => by have h0 := h 0 _ rfl; have h1 := h 1 _ rfl; have h2 := h 2 _ rfl; have h3 := h 3 _ rfl; clear h; go_simp; try rfl), pu rfl (hr := fun s w => by go_simp; try rfl), ld rfl 0 (fun s => rfl) (fun s w h => by have h0 := h 0 _ rfl; have h1 := h 1 _ rfl; have h2 := h 2 _ rfl; have h3 := h 3 _ rfl; clear h; go_simp; try rfl), pu rfl, pu rfl (hr := fun s w => by go_simp; try rfl), ld rfl 0 (fun s => rfl) (fun s w h => by have h0 := h 0 _ rfl; have h1 := h 1 _ rfl; have h2 := h 2 _ rfl; have h3 := h 3 _ rfl; clear h; go_simp; try rfl), pu rfl (hr := fun s w => by go_simp; try rfl), sb rfl 0 1 0 (fun s => [.int .i64 a0_0, .int .i64 a0_1, .int .i64 (a0_2 + (l1_0.length : Int)), .int .i64 a0_3]) rfl rfl (fun s w h hf => by have h0 := h 0 _ rfl; have f0 := hf 0; have h1 := h 1 _ rfl; have f1 := hf 1; have h2 := h 2 _ rfl; have f2 := hf 2; have h3 := h 3 _ rfl; have f3 := hf 3; clear h hf; go_simp; try rfl), trivial⟩
  intro s5 w5 h; have HS5 := Aside0.mk h; clear h HQ2
  refine tlP (v := .bool true) 7 rfl ?_
  simp only [Act.put, setIfInBounds_toArray, set_cons_zero, set_cons_succ]
  refine tl0 ?_
  refine wp_ret ?_
  try simp only [Exit.inBlock, Exit.then]
  refine bodyPost_ret (results_list (rs := [.cell 6 48, .tmp 7]) rfl (by simp) (.cell (s1 1).lo 48 #[.int .i64 a0_0, .int .i64 a0_1, .int .i64 (a0_2 + (l1_0.length : Int)), .int .i64 a0_3] (0, 0) _ rfl (show bx (s1 1).lo #[.int .i64 a0_0, .int .i64 a0_1, .int .i64 (a0_2 + (l1_0.length : Int)), .int .i64 a0_3] 48 _ from HS5.out.get 1 rfl) Try.underlying48 rfl (by kernel_rfl) (.tmp .nil))) rfl ?_
  exact ⟨by first | rfl | simp, cur2, hsz2, htk2, by have h_ := HS5.out.hb; simp only [size_puts, setRow_size] at h_; exact h_⟩
set_option maxHeartbeats 8000000 in
set_option maxRecDepth 100000 in
theorem impl_Memory_appendedG_w1 (a0_0 : Int) (a0_1 : Int) (a0_2 : Int) (a0_3 : Int) (A1_0 : Option Addr) (c1_0 : Nat) (l1_0 : List Int) (bp0 g0 gr cap mc : Nat) (cur : Array Value) (mp : List (List Int)) (row : List Int) (y0 : Int) (y1 : Int) (y2 : Int) (y3 : Int) (y4 : Int) (y5 : Int) (w : World) (hr1_0 : Kd.C (Kd.int .u8) w A1_0 l1_0.length l1_0) (hc1_0 : l1_0.length ≤ c1_0) (hbxbp0 : bx bp0 #[.slice (some ⟨g0, 0, none⟩) mp.length mc, .int .i64 y0, .int .i64 y1, .int .i64 y2, .int .i64 y3, .int .i64 y4, .int .i64 y5] 69 w) (hnebp0 : bp0 ≠ gr) (hcell : w.cell? ⟨g0, a0_0.toNat, none⟩ = some (.slice (some ⟨gr, 0, none⟩) row.length cap)) (hrow : w.heap[gr]? = some (.cells cur 5 (0, 0))) (hle : row.length ≤ cap) (hcs : cur.size = cap) (htk : cur.toList.take row.length = row.map (fun x => Value.int .u8 x)) (T0 : (decide (a0_2 + (l1_0.length : Int) ≤ a0_3)) = false) (T1 : (decide (a0_2 + (l1_0.length : Int) > 64)) = true) (F0 : 0 ≤ a0_0) (F1 : a0_0 < (mp.length : Int)) (F2 : 0 ≤ a0_1) (F3 : 0 ≤ a0_2) (F4 : a0_2 ≤ a0_3) (F5 : a0_3 ≤ 64) (F6 : a0_1 + a0_3 ≤ (row.length : Int)) (F7 : row.length ≤ 64) (F8 : mp.length ≤ 16) (F9 : l1_0.length ≤ 1048576) :
    Calls Try.prog 152 #[.pointer (some ⟨bp0, 0, none⟩), .agg #[.int .i64 a0_0, .int .i64 a0_1, .int .i64 a0_2, .int .i64 a0_3], .slice A1_0 l1_0.length c1_0] w fun e w' => e = .returned (.tuple #[.agg #[.int .i64 0, .int .i64 0, .int .i64 0, .int .i64 0], .bool false]) ∧ Below w.heap.size w w' := by
  have HR1_0 := Aside0.mk hr1_0; have HC1_0 := Aside0.mk hc1_0; clear hr1_0 hc1_0
  have HXbp0 := Aside0.mk hbxbp0; have HNEbp0 := Aside0.mk hnebp0; have HCELL := Aside0.mk hcell; have HROW := Aside0.mk hrow; have HTK := Aside0.mk htk; clear hbxbp0 hnebp0 hcell hrow htk
  have Hbp0 := Aside0.mk (fun j u (hj : (#[.slice (some ⟨g0, 0, none⟩) mp.length mc, .int .i64 y0, .int .i64 y1, .int .i64 y2, .int .i64 y3, .int .i64 y4, .int .i64 y5] : Array Value)[j]? = some u) => (blk_cell HXbp0.out j).trans hj)
  have T0_ := Aside0.mk T0; clear T0; have T0 := T0_; clear T0_
  have T1_ := Aside0.mk T1; clear T1; have T1 := T1_; clear T1_
  have HS0 : Aside0 (Stk w [] w) := ⟨Stk.nil w⟩
  go_enter Try.func152, Try.ntmps152
  refine reg (aF := ?_) (nw := ?_) [evB 0 4 [] 48 (fun s => #[.int .i64 a0_0, .int .i64 a0_1, .int .i64 a0_2, .int .i64 a0_3]) 9999 [] (fun s => #[.int .i64 a0_0, .int .i64 a0_1, .int .i64 a0_2, .int .i64 a0_3]), evB 1 6 [] 48 (fun s => #[.int .i64 0, .int .i64 0, .int .i64 0, .int .i64 0]) 9999 [] (fun s => #[.int .i64 0, .int .i64 0, .int .i64 0, .int .i64 0]), evP 2 7 [] (fun s => .bool false)] [] [] false 3 rfl rfl (by kernel_rfl) rfl (mf0) ?aF ?nw HS0.out ?hs ?_
  rotate_left 2
  case aF => intro s; simp only [putE, EvT.val, Act.put, setIfInBounds_toArray, set_cons_zero, set_cons_succ]; rfl
  case nw => intro s; simp only [thA, bsA, List.nil_append, List.cons_append, List.append_nil, if_true, if_false, Nat.reduceLT, set_cons_zero, set_cons_succ]; rfl
  case hs => exact ⟨bv rfl (fun s w => by go_simp; try rfl), bv rfl (fun s w => by go_simp; try rfl), pu rfl, trivial⟩
  intro s1 w1 h; have HS1 := Aside0.mk h; clear h HS0
  refine tl0 ?_
  refine reg0 (aF := ?_) [evP 0 11 [] (fun s => .pointer (some ⟨(s1 0).lo, 1, none⟩)), evR 1 12 0 (fun s => .int .i64 a0_1), evP 2 13 [] (fun s => .pointer (some ⟨(s1 0).lo, 2, none⟩)), evR 3 14 0 (fun s => .int .i64 a0_2), evP 4 15 [] (fun s => .int .i64 (a0_1 + a0_2)), evP 5 16 [] (fun s => .pointer (some ⟨(s1 0).lo, 2, none⟩)), evR 6 17 0 (fun s => .int .i64 a0_2), evP 7 18 [] (fun s => .slice A1_0 l1_0.length c1_0), evP 8 19 [] (fun s => .int .i64 (l1_0.length : Int)), evP 9 20 [] (fun s => .int .i64 (a0_2 + (l1_0.length : Int))), evP 10 8 [] (fun s => .int .i64 (a0_1 + a0_2))] [11] true 12 rfl rfl (by kernel_rfl) rfl (fun _ => rfl) ?aF HS1.out ?hs ?_
  rotate_left 1
  case aF => intro s; simp only [putE, EvT.val, Act.put, setIfInBounds_toArray, set_cons_zero, set_cons_succ]; rfl
  case hs => exact ⟨pu rfl (hr := fun s w => by go_simp; try rfl), lr rfl 0 rfl (fun s w h => by have h0 := h 0 _ rfl; have h1 := h 1 _ rfl; have h2 := h 2 _ rfl; have h3 := h 3 _ rfl; clear h; go_simp; try rfl), pu rfl (hr := fun s w => by go_simp; try rfl), lr rfl 0 rfl (fun s w h => by have h0 := h 0 _ rfl; have h1 := h 1 _ rfl; have h2 := h 2 _ rfl; have h3 := h 3 _ rfl; clear h; go_simp; try rfl), pa .add (r := a0_1 + a0_2) (.inl ⟨rfl, (i64_ok (n := a0_1 + a0_2) (by omega) (by omega))⟩) rfl, pu rfl (hr := fun s w => by go_simp; try rfl), lr rfl 0 rfl (fun s w h => by have h0 := h 0 _ rfl; have h1 := h 1 _ rfl; have h2 := h 2 _ rfl; have h3 := h 3 _ rfl; clear h; go_simp; try rfl), pu rfl, pu rfl (hr := fun s w => by go_simp; try rfl), pa .add (r := a0_2 + (l1_0.length : Int)) (.inl ⟨rfl, (i64_ok (n := a0_2 + (l1_0.length : Int)) (by omega) (by omega))⟩) rfl, pu rfl, trivial⟩
  intro s2 w2 h; have HS2 := Aside0.mk h; clear h HS1
  refine tlP (v := .int .i64 (a0_2 + (l1_0.length : Int))) 9 rfl ?_
  simp only [Act.put, setIfInBounds_toArray, set_cons_zero, set_cons_succ]
  refine tl0 ?_
  refine wp_seq ?_
  refine reg0 (aF := ?_) [evP 0 21 [] (fun s => .int .i64 (a0_2 + (l1_0.length : Int))), evP 1 22 [] (fun s => .pointer (some ⟨(s1 0).lo, 3, none⟩)), evL 2 23 [] (fun s => .int .i64 a0_3), evP 3 24 [] (fun s => .bool false)] [] false 4 rfl rfl (by kernel_rfl) rfl (fun _ => rfl) ?aF HS2.out ?hs ?_
  rotate_left 1
  case aF => intro s; simp only [putE, EvT.val, Act.put, setIfInBounds_toArray, set_cons_zero, set_cons_succ]; rfl
  case hs => exact ⟨pu rfl, pu rfl (hr := fun s w => by go_simp; try rfl), ld rfl 0 (fun s => rfl) (fun s w h => by have h0 := h 0 _ rfl; have h1 := h 1 _ rfl; have h2 := h 2 _ rfl; have h3 := h 3 _ rfl; clear h; go_simp; try rfl), pb (q := .leq) T0.out rfl, trivial⟩
  intro s3 w3 h; have HS3 := Aside0.mk h; clear h HS2
  refine tl0 ?_
  refine wp_cond_false rfl ?_
  refine wp_skip ?_
  refine thN ?_
  refine wp_seq ?_
  refine reg0 (aF := ?_) [evP 0 45 [] (fun s => .int .i64 (a0_2 + (l1_0.length : Int))), evP 1 46 [] (fun s => .bool true), evP 2 47 [] (fun s => .bool true), evP 3 48 [] (fun s => undef), evP 4 49 [] (fun s => undef), evP 5 50 [] (fun s => undef), evP 6 51 [] (fun s => undef), evP 7 52 [] (fun s => undef), evP 8 53 [] (fun s => undef), evP 9 54 [] (fun s => .bool true)] [] false 10 rfl rfl (by kernel_rfl) rfl (fun _ => rfl) ?aF HS3.out ?hs ?_
  rotate_left 1
  case aF => intro s; simp only [putE, EvT.val, Act.put, setIfInBounds_toArray, set_cons_zero, set_cons_succ]; rfl
  case hs => exact ⟨pu rfl, pb (q := .gtr) T1.out rfl, pu rfl, pf rfl, pf rfl, pf rfl, pf rfl, pf rfl, pf rfl, pu rfl, trivial⟩
  intro s4 w4 h; have HS4 := Aside0.mk h; clear h HS3
  refine tl0 ?_
  refine wp_cond_true rfl ?_
  refine reg (aF := ?_) (nw := ?_) [evP 0 55 [] (fun s => .agg #[.int .i64 0, .int .i64 0, .int .i64 0, .int .i64 0]), evS 1] [2] [⟨1, 1, [], fun s => boxT (s1 1).lo #[.int .i64 0, .int .i64 0, .int .i64 0, .int .i64 0] 48⟩] false 3 rfl rfl (by kernel_rfl) rfl ((mf1 mf0)) ?aF ?nw HS4.out ?hs ?_
  rotate_left 2
  case aF => intro s; simp only [putE, EvT.val, Act.put, setIfInBounds_toArray, set_cons_zero, set_cons_succ]; rfl
  case nw => intro s; simp only [thA, bsA, List.nil_append, List.cons_append, List.append_nil, if_true, if_false, Nat.reduceLT, set_cons_zero, set_cons_succ]; rfl
  case hs => exact ⟨pu rfl (hr := fun s w => by go_simp; try rfl), sb rfl 0 1 0 (fun s => [.int .i64 0, .int .i64 0, .int .i64 0, .int .i64 0]) rfl rfl (fun s w h hf => by have h0 := h 0 _ rfl; have f0 := hf 0; have h1 := h 1 _ rfl; have f1 := hf 1; have h2 := h 2 _ rfl; have f2 := hf 2; have h3 := h 3 _ rfl; have f3 := hf 3; clear h hf; go_simp; try rfl), trivial⟩
  intro s5 w5 h; have HS5 := Aside0.mk h; clear h HS4
  refine tlP (v := .bool false) 7 rfl ?_
  simp only [Act.put, setIfInBounds_toArray, set_cons_zero, set_cons_succ]
  refine tl0 ?_
  refine wp_ret ?_
  try simp only [Exit.inBlock, Exit.then]
  refine bodyPost_ret (results_list (rs := [.cell 6 48, .tmp 7]) rfl (by simp) (.cell (s1 1).lo 48 #[.int .i64 0, .int .i64 0, .int .i64 0, .int .i64 0] (0, 0) _ rfl (show bx (s1 1).lo #[.int .i64 0, .int .i64 0, .int .i64 0, .int .i64 0] 48 _ from HS5.out.get 1 rfl) Try.underlying48 rfl (by kernel_rfl) (.tmp .nil))) rfl ?_
  exact ⟨by first | rfl | simp, HS5.out.hb⟩
set_option maxHeartbeats 8000000 in
set_option maxRecDepth 100000 in
theorem impl_Memory_appendedG_w2 (a0_0 : Int) (a0_1 : Int) (a0_2 : Int) (a0_3 : Int) (A1_0 : Option Addr) (c1_0 : Nat) (l1_0 : List Int) (bp0 g0 gr cap mc : Nat) (cur : Array Value) (mp : List (List Int)) (row : List Int) (y0 : Int) (y1 : Int) (y2 : Int) (y3 : Int) (y4 : Int) (y5 : Int) (w : World) (hr1_0 : Kd.C (Kd.int .u8) w A1_0 l1_0.length l1_0) (hc1_0 : l1_0.length ≤ c1_0) (hbxbp0 : bx bp0 #[.slice (some ⟨g0, 0, none⟩) mp.length mc, .int .i64 y0, .int .i64 y1, .int .i64 y2, .int .i64 y3, .int .i64 y4, .int .i64 y5] 69 w) (hnebp0 : bp0 ≠ gr) (hcell : w.cell? ⟨g0, a0_0.toNat, none⟩ = some (.slice (some ⟨gr, 0, none⟩) row.length cap)) (hrow : w.heap[gr]? = some (.cells cur 5 (0, 0))) (hle : row.length ≤ cap) (hcs : cur.size = cap) (htk : cur.toList.take row.length = row.map (fun x => Value.int .u8 x)) (T0 : (decide (a0_2 + (l1_0.length : Int) ≤ a0_3)) = false) (T1 : (decide (a0_2 + (l1_0.length : Int) > 64)) = false) (T2 : ((mp.length : Int) == 16) = true) (F0 : 0 ≤ a0_0) (F1 : a0_0 < (mp.length : Int)) (F2 : 0 ≤ a0_1) (F3 : 0 ≤ a0_2) (F4 : a0_2 ≤ a0_3) (F5 : a0_3 ≤ 64) (F6 : a0_1 + a0_3 ≤ (row.length : Int)) (F7 : row.length ≤ 64) (F8 : mp.length ≤ 16) (F9 : l1_0.length ≤ 1048576) :
    Calls Try.prog 152 #[.pointer (some ⟨bp0, 0, none⟩), .agg #[.int .i64 a0_0, .int .i64 a0_1, .int .i64 a0_2, .int .i64 a0_3], .slice A1_0 l1_0.length c1_0] w fun e w' => e = .returned (.tuple #[.agg #[.int .i64 0, .int .i64 0, .int .i64 0, .int .i64 0], .bool false]) ∧ Below w.heap.size w w' := by
  have HR1_0 := Aside0.mk hr1_0; have HC1_0 := Aside0.mk hc1_0; clear hr1_0 hc1_0
  have HXbp0 := Aside0.mk hbxbp0; have HNEbp0 := Aside0.mk hnebp0; have HCELL := Aside0.mk hcell; have HROW := Aside0.mk hrow; have HTK := Aside0.mk htk; clear hbxbp0 hnebp0 hcell hrow htk
  have Hbp0 := Aside0.mk (fun j u (hj : (#[.slice (some ⟨g0, 0, none⟩) mp.length mc, .int .i64 y0, .int .i64 y1, .int .i64 y2, .int .i64 y3, .int .i64 y4, .int .i64 y5] : Array Value)[j]? = some u) => (blk_cell HXbp0.out j).trans hj)
  have T0_ := Aside0.mk T0; clear T0; have T0 := T0_; clear T0_
  have T1_ := Aside0.mk T1; clear T1; have T1 := T1_; clear T1_
  have T2_ := Aside0.mk T2; clear T2; have T2 := T2_; clear T2_
  have HS0 : Aside0 (Stk w [] w) := ⟨Stk.nil w⟩
  go_enter Try.func152, Try.ntmps152
  refine reg (aF := ?_) (nw := ?_) [evB 0 4 [] 48 (fun s => #[.int .i64 a0_0, .int .i64 a0_1, .int .i64 a0_2, .int .i64 a0_3]) 9999 [] (fun s => #[.int .i64 a0_0, .int .i64 a0_1, .int .i64 a0_2, .int .i64 a0_3]), evB 1 6 [] 48 (fun s => #[.int .i64 0, .int .i64 0, .int .i64 0, .int .i64 0]) 9999 [] (fun s => #[.int .i64 0, .int .i64 0, .int .i64 0, .int .i64 0]), evP 2 7 [] (fun s => .bool false)] [] [] false 3 rfl rfl (by kernel_rfl) rfl (mf0) ?aF ?nw HS0.out ?hs ?_
  rotate_left 2
  case aF => intro s; simp only [putE, EvT.val, Act.put, setIfInBounds_toArray, set_cons_zero, set_cons_succ]; rfl
  case nw => intro s; simp only [thA, bsA, List.nil_append, List.cons_append, List.append_nil, if_true, if_false, Nat.reduceLT, set_cons_zero, set_cons_succ]; rfl
  case hs => exact ⟨bv rfl (fun s w => by go_simp; try rfl), bv rfl (fun s w => by go_simp; try rfl), pu rfl, trivial⟩
  intro s1 w1 h; have HS1 := Aside0.mk h; clear h HS0
  refine tl0 ?_
  refine reg0 (aF := ?_) [evP 0 11 [] (fun s => .pointer (some ⟨(s1 0).lo, 1, none⟩)), evR 1 12 0 (fun s => .int .i64 a0_1), evP 2 13 [] (fun s => .pointer (some ⟨(s1 0).lo, 2, none⟩)), evR 3 14 0 (fun s => .int .i64 a0_2), evP 4 15 [] (fun s => .int .i64 (a0_1 + a0_2)), evP 5 16 [] (fun s => .pointer (some ⟨(s1 0).lo, 2, none⟩)), evR 6 17 0 (fun s => .int .i64 a0_2), evP 7 18 [] (fun s => .slice A1_0 l1_0.length c1_0), evP 8 19 [] (fun s => .int .i64 (l1_0.length : Int)), evP 9 20 [] (fun s => .int .i64 (a0_2 + (l1_0.length : Int))), evP 10 8 [] (fun s => .int .i64 (a0_1 + a0_2))] [11] true 12 rfl rfl (by kernel_rfl) rfl (fun _ => rfl) ?aF HS1.out ?hs ?_
  rotate_left 1
  case aF => intro s; simp only [putE, EvT.val, Act.put, setIfInBounds_toArray, set_cons_zero, set_cons_succ]; rfl
  case hs => exact ⟨pu rfl (hr := fun s w => by go_simp; try rfl), lr rfl 0 rfl (fun s w h => by have h0 := h 0 _ rfl; have h1 := h 1 _ rfl; have h2 := h 2 _ rfl; have h3 := h 3 _ rfl; clear h; go_simp; try rfl), pu rfl (hr := fun s w => by go_simp; try rfl), lr rfl 0 rfl (fun s w h => by have h0 := h 0 _ rfl; have h1 := h 1 _ rfl; have h2 := h 2 _ rfl; have h3 := h 3 _ rfl; clear h; go_simp; try rfl), pa .add (r := a0_1 + a0_2) (.inl ⟨rfl, (i64_ok (n := a0_1 + a0_2) (by omega) (by omega))⟩) rfl, pu rfl (hr := fun s w => by go_simp; try rfl), lr rfl 0 rfl (fun s w h => by have h0 := h 0 _ rfl; have h1 := h 1 _ rfl; have h2 := h 2 _ rfl; have h3 := h 3 _ rfl; clear h; go_simp; try rfl), pu rfl, pu rfl (hr := fun s w => by go_simp; try rfl), pa .add (r := a0_2 + (l1_0.length : Int)) (.inl ⟨rfl, (i64_ok (n := a0_2 + (l1_0.length : Int)) (by omega) (by omega))⟩) rfl, pu rfl, trivial⟩
  intro s2 w2 h; have HS2 := Aside0.mk h; clear h HS1
  refine tlP (v := .int .i64 (a0_2 + (l1_0.length : Int))) 9 rfl ?_
  simp only [Act.put, setIfInBounds_toArray, set_cons_zero, set_cons_succ]
  refine tl0 ?_
  refine wp_seq ?_
  refine reg0 (aF := ?_) [evP 0 21 [] (fun s => .int .i64 (a0_2 + (l1_0.length : Int))), evP 1 22 [] (fun s => .pointer (some ⟨(s1 0).lo, 3, none⟩)), evL 2 23 [] (fun s => .int .i64 a0_3), evP 3 24 [] (fun s => .bool false)] [] false 4 rfl rfl (by kernel_rfl) rfl (fun _ => rfl) ?aF HS2.out ?hs ?_
  rotate_left 1
  case aF => intro s; simp only [putE, EvT.val, Act.put, setIfInBounds_toArray, set_cons_zero, set_cons_succ]; rfl
  case hs => exact ⟨pu rfl, pu rfl (hr := fun s w => by go_simp; try rfl), ld rfl 0 (fun s => rfl) (fun s w h => by have h0 := h 0 _ rfl; have h1 := h 1 _ rfl; have h2 := h 2 _ rfl; have h3 := h 3 _ rfl; clear h; go_simp; try rfl), pb (q := .leq) T0.out rfl, trivial⟩
  intro s3 w3 h; have HS3 := Aside0.mk h; clear h HS2
  refine tl0 ?_
  refine wp_cond_false rfl ?_
  refine wp_skip ?_
  refine thN ?_
  refine wp_seq ?_
  refine reg0 (aF := ?_) [evP 0 45 [] (fun s => .int .i64 (a0_2 + (l1_0.length : Int))), evP 1 46 [] (fun s => .bool false), evP 2 47 [] (fun s => .bool false), evP 3 48 [] (fun s => .pointer (some ⟨bp0, 0, none⟩)), evP 4 49 [] (fun s => .pointer (some ⟨bp0, 0, none⟩)), evP 5 50 [] (fun s => .pointer (some ⟨bp0, 0, none⟩)), evL 6 51 [] (fun s => .slice (some ⟨g0, 0, none⟩) mp.length mc), evP 7 52 [] (fun s => .int .i64 (mp.length : Int)), evP 8 53 [] (fun s => .bool true), evP 9 54 [] (fun s => .bool true)] [] false 10 rfl rfl (by kernel_rfl) rfl (fun _ => rfl) ?aF HS3.out ?hs ?_
  rotate_left 1
  case aF => intro s; simp only [putE, EvT.val, Act.put, setIfInBounds_toArray, set_cons_zero, set_cons_succ]; rfl
  case hs => exact ⟨pu rfl, pb (q := .gtr) T1.out rfl, pu rfl, pu rfl, pu rfl (hr := fun s w => by go_simp; try rfl), pu rfl (hr := fun s w => by go_simp; try rfl), lo rfl Hbp0.out (fun s w h => by have h0 := h 0 _ rfl; have h1 := h 1 _ rfl; have h2 := h 2 _ rfl; have h3 := h 3 _ rfl; have h4 := h 4 _ rfl; have h5 := h 5 _ rfl; have h6 := h 6 _ rfl; clear h; go_simp; try rfl), pu rfl (hr := fun s w => by go_simp; try rfl), pb (q := .eql) T2.out rfl, pu rfl, trivial⟩
  intro s4 w4 h; have HS4 := Aside0.mk h; clear h HS3
  refine tl0 ?_
  refine wp_cond_true rfl ?_
  refine reg (aF := ?_) (nw := ?_) [evP 0 55 [] (fun s => .agg #[.int .i64 0, .int .i64 0, .int .i64 0, .int .i64 0]), evS 1] [2] [⟨1, 1, [], fun s => boxT (s1 1).lo #[.int .i64 0, .int .i64 0, .int .i64 0, .int .i64 0] 48⟩] false 3 rfl rfl (by kernel_rfl) rfl ((mf1 mf0)) ?aF ?nw HS4.out ?hs ?_
  rotate_left 2
  case aF => intro s; simp only [putE, EvT.val, Act.put, setIfInBounds_toArray, set_cons_zero, set_cons_succ]; rfl
  case nw => intro s; simp only [thA, bsA, List.nil_append, List.cons_append, List.append_nil, if_true, if_false, Nat.reduceLT, set_cons_zero, set_cons_succ]; rfl
  case hs => exact ⟨pu rfl (hr := fun s w => by go_simp; try rfl), sb rfl 0 1 0 (fun s => [.int .i64 0, .int .i64 0, .int .i64 0, .int .i64 0]) rfl rfl (fun s w h hf => by have h0 := h 0 _ rfl; have f0 := hf 0; have h1 := h 1 _ rfl; have f1 := hf 1; have h2 := h 2 _ rfl; have f2 := hf 2; have h3 := h 3 _ rfl; have f3 := hf 3; clear h hf; go_simp; try rfl), trivial⟩
  intro s5 w5 h; have HS5 := Aside0.mk h; clear h HS4
  refine tlP (v := .bool false) 7 rfl ?_
  simp only [Act.put, setIfInBounds_toArray, set_cons_zero, set_cons_succ]
  refine tl0 ?_
  refine wp_ret ?_
  try simp only [Exit.inBlock, Exit.then]
  refine bodyPost_ret (results_list (rs := [.cell 6 48, .tmp 7]) rfl (by simp) (.cell (s1 1).lo 48 #[.int .i64 0, .int .i64 0, .int .i64 0, .int .i64 0] (0, 0) _ rfl (show bx (s1 1).lo #[.int .i64 0, .int .i64 0, .int .i64 0, .int .i64 0] 48 _ from HS5.out.get 1 rfl) Try.underlying48 rfl (by kernel_rfl) (.tmp .nil))) rfl ?_
  exact ⟨by first | rfl | simp, HS5.out.hb⟩
set_option maxHeartbeats 8000000 in
set_option maxRecDepth 100000 in
theorem impl_Memory_appendedG_w3 (a0_0 : Int) (a0_1 : Int) (a0_2 : Int) (a0_3 : Int) (A1_0 : Option Addr) (c1_0 : Nat) (l1_0 : List Int) (bp0 g0 gr cap mc : Nat) (cur : Array Value) (mp : List (List Int)) (row : List Int) (y0 : Int) (y1 : Int) (y2 : Int) (y3 : Int) (y4 : Int) (y5 : Int) (w : World) (hr1_0 : Kd.C (Kd.int .u8) w A1_0 l1_0.length l1_0) (hc1_0 : l1_0.length ≤ c1_0) (hbxbp0 : bx bp0 #[.slice (some ⟨g0, 0, none⟩) mp.length mc, .int .i64 y0, .int .i64 y1, .int .i64 y2, .int .i64 y3, .int .i64 y4, .int .i64 y5] 69 w) (hnebp0 : bp0 ≠ gr) (hcell : w.cell? ⟨g0, a0_0.toNat, none⟩ = some (.slice (some ⟨gr, 0, none⟩) row.length cap)) (hrow : w.heap[gr]? = some (.cells cur 5 (0, 0))) (hle : row.length ≤ cap) (hcs : cur.size = cap) (htk : cur.toList.take row.length = row.map (fun x => Value.int .u8 x)) (T0 : (decide (a0_2 + (l1_0.length : Int) ≤ a0_3)) = false) (T1 : (decide (a0_2 + (l1_0.length : Int) > 64)) = false) (T2 : ((mp.length : Int) == 16) = false) (base : Nat) (ok : Nat → Prop) (hS0 : Kd.S (Kd.slice 5 (Kd.int .u8)) 119 w base ok (.slice (some ⟨g0, 0, none⟩) mp.length mc) mp) (hok0 : ∀ k, ok k → k ≠ bp0) (hbase0 : base ≤ w.heap.size) (F0 : 0 ≤ a0_0) (F1 : a0_0 < (mp.length : Int)) (F2 : 0 ≤ a0_1) (F3 : 0 ≤ a0_2) (F4 : a0_2 ≤ a0_3) (F5 : a0_3 ≤ 64) (F6 : a0_1 + a0_3 ≤ (row.length : Int)) (F7 : row.length ≤ 64) (F8 : mp.length ≤ 16) (F9 : l1_0.length ≤ 1048576) :
    Calls Try.prog 152 #[.pointer (some ⟨bp0, 0, none⟩), .agg #[.int .i64 a0_0, .int .i64 a0_1, .int .i64 a0_2, .int .i64 a0_3], .slice A1_0 l1_0.length c1_0] w fun e w' => e = .returned (.tuple #[.agg #[.int .i64 mp.length, .int .i64 0, .int .i64 (a0_2 + (l1_0.length : Int)), .int .i64 ((mn 64 (mx (2 * a0_3) (a0_2 + (l1_0.length : Int)))).toNat : Int)], .bool true]) ∧ (w'.os = w.os ∧ w'.tape = w.tape ∧ w'.output = w.output) ∧ Kept w w' (fun k => ok k ∨ k = bp0) ∧ ∃ A2 c2, bx bp0 #[.slice A2 (mp.length + 1) c2, .int .i64 y0, .int .i64 y1, .int .i64 y2, .int .i64 y3, .int .i64 y4, .int .i64 y5] 69 w' ∧ Kd.S (Kd.slice 5 (Kd.int .u8)) 119 w' base (fun k => ok k ∨ w.heap.size ≤ k) (.slice A2 (mp.length + 1) c2) (mp ++ [spl (spl (List.replicate ((mn 64 (mx (2 * a0_3) (a0_2 + (l1_0.length : Int)))).toNat) (0 : Int)) 0 (((row.drop a0_1.toNat).take a0_2.toNat).take ((mn 64 (mx (2 * a0_3) (a0_2 + (l1_0.length : Int)))).toNat))) (0 + a0_2.toNat) (l1_0.take (((mn 64 (mx (2 * a0_3) (a0_2 + (l1_0.length : Int)))).toNat) - a0_2.toNat))]) := by
  have hN : a0_2 + (l1_0.length : Int) ≤ mn 64 (mx (2 * a0_3) (a0_2 + (l1_0.length : Int))) ∧ mn 64 (mx (2 * a0_3) (a0_2 + (l1_0.length : Int))) ≤ 64 := by simp only [decide_eq_false_iff_not] at T1; unfold mn mx; split <;> split <;> omega
  have HSM := Aside0.mk hS0; have HOK := Aside0.mk hok0; clear hS0 hok0
  have HR1_0 := Aside0.mk hr1_0; have HC1_0 := Aside0.mk hc1_0; clear hr1_0 hc1_0
  have HXbp0 := Aside0.mk hbxbp0; have HNEbp0 := Aside0.mk hnebp0; have HCELL := Aside0.mk hcell; have HROW := Aside0.mk hrow; have HTK := Aside0.mk htk; clear hbxbp0 hnebp0 hcell hrow htk
  have Hbp0 := Aside0.mk (fun j u (hj : (#[.slice (some ⟨g0, 0, none⟩) mp.length mc, .int .i64 y0, .int .i64 y1, .int .i64 y2, .int .i64 y3, .int .i64 y4, .int .i64 y5] : Array Value)[j]? = some u) => (blk_cell HXbp0.out j).trans hj)
  have T0_ := Aside0.mk T0; clear T0; have T0 := T0_; clear T0_
  have T1_ := Aside0.mk T1; clear T1; have T1 := T1_; clear T1_
  have T2_ := Aside0.mk T2; clear T2; have T2 := T2_; clear T2_
  have HS0 : Aside0 (Stk w [] w) := ⟨Stk.nil w⟩
  go_enter Try.func152, Try.ntmps152
  refine reg (aF := ?_) (nw := ?_) [evB 0 4 [] 48 (fun s => #[.int .i64 a0_0, .int .i64 a0_1, .int .i64 a0_2, .int .i64 a0_3]) 9999 [] (fun s => #[.int .i64 a0_0, .int .i64 a0_1, .int .i64 a0_2, .int .i64 a0_3]), evB 1 6 [] 48 (fun s => #[.int .i64 0, .int .i64 0, .int .i64 0, .int .i64 0]) 9999 [] (fun s => #[.int .i64 0, .int .i64 0, .int .i64 0, .int .i64 0]), evP 2 7 [] (fun s => .bool false)] [] [] false 3 rfl rfl (by kernel_rfl) rfl (mf0) ?aF ?nw HS0.out ?hs ?_
  rotate_left 2
  case aF => intro s; simp only [putE, EvT.val, Act.put, setIfInBounds_toArray, set_cons_zero, set_cons_succ]; rfl
  case nw => intro s; simp only [thA, bsA, List.nil_append, List.cons_append, List.append_nil, if_true, if_false, Nat.reduceLT, set_cons_zero, set_cons_succ]; rfl
  case hs => exact ⟨bv rfl (fun s w => by go_simp; try rfl), bv rfl (fun s w => by go_simp; try rfl), pu rfl, trivial⟩
  intro s1 w1 h; have HS1 := Aside0.mk h; clear h HS0
  refine tl0 ?_
  refine reg0 (aF := ?_) [evP 0 11 [] (fun s => .pointer (some ⟨(s1 0).lo, 1, none⟩)), evR 1 12 0 (fun s => .int .i64 a0_1), evP 2 13 [] (fun s => .pointer (some ⟨(s1 0).lo, 2, none⟩)), evR 3 14 0 (fun s => .int .i64 a0_2), evP 4 15 [] (fun s => .int .i64 (a0_1 + a0_2)), evP 5 16 [] (fun s => .pointer (some ⟨(s1 0).lo, 2, none⟩)), evR 6 17 0 (fun s => .int .i64 a0_2), evP 7 18 [] (fun s => .slice A1_0 l1_0.length c1_0), evP 8 19 [] (fun s => .int .i64 (l1_0.length : Int)), evP 9 20 [] (fun s => .int .i64 (a0_2 + (l1_0.length : Int))), evP 10 8 [] (fun s => .int .i64 (a0_1 + a0_2))] [11] true 12 rfl rfl (by kernel_rfl) rfl (fun _ => rfl) ?aF HS1.out ?hs ?_
  rotate_left 1
  case aF => intro s; simp only [putE, EvT.val, Act.put, setIfInBounds_toArray, set_cons_zero, set_cons_succ]; rfl
  case hs => exact ⟨pu rfl (hr := fun s w => by go_simp; try rfl), lr rfl 0 rfl (fun s w h => by have h0 := h 0 _ rfl; have h1 := h 1 _ rfl; have h2 := h 2 _ rfl; have h3 := h 3 _ rfl; clear h; go_simp; try rfl), pu rfl (hr := fun s w => by go_simp; try rfl), lr rfl 0 rfl (fun s w h => by have h0 := h 0 _ rfl; have h1 := h 1 _ rfl; have h2 := h 2 _ rfl; have h3 := h 3 _ rfl; clear h; go_simp; try rfl), pa .add (r := a0_1 + a0_2) (.inl ⟨rfl, (i64_ok (n := a0_1 + a0_2) (by omega) (by omega))⟩) rfl, pu rfl (hr := fun s w => by go_simp; try rfl), lr rfl 0 rfl (fun s w h => by have h0 := h 0 _ rfl; have h1 := h 1 _ rfl; have h2 := h 2 _ rfl; have h3 := h 3 _ rfl; clear h; go_simp; try rfl), pu rfl, pu rfl (hr := fun s w => by go_simp; try rfl), pa .add (r := a0_2 + (l1_0.length : Int)) (.inl ⟨rfl, (i64_ok (n := a0_2 + (l1_0.length : Int)) (by omega) (by omega))⟩) rfl, pu rfl, trivial⟩
  intro s2 w2 h; have HS2 := Aside0.mk h; clear h HS1
  refine tlP (v := .int .i64 (a0_2 + (l1_0.length : Int))) 9 rfl ?_
  simp only [Act.put, setIfInBounds_toArray, set_cons_zero, set_cons_succ]
  refine tl0 ?_
  refine wp_seq ?_
  refine reg0 (aF := ?_) [evP 0 21 [] (fun s => .int .i64 (a0_2 + (l1_0.length : Int))), evP 1 22 [] (fun s => .pointer (some ⟨(s1 0).lo, 3, none⟩)), evL 2 23 [] (fun s => .int .i64 a0_3), evP 3 24 [] (fun s => .bool false)] [] false 4 rfl rfl (by kernel_rfl) rfl (fun _ => rfl) ?aF HS2.out ?hs ?_
  rotate_left 1
  case aF => intro s; simp only [putE, EvT.val, Act.put, setIfInBounds_toArray, set_cons_zero, set_cons_succ]; rfl
  case hs => exact ⟨pu rfl, pu rfl (hr := fun s w => by go_simp; try rfl), ld rfl 0 (fun s => rfl) (fun s w h => by have h0 := h 0 _ rfl; have h1 := h 1 _ rfl; have h2 := h 2 _ rfl; have h3 := h 3 _ rfl; clear h; go_simp; try rfl), pb (q := .leq) T0.out rfl, trivial⟩
  intro s3 w3 h; have HS3 := Aside0.mk h; clear h HS2
  refine tl0 ?_
  refine wp_cond_false rfl ?_
  refine wp_skip ?_
  refine thN ?_
  refine wp_seq ?_
  refine reg0 (aF := ?_) [evP 0 45 [] (fun s => .int .i64 (a0_2 + (l1_0.length : Int))), evP 1 46 [] (fun s => .bool false), evP 2 47 [] (fun s => .bool false), evP 3 48 [] (fun s => .pointer (some ⟨bp0, 0, none⟩)), evP 4 49 [] (fun s => .pointer (some ⟨bp0, 0, none⟩)), evP 5 50 [] (fun s => .pointer (some ⟨bp0, 0, none⟩)), evL 6 51 [] (fun s => .slice (some ⟨g0, 0, none⟩) mp.length mc), evP 7 52 [] (fun s => .int .i64 (mp.length : Int)), evP 8 53 [] (fun s => .bool false), evP 9 54 [] (fun s => .bool false)] [] false 10 rfl rfl (by kernel_rfl) rfl (fun _ => rfl) ?aF HS3.out ?hs ?_
  rotate_left 1
  case aF => intro s; simp only [putE, EvT.val, Act.put, setIfInBounds_toArray, set_cons_zero, set_cons_succ]; rfl
  case hs => exact ⟨pu rfl, pb (q := .gtr) T1.out rfl, pu rfl, pu rfl, pu rfl (hr := fun s w => by go_simp; try rfl), pu rfl (hr := fun s w => by go_simp; try rfl), lo rfl Hbp0.out (fun s w h => by have h0 := h 0 _ rfl; have h1 := h 1 _ rfl; have h2 := h 2 _ rfl; have h3 := h 3 _ rfl; have h4 := h 4 _ rfl; have h5 := h 5 _ rfl; have h6 := h 6 _ rfl; clear h; go_simp; try rfl), pu rfl (hr := fun s w => by go_simp; try rfl), pb (q := .eql) T2.out rfl, pu rfl, trivial⟩
  intro s4 w4 h; have HS4 := Aside0.mk h; clear h HS3
  refine tl0 ?_
  refine wp_cond_false rfl ?_
  refine wp_skip ?_
  refine thN ?_
  refine reg (aF := ?_) (nw := ?_) [evP 0 56 [] (fun s => .pointer (some ⟨(s1 0).lo, 3, none⟩)), evL 1 57 [] (fun s => .int .i64 a0_3), evP 2 58 [] (fun s => .int .i64 (2 * a0_3)), evP 3 59 [] (fun s => .int .i64 (a0_2 + (l1_0.length : Int))), evP 4 60 [] (fun s => .int .i64 (mx (2 * a0_3) (a0_2 + (l1_0.length : Int)))), evP 5 61 [] (fun s => .int .i64 (mn 64 (mx (2 * a0_3) (a0_2 + (l1_0.length : Int))))), evC 6 (some 62) [] (fun s x => .slice (some ⟨x.lo, 0, none⟩) ((mn 64 (mx (2 * a0_3) (a0_2 + (l1_0.length : Int)))).toNat) ((mn 64 (mx (2 * a0_3) (a0_2 + (l1_0.length : Int)))).toNat)) (fun s x => [boxT x.lo (madeCells #[Value.int .u8 0] (mn 64 (mx (2 * a0_3) (a0_2 + (l1_0.length : Int)))).toNat) 5])] [7] [] false 8 rfl rfl (by kernel_rfl) rfl (mf0) ?aF ?nw HS4.out ?hs ?_
  rotate_left 2
  case aF => intro s; simp only [putE, EvT.val, Act.put, setIfInBounds_toArray, set_cons_zero, set_cons_succ]; rfl
  case nw => intro s; simp only [thA, bsA, List.nil_append, List.cons_append, List.append_nil, if_true, if_false, Nat.reduceLT, set_cons_zero, set_cons_succ]; rfl
  case hs => exact ⟨pu rfl (hr := fun s w => by go_simp; try rfl), ld rfl 0 (fun s => rfl) (fun s w h => by have h0 := h 0 _ rfl; have h1 := h 1 _ rfl; have h2 := h 2 _ rfl; have h3 := h 3 _ rfl; clear h; go_simp; try rfl), pa .mul (r := 2 * a0_3) (.inr (.inr ⟨rfl, (i64_ok (n := 2 * a0_3) (by omega) (by omega))⟩)) rfl, pu rfl, pu rfl (hr := fun s w => by go_simp; try rfl), pu rfl (hr := fun s w => by go_simp; try rfl), mkb rfl (mn 64 (mx (2 * a0_3) (a0_2 + (l1_0.length : Int)))) (by omega) (by omega), trivial⟩
  intro s5 w5 h; have HS5 := Aside0.mk h; clear h HS4
  refine tlP (v := .slice (some ⟨(s5 6).lo, 0, none⟩) ((mn 64 (mx (2 * a0_3) (a0_2 + (l1_0.length : Int)))).toNat) ((mn 64 (mx (2 * a0_3) (a0_2 + (l1_0.length : Int)))).toNat)) 10 rfl ?_
  simp only [Act.put, setIfInBounds_toArray, set_cons_zero, set_cons_succ]
  refine tl0 ?_
  have hrl : (List.replicate ((mn 64 (mx (2 * a0_3) (a0_2 + (l1_0.length : Int)))).toNat) (0 : Int)).length = (mn 64 (mx (2 * a0_3) (a0_2 + (l1_0.length : Int)))).toNat := by simp
  have HBS : (List.replicate ((mn 64 (mx (2 * a0_3) (a0_2 + (l1_0.length : Int)))).toNat) (0 : Int)).length ≤ (madeCells #[Value.int .u8 0] ((mn 64 (mx (2 * a0_3) (a0_2 + (l1_0.length : Int)))).toNat)).size := by simp [size_madeCells]
  have HBT := Aside0.mk (made_take ((mn 64 (mx (2 * a0_3) (a0_2 + (l1_0.length : Int)))).toNat))
  refine reg0 (aF := ?_) [evP 0 63 [] (fun s => .slice (some ⟨(s5 6).lo, 0, none⟩) ((mn 64 (mx (2 * a0_3) (a0_2 + (l1_0.length : Int)))).toNat) ((mn 64 (mx (2 * a0_3) (a0_2 + (l1_0.length : Int)))).toNat)), evP 1 64 [] (fun s => .pointer (some ⟨bp0, 0, none⟩)), evP 2 65 [] (fun s => .pointer (some ⟨bp0, 0, none⟩)), evL 3 66 [] (fun s => .agg #[.slice (some ⟨g0, 0, none⟩) mp.length mc]), evL 4 67 [] (fun s => .agg #[.int .i64 a0_0, .int .i64 a0_1, .int .i64 a0_2, .int .i64 a0_3]), evC 5 (some 68) [] (fun s x => .slice (seenA gr a0_1 cap) a0_2.toNat (cap - a0_1.toNat)) (fun s x => [])] [6] true 7 rfl rfl (by kernel_rfl) rfl (fun _ => rfl) ?aF HS5.out ?hs ?_
  rotate_left 1
  case aF => intro s; simp only [putE, EvT.val, Act.put, setIfInBounds_toArray, set_cons_zero, set_cons_succ]; rfl
  case hs => exact ⟨pu rfl, pu rfl, pu rfl (hr := fun s w => by go_simp; try rfl), lo rfl Hbp0.out (fun s w h => by have h0 := h 0 _ rfl; have h1 := h 1 _ rfl; have h2 := h 2 _ rfl; have h3 := h 3 _ rfl; have h4 := h 4 _ rfl; have h5 := h 5 _ rfl; have h6 := h 6 _ rfl; clear h; go_simp; try rfl), ld rfl 1 (fun s => rfl) (fun s w h => by have h0 := h 0 _ rfl; have h1 := h 1 _ rfl; have h2 := h 2 _ rfl; have h3 := h 3 _ rfl; clear h; go_simp; try rfl), cl rfl (fun s => #[.agg #[.slice (some ⟨g0, 0, none⟩) mp.length mc], .agg #[.int .i64 a0_0, .int .i64 a0_1, .int .i64 a0_2, .int .i64 a0_3]]) Try.func131 (fun s w1 h => (seen_c g0 _ _ a0_0 a0_1 a0_2 a0_3 gr row.length cap w1 ((h.hb.cell (World.block_lt_of_cell? w _ HCELL.out)).trans HCELL.out) (by omega) (by omega) (by omega) (by omega) (by omega) (by omega) (by omega)).mono (by rintro e w2 ⟨rfl, hb⟩; exact fin0 hb)), trivial⟩
  intro s6 w6 h; have HS6 := Aside0.mk h; clear h HS5
  refine tlCopyBox (some 69) rfl HS6.out 0 (row := (List.replicate ((mn 64 (mx (2 * a0_3) (a0_2 + (l1_0.length : Int)))).toNat) (0 : Int))) (bs := (((row.drop a0_1.toNat).take a0_2.toNat).take ((mn 64 (mx (2 * a0_3) (a0_2 + (l1_0.length : Int)))).toNat))) rfl HBS HBT.out (al_self (s5 6).lo ((mn 64 (mx (2 * a0_3) (a0_2 + (l1_0.length : Int)))).toNat)) (len_take (seg_len (by omega)) _) (fit_take (by omega)) ((bytes_blk ((HS6.out.hb.block _ (blk_lt HROW.out)).trans HROW.out) HTK.out (al_seen (row := row) (cap := cap) (g := gr) a0_1 a0_2 (by omega) (by omega) (by omega)) (by omega)).take _) (fun cur3 wq3 hsz3 htk3 h => ?_)
  simp only [set_cons_zero, set_cons_succ] at h; have HQ3 := Aside0.mk h; clear h HS6
  have hsl3 := spl_length (List.replicate ((mn 64 (mx (2 * a0_3) (a0_2 + (l1_0.length : Int)))).toNat) (0 : Int)) 0 (((row.drop a0_1.toNat).take a0_2.toNat).take ((mn 64 (mx (2 * a0_3) (a0_2 + (l1_0.length : Int)))).toNat)) (fit_take (by omega))
  have HBS3 : (spl (List.replicate ((mn 64 (mx (2 * a0_3) (a0_2 + (l1_0.length : Int)))).toNat) (0 : Int)) 0 (((row.drop a0_1.toNat).take a0_2.toNat).take ((mn 64 (mx (2 * a0_3) (a0_2 + (l1_0.length : Int)))).toNat))).length ≤ cur3.size := by rw [hsl3, hsz3]; exact HBS
  have HBT3 : Aside0 (cur3.toList.take (spl (List.replicate ((mn 64 (mx (2 * a0_3) (a0_2 + (l1_0.length : Int)))).toNat) (0 : Int)) 0 (((row.drop a0_1.toNat).take a0_2.toNat).take ((mn 64 (mx (2 * a0_3) (a0_2 + (l1_0.length : Int)))).toNat))).length = (spl (List.replicate ((mn 64 (mx (2 * a0_3) (a0_2 + (l1_0.length : Int)))).toNat) (0 : Int)) 0 (((row.drop a0_1.toNat).take a0_2.toNat).take ((mn 64 (mx (2 * a0_3) (a0_2 + (l1_0.length : Int)))).toNat))).map (fun x => Value.int .u8 x)) := ⟨by rw [hsl3]; exact htk3⟩
  simp only [Act.put, setIfInBounds_toArray, set_cons_zero, set_cons_succ]
  refine tl0 ?_
  refine reg0 (aF := ?_) [evP 0 70 [] (fun s => .slice (some ⟨(s5 6).lo, 0, none⟩) ((mn 64 (mx (2 * a0_3) (a0_2 + (l1_0.length : Int)))).toNat) ((mn 64 (mx (2 * a0_3) (a0_2 + (l1_0.length : Int)))).toNat)), evP 1 71 [] (fun s => .pointer (some ⟨(s1 0).lo, 2, none⟩)), evL 2 72 [] (fun s => .int .i64 a0_2), evP 3 73 [] (fun s => .slice (cutA (some ⟨(s5 6).lo, 0, none⟩) a0_2.toNat ((mn 64 (mx (2 * a0_3) (a0_2 + (l1_0.length : Int)))).toNat)) (((mn 64 (mx (2 * a0_3) (a0_2 + (l1_0.length : Int)))).toNat) - a0_2.toNat) (((mn 64 (mx (2 * a0_3) (a0_2 + (l1_0.length : Int)))).toNat) - a0_2.toNat)), evP 4 74 [] (fun s => .slice A1_0 l1_0.length c1_0)] [5] false 6 rfl rfl (by kernel_rfl) rfl (fun _ => rfl) ?aF HQ3.out ?hs ?_
  rotate_left 1
  case aF => intro s; simp only [putE, EvT.val, Act.put, setIfInBounds_toArray, set_cons_zero, set_cons_succ]; rfl
  case hs => exact ⟨pu rfl, pu rfl (hr := fun s w => by go_simp; try rfl), ld rfl 1 (fun s => rfl) (fun s w h => by have h0 := h 0 _ rfl; have h1 := h 1 _ rfl; have h2 := h 2 _ rfl; have h3 := h 3 _ rfl; clear h; go_simp; try rfl), cl_ rfl (by omega) (by omega), pu rfl, trivial⟩
  intro s7 w7 h; have HS7 := Aside0.mk h; clear h HQ3
  refine tlCopyBox (some 75) rfl HS7.out 0 (row := spl (List.replicate ((mn 64 (mx (2 * a0_3) (a0_2 + (l1_0.length : Int)))).toNat) (0 : Int)) 0 (((row.drop a0_1.toNat).take a0_2.toNat).take ((mn 64 (mx (2 * a0_3) (a0_2 + (l1_0.length : Int)))).toNat))) (bs := (l1_0.take (((mn 64 (mx (2 * a0_3) (a0_2 + (l1_0.length : Int)))).toNat) - a0_2.toNat))) rfl HBS3 HBT3.out (Al.cut (C := (mn 64 (mx (2 * a0_3) (a0_2 + (l1_0.length : Int)))).toNat) (al_self (s5 6).lo ((mn 64 (mx (2 * a0_3) (a0_2 + (l1_0.length : Int)))).toNat)) a0_2.toNat (((mn 64 (mx (2 * a0_3) (a0_2 + (l1_0.length : Int)))).toNat) - a0_2.toNat) (by omega) (by omega)) (len_take rfl _) (fit_take (by omega)) ((bytes_C (Kd.C_below HR1_0.out HS7.out.hb)).take _) (fun cur4 wq4 hsz4 htk4 h => ?_)
  simp only [set_cons_zero, set_cons_succ] at h; have HQ4 := Aside0.mk h; clear h HS7
  have hsl4 := spl_length (spl (List.replicate ((mn 64 (mx (2 * a0_3) (a0_2 + (l1_0.length : Int)))).toNat) (0 : Int)) 0 (((row.drop a0_1.toNat).take a0_2.toNat).take ((mn 64 (mx (2 * a0_3) (a0_2 + (l1_0.length : Int)))).toNat))) (0 + a0_2.toNat) (l1_0.take (((mn 64 (mx (2 * a0_3) (a0_2 + (l1_0.length : Int)))).toNat) - a0_2.toNat)) (fit_take (by omega))
  have HBS4 : (spl (spl (List.replicate ((mn 64 (mx (2 * a0_3) (a0_2 + (l1_0.length : Int)))).toNat) (0 : Int)) 0 (((row.drop a0_1.toNat).take a0_2.toNat).take ((mn 64 (mx (2 * a0_3) (a0_2 + (l1_0.length : Int)))).toNat))) (0 + a0_2.toNat) (l1_0.take (((mn 64 (mx (2 * a0_3) (a0_2 + (l1_0.length : Int)))).toNat) - a0_2.toNat))).length ≤ cur4.size := by rw [hsl4, hsz4]; exact HBS3
  have HBT4 : Aside0 (cur4.toList.take (spl (spl (List.replicate ((mn 64 (mx (2 * a0_3) (a0_2 + (l1_0.length : Int)))).toNat) (0 : Int)) 0 (((row.drop a0_1.toNat).take a0_2.toNat).take ((mn 64 (mx (2 * a0_3) (a0_2 + (l1_0.length : Int)))).toNat))) (0 + a0_2.toNat) (l1_0.take (((mn 64 (mx (2 * a0_3) (a0_2 + (l1_0.length : Int)))).toNat) - a0_2.toNat))).length = (spl (spl (List.replicate ((mn 64 (mx (2 * a0_3) (a0_2 + (l1_0.length : Int)))).toNat) (0 : Int)) 0 (((row.drop a0_1.toNat).take a0_2.toNat).take ((mn 64 (mx (2 * a0_3) (a0_2 + (l1_0.length : Int)))).toNat))) (0 + a0_2.toNat) (l1_0.take (((mn 64 (mx (2 * a0_3) (a0_2 + (l1_0.length : Int)))).toNat) - a0_2.toNat))).map (fun x => Value.int .u8 x)) := ⟨by rw [hsl4]; exact htk4⟩
  simp only [Act.put, setIfInBounds_toArray, set_cons_zero, set_cons_succ]
  refine tl0 ?_
  -- things: boxT (s5 6).lo cur4 5 | boxT (s1 0).lo #[.int .i64 a0_0, .int .i64 a0_1, .int .i64 a0_2, .int .i64 a0_3] 48 | boxT (s1 1).lo #[.int .i64 0, .int .i64 0, .int .i64 0, .int .i64 0] 48 ; HQ4
  have hb4 := HQ4.out.hb
  have HA4 := Aside0.mk (show bx (s5 6).lo cur4 5 wq4 from HQ4.out.get 0 rfl); have HGA := Aside0.mk (show w.heap.size ≤ (s5 6).lo from HQ4.out.ge 0 rfl)
  have HZ4 := Aside0.mk (show bx (s1 1).lo #[.int .i64 0, .int .i64 0, .int .i64 0, .int .i64 0] 48 wq4 from HQ4.out.get 2 rfl); have HGZ := Aside0.mk (show w.heap.size ≤ (s1 1).lo from HQ4.out.ge 2 rfl)
  have HX4 := Aside0.mk (show bx bp0 #[.slice (some ⟨g0, 0, none⟩) mp.length mc, .int .i64 y0, .int .i64 y1, .int .i64 y2, .int .i64 y3, .int .i64 y4, .int .i64 y5] 69 wq4 from (hb4.block _ (blk_lt HXbp0.out)).trans HXbp0.out)
  clear hb4
  refine wp_seq ?_
  refine seqReg [0, 1, 2, 3, 4, 5, 6, 7, 8, 9, 10] rfl rfl ?_
  refine tlP (v := .pointer (some ⟨bp0, 0, none⟩)) 76 rfl ?_
  simp only [Act.put, setIfInBounds_toArray, set_cons_zero, set_cons_succ]
  refine tlP (v := .pointer (some ⟨bp0, 0, none⟩)) 77 rfl ?_
  simp only [Act.put, setIfInBounds_toArray, set_cons_zero, set_cons_succ]
  refine tlP (v := .pointer (some ⟨bp0, 0, none⟩)) 78 (hr := by go_simp; try rfl) rfl ?_
  simp only [Act.put, setIfInBounds_toArray, set_cons_zero, set_cons_succ]
  refine tlP (v := .pointer (some ⟨bp0, 0, none⟩)) 79 (hr := by go_simp; try rfl) rfl ?_
  simp only [Act.put, setIfInBounds_toArray, set_cons_zero, set_cons_succ]
  have hc0_ : wq4.cell? ⟨bp0, 0, none⟩ = some (.slice (some ⟨g0, 0, none⟩) mp.length mc) := (blk_cell HX4.out 0).trans rfl
  refine tlP (v := .slice (some ⟨g0, 0, none⟩) mp.length mc) 80 rfl ?_ (hr := by go_simp; try rfl)
  clear hc0_
  simp only [Act.put, setIfInBounds_toArray, set_cons_zero, set_cons_succ]
  refine tlP (v := .slice (some ⟨(s5 6).lo, 0, none⟩) ((mn 64 (mx (2 * a0_3) (a0_2 + (l1_0.length : Int)))).toNat) ((mn 64 (mx (2 * a0_3) (a0_2 + (l1_0.length : Int)))).toNat)) 81 rfl ?_
  simp only [Act.put, setIfInBounds_toArray, set_cons_zero, set_cons_succ]
  refine tlVal (w2 := wq4.alloc (.cells #[.slice (some ⟨(s5 6).lo, 0, none⟩) ((mn 64 (mx (2 * a0_3) (a0_2 + (l1_0.length : Int)))).toNat) ((mn 64 (mx (2 * a0_3) (a0_2 + (l1_0.length : Int)))).toNat)] 119 (0, 0))) 82 rfl (.slice (some ⟨wq4.heap.size, 0, none⟩) 1 1) (by go_simp; try rfl) ?_
  simp only [Act.put, setIfInBounds_toArray, set_cons_zero, set_cons_succ]
  refine tlAppend 83 rfl HSM.out HQ4.out.hb hbase0 HA4.out HGA.out (row := spl (spl (List.replicate ((mn 64 (mx (2 * a0_3) (a0_2 + (l1_0.length : Int)))).toNat) (0 : Int)) 0 (((row.drop a0_1.toNat).take a0_2.toNat).take ((mn 64 (mx (2 * a0_3) (a0_2 + (l1_0.length : Int)))).toNat))) (0 + a0_2.toNat) (l1_0.take (((mn 64 (mx (2 * a0_3) (a0_2 + (l1_0.length : Int)))).toNat) - a0_2.toNat))) (by rw [hsl4, hsl3]; exact hrl) (by rw [hsz4, hsz3]; simp [size_madeCells]) (by unfold maxLen; omega) HBT4.out (by omega) ?_
  intro A2 c2 w5 hS5_ hg5
  have HS5_ := Aside0.mk hS5_; have HG5 := Aside0.mk hg5; clear hS5_ hg5
  simp only [Act.put, setIfInBounds_toArray, set_cons_zero, set_cons_succ]
  have HX5 := Aside0.mk (blk_grown HX4.out HG5.out (Kd.S_away HSM.out HOK.out)); have HZ5 := Aside0.mk (blk_grown HZ4.out HG5.out (fun e_ => by have := Kd.S_lt HSM.out _ e_.symm; have := HGZ.out; omega)); clear HX4 HZ4
  refine tlP (v := .pointer (some ⟨bp0, 0, none⟩)) 84 (hr := by go_simp; try rfl) rfl ?_
  simp only [Act.put, setIfInBounds_toArray, set_cons_zero, set_cons_succ]
  refine tlP (v := .pointer (some ⟨bp0, 0, none⟩)) 85 (hr := by go_simp; try rfl) rfl ?_
  simp only [Act.put, setIfInBounds_toArray, set_cons_zero, set_cons_succ]
  have hc0_ : w5.cell? ⟨bp0, 0, none⟩ = some (.slice (some ⟨g0, 0, none⟩) mp.length mc) := (blk_cell HX5.out 0).trans rfl
  have hf0_ := blk_frozen HX5.out 0
  refine tlSkip (w2 := w5.setCell ⟨bp0, 0, none⟩ (.slice A2 (mp.length + 1) c2)) rfl (by go_simp; try rfl) ?_
  clear hc0_ hf0_
  refine tl0 ?_
  have hbl := blk_lt HXbp0.out
  have HX6 := Aside0.mk (show bx bp0 #[.slice A2 (mp.length + 1) c2, .int .i64 y0, .int .i64 y1, .int .i64 y2, .int .i64 y3, .int .i64 y4, .int .i64 y5] 69 (w5.setCell ⟨bp0, 0, none⟩ (.slice A2 (mp.length + 1) c2)) from (wrote_puts [(.slice A2 (mp.length + 1) c2)] 0 _ _ HX5.out).is _ (Agree.refl _ _ _))
  have HZ6 := Aside0.mk ((Below.heap_setCell w5 ⟨bp0, 0, none⟩ (.slice A2 (mp.length + 1) c2) (s1 1).lo (by have := HGZ.out; show (s1 1).lo ≠ bp0; omega)).trans HZ5.out)
  have HS6_ := Aside0.mk (Kd.S_far HS5_.out (p := ⟨bp0, 0, none⟩) (fun k hk => by rcases hk with hk | hk; exact HOK.out k hk; show k ≠ bp0; omega) (.slice A2 (mp.length + 1) c2))
  have HK6 := Aside0.mk (show Kept w (w5.setCell ⟨bp0, 0, none⟩ (.slice A2 (mp.length + 1) c2)) (fun k => ok k ∨ k = bp0) from (Kept.of_grown HG5.out (Kept.of_below HQ4.out.hb _) (fun k hk => .inl (.inl ((Kd.S_R HSM.out).1 k hk)))).setCell (.inl (.inr rfl)) _)
  have HO6 := Aside0.mk (show (w5.setCell ⟨bp0, 0, none⟩ (.slice A2 (mp.length + 1) c2)).os = w.os ∧ (w5.setCell ⟨bp0, 0, none⟩ (.slice A2 (mp.length + 1) c2)).tape = w.tape ∧ (w5.setCell ⟨bp0, 0, none⟩ (.slice A2 (mp.length + 1) c2)).output = w.output from ⟨HG5.out.os.trans HQ4.out.hb.os, HG5.out.tape.trans HQ4.out.hb.tape, HG5.out.output.trans HQ4.out.hb.output⟩)
  generalize w5.setCell ⟨bp0, 0, none⟩ (.slice A2 (mp.length + 1) c2) = w6 at HX6 HZ6 HS6_ HK6 HO6 ⊢
  clear HX5 HZ5 HS5_ HG5 hbl
  have HT6 : Aside0 (Stk w6 [] w6) := ⟨Stk.nil w6⟩
  refine wp_seq ?_
  refine seqReg [0, 1, 2, 3, 4, 5, 6, 7, 8, 9, 10, 11] rfl rfl ?_
  refine tlP (v := .pointer (some ⟨bp0, 0, none⟩)) 86 rfl ?_
  simp only [Act.put, setIfInBounds_toArray, set_cons_zero, set_cons_succ]
  refine tlP (v := .pointer (some ⟨bp0, 0, none⟩)) 87 (hr := by go_simp; try rfl) rfl ?_
  simp only [Act.put, setIfInBounds_toArray, set_cons_zero, set_cons_succ]
  refine tlP (v := .pointer (some ⟨bp0, 0, none⟩)) 88 (hr := by go_simp; try rfl) rfl ?_
  simp only [Act.put, setIfInBounds_toArray, set_cons_zero, set_cons_succ]
  have hc0_ : w6.cell? ⟨bp0, 0, none⟩ = some (.slice A2 (mp.length + 1) c2) := (blk_cell HX6.out 0).trans rfl
  refine tlP (v := (.slice A2 (mp.length + 1) c2)) 89 rfl ?_ (hr := by go_simp; try rfl)
  clear hc0_
  simp only [Act.put, setIfInBounds_toArray, set_cons_zero, set_cons_succ]
  refine tlP (v := .int .i64 ((mp.length + 1 : Nat) : Int)) 90 (hr := by go_simp; try rfl) rfl ?_
  simp only [Act.put, setIfInBounds_toArray, set_cons_zero, set_cons_succ]
  refine tlP (v := .int .i64 (((mp.length + 1 : Nat) : Int) - 1)) 91 rfl ?_ (hr := run_arith (q := .sub) (k := .i64) (m := ((mp.length + 1 : Nat) : Int)) (n := 1) (r := ((mp.length + 1 : Nat) : Int) - 1) rfl rfl rfl (.inr (.inl ⟨rfl, (i64_ok (n := ((mp.length + 1 : Nat) : Int) - 1) (by omega) (by omega))⟩)))
  simp only [Act.put, setIfInBounds_toArray, set_cons_zero, set_cons_succ]
  refine tlP (v := .int .i64 (a0_2 + (l1_0.length : Int))) 92 rfl ?_
  simp only [Act.put, setIfInBounds_toArray, set_cons_zero, set_cons_succ]
  refine tlP (v := .slice (some ⟨(s5 6).lo, 0, none⟩) ((mn 64 (mx (2 * a0_3) (a0_2 + (l1_0.length : Int)))).toNat) ((mn 64 (mx (2 * a0_3) (a0_2 + (l1_0.length : Int)))).toNat)) 93 rfl ?_
  simp only [Act.put, setIfInBounds_toArray, set_cons_zero, set_cons_succ]
  refine tlP (v := .int .i64 (((mn 64 (mx (2 * a0_3) (a0_2 + (l1_0.length : Int)))).toNat) : Int)) 94 (hr := by go_simp; try rfl) rfl ?_
  simp only [Act.put, setIfInBounds_toArray, set_cons_zero, set_cons_succ]
  refine tlP (v := .agg #[.int .i64 (((mp.length + 1 : Nat) : Int) - 1), .int .i64 0, .int .i64 (a0_2 + (l1_0.length : Int)), .int .i64 (((mn 64 (mx (2 * a0_3) (a0_2 + (l1_0.length : Int)))).toNat) : Int)]) 95 (hr := by go_simp; try rfl) rfl ?_
  simp only [Act.put, setIfInBounds_toArray, set_cons_zero, set_cons_succ]
  have hc0_ : w6.cell? ⟨(s1 1).lo, 0, none⟩ = some (.int .i64 0) := (blk_cell HZ6.out 0).trans rfl; have hf0_ := blk_frozen HZ6.out 0
  have hc1_ : w6.cell? ⟨(s1 1).lo, 1, none⟩ = some (.int .i64 0) := (blk_cell HZ6.out 1).trans rfl; have hf1_ := blk_frozen HZ6.out 1
  have hc2_ : w6.cell? ⟨(s1 1).lo, 2, none⟩ = some (.int .i64 0) := (blk_cell HZ6.out 2).trans rfl; have hf2_ := blk_frozen HZ6.out 2
  have hc3_ : w6.cell? ⟨(s1 1).lo, 3, none⟩ = some (.int .i64 0) := (blk_cell HZ6.out 3).trans rfl; have hf3_ := blk_frozen HZ6.out 3
  refine tlStoreOld rfl HT6.out (s1 1).lo 0 [.int .i64 (((mp.length + 1 : Nat) : Int) - 1), .int .i64 0, .int .i64 (a0_2 + (l1_0.length : Int)), .int .i64 (((mn 64 (mx (2 * a0_3) (a0_2 + (l1_0.length : Int)))).toNat) : Int)] (blk_lt HZ6.out) (by go_simp; try rfl) (fun w7_ h => ?_)
  clear hc0_ hf0_ hc1_ hf1_ hc2_ hf2_ hc3_ hf3_
  refine tlP (v := .bool true) 7 rfl ?_
  simp only [Act.put, setIfInBounds_toArray, set_cons_zero, set_cons_succ]
  refine tl0 ?_
  refine wp_ret ?_
  try simp only [Exit.inBlock, Exit.then]
  have hZ7 : bx (s1 1).lo #[.int .i64 (((mp.length + 1 : Nat) : Int) - 1), .int .i64 0, .int .i64 (a0_2 + (l1_0.length : Int)), .int .i64 (((mn 64 (mx (2 * a0_3) (a0_2 + (l1_0.length : Int)))).toNat) : Int)] 48 w7_ := (h.hb.block _ (by rw [size_puts]; exact blk_lt HZ6.out)).trans ((wrote_puts [.int .i64 (((mp.length + 1 : Nat) : Int) - 1), .int .i64 0, .int .i64 (a0_2 + (l1_0.length : Int)), .int .i64 (((mn 64 (mx (2 * a0_3) (a0_2 + (l1_0.length : Int)))).toNat) : Int)] 0 _ _ HZ6.out).is _ (Agree.refl _ _ _))
  have hne7 : (s1 1).lo ≠ bp0 := fun e_ => by have := HGZ.out; have := blk_lt HXbp0.out; omega
  have hK7 : Kept w6 w7_ (fun k => k = (s1 1).lo) := ⟨by have := h.hb.size; rw [size_puts] at this; exact this, fun k hk hn => (h.hb.block k (by rw [size_puts]; exact hk)).trans (puts_other _ _ hn)⟩
  refine bodyPost_ret (results_list (rs := [.cell 6 48, .tmp 7]) rfl (by simp) (.cell (s1 1).lo 48 #[.int .i64 (((mp.length + 1 : Nat) : Int) - 1), .int .i64 0, .int .i64 (a0_2 + (l1_0.length : Int)), .int .i64 (((mn 64 (mx (2 * a0_3) (a0_2 + (l1_0.length : Int)))).toNat) : Int)] (0, 0) _ rfl hZ7 Try.underlying48 rfl (by kernel_rfl) (.tmp .nil))) rfl ?_
  refine ⟨by have e_ : ((mp.length + 1 : Nat) : Int) - 1 = mp.length := by omega
             rw [e_]; first | rfl | simp, ?_, ?_, A2, c2, ?_, ?_⟩
  · exact ⟨h.hb.os.trans HO6.out.1, h.hb.tape.trans HO6.out.2.1, h.hb.output.trans HO6.out.2.2⟩
  · exact HK6.out.then_ hK7 (fun k hk => .inr (by subst hk; exact HGZ.out))
  · exact blk_kept HX6.out hK7 (Ne.symm hne7)
  · exact Kd.S_mono (Kd.S_kept (Kd.S_types HS6_.out HZ6.out (by decide)) hK7 (fun k hk => hk.2)) (fun k hk => hk.1)
end Go.Proofs.Ytoomjghabiojkaa.P


/- appended (bytes behind a window), as a contract over worlds: the receiver's box and rows of the caller's. (a gap's box) -/
namespace Go.Proofs.Ytoomjghabiojkaa.P
open Go.RowKit Go.Proofs.YtoomjghabiojkaaW.PrintWords Go.Proofs.YtoomjghabiojkaaW.PrintMore Go.Proofs.YtoomjghabiojkaaW.Mine
set_option linter.unusedVariables false
set_option linter.unusedSimpArgs false
theorem impl_Memory_appendedG_c {w : World} {base g c c1 : Nat} {ok : Nat → Prop} {A A1 : Option Addr} {m : List (List Int)} {a s n cp y0 y1 y2 y3 y4 y5 : Int} {l : List Int}
    (hbx : bx g #[.slice A m.length c, .int .i64 y0, .int .i64 y1, .int .i64 y2, .int .i64 y3, .int .i64 y4, .int .i64 y5] 69 w) (hS : Kd.S (Kd.slice 5 (Kd.int .u8)) 119 w base ok (.slice A m.length c) m) (hok : ∀ k, ok k → k ≠ g) (hbase : base ≤ w.heap.size)
    (hw : WinOk m a s n cp) (h16 : m.length ≤ 16) (hr : Kd.C (Kd.int .u8) w A1 l.length l) (hc : l.length ≤ c1) (hl : l.length ≤ 1048576) :
    Calls Try.prog 152 #[.pointer (some ⟨g, 0, none⟩), .agg #[.int .i64 a, .int .i64 s, .int .i64 n, .int .i64 cp], .slice A1 l.length c1] w fun e_ w' =>
      e_ = .returned (.tuple #[.agg #[.int .i64 (appendP m a s n cp l).2.1, .int .i64 (appendP m a s n cp l).2.2.1, .int .i64 (appendP m a s n cp l).2.2.2.1, .int .i64 (appendP m a s n cp l).2.2.2.2.1], .bool (appendP m a s n cp l).2.2.2.2.2]) ∧ (w'.os = w.os ∧ w'.tape = w.tape ∧ w'.output = w.output) ∧ Kept w w' (fun k => ok k ∨ k = g) ∧
      ∃ A2 c2, bx g #[.slice A2 (appendP m a s n cp l).1.length c2, .int .i64 y0, .int .i64 y1, .int .i64 y2, .int .i64 y3, .int .i64 y4, .int .i64 y5] 69 w' ∧ Kd.S (Kd.slice 5 (Kd.int .u8)) 119 w' base (fun k => ok k ∨ w.heap.size ≤ k) (.slice A2 (appendP m a s n cp l).1.length c2) (appendP m a s n cp l).1 := by
  have hw1 := hw.a0; have hw2 := hw.a1; have hw3 := hw.s0; have hw4 := hw.n0; have hw5 := hw.n1; have hw6 := hw.s1; have hw7 := hw.r0; have hw8 := hw.r1; have hw9 := hw.c1
  obtain ⟨g0, cap0, hv, _, _, _⟩ := Kd.S_form hS (by omega)
  injection hv with h1 h2 h3
  subst h1
  obtain ⟨gr, cap, cur, hcell, hbg, hokr, hheap, hle, hmax, hsz, htk, hback⟩ := S_row hS a.toNat (by omega) (by unfold rowB at hw7; omega)
  have hne : g ≠ gr := fun e_ => hok gr hokr e_.symm
  have hrow : rowB m a = m.getD a.toNat [] := rfl
  rw [← hrow] at hcell hle htk hback
  by_cases hfit : n + (l.length : Int) ≤ cp
  · have h0 := impl_Memory_appendedG_w0 a s n cp A1 c1 l g g0 gr cap c cur m (rowB m a) y0 y1 y2 y3 y4 y5 w hr hc hbx hne hcell hheap hle hsz htk (decide_eq_true hfit) hw1 hw2 hw3 hw4 hw5 hw9 hw6 hw8 h16 hl hfit
    refine h0.mono ?_
    rintro e_ w' ⟨rfl, cur', hc1, hc2, hB⟩
    have htk2 : l.take ((rowB m a).length - (s + n).toNat) = l := List.take_of_length_le (by omega)
    rw [Nat.zero_add, htk2] at hc2
    have hlen : (spl (rowB m a) (s + n).toNat l).length = (rowB m a).length := spl_length _ _ _ (by omega)
    have hP : appendP m a s n cp l = (putRow m a (spl (rowB m a) (s + n).toNat l), a, s, n + (l.length : Int), cp, true) := by unfold appendP; rw [if_pos hfit]
    rw [hP]
    have hpl : (putRow m a (spl (rowB m a) (s + n).toNat l)).length = m.length := by unfold putRow; rw [List.length_set]
    have hgw : g < w.heap.size := blk_lt hbx
    refine ⟨rfl, ⟨hB.os, hB.tape, hB.output⟩, ⟨by have := hB.size; rw [setRow_size] at this; exact this, fun k hk hn => (hB.block k hk).trans (setRow_other w gr k cur' (fun e => hn (.inl (e ▸ hokr))))⟩, some ⟨g0, 0, none⟩, c, ?_, ?_⟩
    · show bx g #[.slice (some ⟨g0, 0, none⟩) (putRow m a (spl (rowB m a) (s + n).toNat l)).length c, .int .i64 y0, .int .i64 y1, .int .i64 y2, .int .i64 y3, .int .i64 y4, .int .i64 y5] 69 w'
      rw [hpl]
      exact (hB.block g hgw).trans ((setRow_other w gr g cur' hne).trans hbx)
    · show Kd.S _ _ w' base _ (.slice (some ⟨g0, 0, none⟩) (putRow m a (spl (rowB m a) (s + n).toNat l)).length c) (putRow m a (spl (rowB m a) (s + n).toNat l))
      rw [hpl]
      have hS1 := hback (w.setRow gr cur') cur' _ ⟨by simp, fun k _ hn => setRow_other w gr k cur' hn⟩ (setRow_heap w gr _ _ _ _ hheap) (by rw [hc1, hsz]) hlen hc2
      refine Kd.S_mono (Kd.S_step hS1 (fun k _ hkl => hB.block k (by simpa using hkl))) (fun k hk => .inl hk)
  · have hT0 : decide (n + (l.length : Int) ≤ cp) = false := decide_eq_false hfit
    by_cases hbad : n + (l.length : Int) > 64 ∨ (m.length : Int) = 16
    · have hP : appendP m a s n cp l = (m, 0, 0, 0, 0, false) := by unfold appendP; rw [if_neg hfit, if_pos hbad]
      rw [hP]
      have fin : ∀ w', Below w.heap.size w w' → (w'.os = w.os ∧ w'.tape = w.tape ∧ w'.output = w.output) ∧ Kept w w' (fun k => ok k ∨ k = g) ∧ ∃ A2 c2, bx g #[.slice A2 m.length c2, .int .i64 y0, .int .i64 y1, .int .i64 y2, .int .i64 y3, .int .i64 y4, .int .i64 y5] 69 w' ∧ Kd.S (Kd.slice 5 (Kd.int .u8)) 119 w' base (fun k => ok k ∨ w.heap.size ≤ k) (.slice A2 m.length c2) m := fun w' hB =>
        ⟨⟨hB.os, hB.tape, hB.output⟩, Kept.of_below hB _, some ⟨g0, 0, none⟩, c, (hB.block g (blk_lt hbx)).trans hbx, Kd.S_mono (Kd.S_below hS hB) (fun k hk => .inl hk)⟩
      by_cases h64 : n + (l.length : Int) > 64
      · refine (impl_Memory_appendedG_w1 a s n cp A1 c1 l g g0 gr cap c cur m (rowB m a) y0 y1 y2 y3 y4 y5 w hr hc hbx hne hcell hheap hle hsz htk hT0 (decide_eq_true h64) hw1 hw2 hw3 hw4 hw5 hw9 hw6 hw8 h16 hl).mono ?_
        rintro e_ w' ⟨rfl, hB⟩
        exact ⟨rfl, fin w' hB⟩
      · refine (impl_Memory_appendedG_w2 a s n cp A1 c1 l g g0 gr cap c cur m (rowB m a) y0 y1 y2 y3 y4 y5 w hr hc hbx hne hcell hheap hle hsz htk hT0 (decide_eq_false h64) (beq_iff_eq.2 (hbad.resolve_left h64)) hw1 hw2 hw3 hw4 hw5 hw9 hw6 hw8 h16 hl).mono ?_
        rintro e_ w' ⟨rfl, hB⟩
        exact ⟨rfl, fin w' hB⟩
    · have hP : appendP m a s n cp l = (m ++ [growRow (rowB m a) s n (roomP n cp l).toNat l], (m.length : Int), 0, n + (l.length : Int), ((roomP n cp l).toNat : Int), true) := by unfold appendP; rw [if_neg hfit, if_neg hbad]
      rw [hP]
      refine (impl_Memory_appendedG_w3 a s n cp A1 c1 l g g0 gr cap c cur m (rowB m a) y0 y1 y2 y3 y4 y5 w hr hc hbx hne hcell hheap hle hsz htk hT0 (decide_eq_false (fun h => hbad (.inl h))) (by rw [beq_eq_false_iff_ne]; exact fun h => hbad (.inr h)) base ok hS hok hbase hw1 hw2 hw3 hw4 hw5 hw9 hw6 hw8 h16 hl).mono ?_
      rintro e_ w' ⟨rfl, hos, hK, A2, c2, hb2, hS2⟩
      refine ⟨rfl, hos, hK, A2, c2, ?_, ?_⟩
      · show bx g #[.slice A2 (m ++ [_]).length c2, .int .i64 y0, .int .i64 y1, .int .i64 y2, .int .i64 y3, .int .i64 y4, .int .i64 y5] 69 w'
        rw [List.length_append, List.length_singleton]
        exact hb2
      · show Kd.S _ _ w' base _ (.slice A2 (m ++ [_]).length c2) (m ++ [_])
        rw [List.length_append, List.length_singleton]
        exact hS2
end Go.Proofs.Ytoomjghabiojkaa.P


/- appended amid a drawn region (a gap's box): the base world behind it; two boxes as things. -/
namespace Go.Proofs.YtoomjghabiojkaaW.Mine
open Go.RowKit Go.Proofs.YtoomjghabiojkaaW.PrintWords
set_option linter.unusedVariables false
set_option linter.unusedSimpArgs false
section
variable {P : Program} {ops : Array Oper} {evs : List EvT} {W : World} {R : World → World → Nat → Nat → Prop} {aF : (Nat → Lt) → Act}
theorem xl {i : Nat} {d : Tmp} {us : List Nat} {v : (Nat → Lt) → Value} {o : Oper} {f : FuncId} {fn : Func} {ar : Array Operand} {ts : Array TypeId} (ho : ops.toList[i]? = some o) (args : (Nat → Lt) → Array Value) (hf : P.funcs[f]? = some fn)
    (h : ∀ s w, Stk W (thU us s evs) w → Calls P f (args s) w fun e w' => e = .returned (v s) ∧ ∃ W2, Shift W W2 w w' ∧ R W2 w' w.heap.size w'.heap.size)
    (hop : o.op = .call { callee := .value (.func f), args := ar, argTypes := ts } := by rfl) (hd : o.dst = some d := by rfl) (hname : (fn.name == "runtime.NumGoroutine") = false := by kernel_rfl) (hb : fn.body.isSome = true := by rfl)
    (hargs : ∀ s, ar.map (aF s).eval = args s := by intro s; simp only [List.map_toArray, List.map_cons, List.map_nil]; rfl) (hw : ∀ s, Region.wanted o (yielded ops (aF s).tmps) = true := by intro s; rfl) : StepX P ops W R aF evs (evL i d us v) := by
  refine ⟨o, by rw [← Array.getElem?_toList]; exact ho, fun s w hst => ⟨hw s, fun K hK => ?_⟩⟩
  refine calls_wp hf hname hb hop (hargs s) ((h s w hst).mono ?_)
  rintro e w' ⟨rfl, W2, h1, h2⟩
  exact ⟨_, rfl, by rw [hd]; exact hK.out W2 w' h1 h2⟩
end
theorem boxed2 {w : World} {g g2 t t2 : Nat} {cs cs2 : Array Value} (h : bx g cs t w) (h2 : bx g2 cs2 t2 w) (hlt : g < g2) : Stk (cutW 0 w) [boxT g cs t, boxT g2 cs2 t2, frm 0 g w, frm (g + 1) g2 w, frm (g2 + 1) w.heap.size w] w := by
  have hg := blk_lt h
  have hg2 := blk_lt h2
  have hz : (cutW 0 w).heap.size = 0 := by simp [cutW]
  have hfr : ∀ a b, a ≤ b → b ≤ w.heap.size → (frm a b w).ok w := fun a b h1 h2 => ⟨h1, h2, fun w' ha => ha⟩
  refine ⟨⟨rfl, rfl, rfl, by rw [hz]; exact Nat.zero_le _, fun k hk => by rw [hz] at hk; omega⟩, fun x hx => ⟨by rw [hz]; exact Nat.zero_le _, ?_⟩, ?_⟩
  · simp only [List.mem_cons, List.not_mem_nil, or_false] at hx
    rcases hx with rfl | rfl | rfl | rfl | rfl
    · exact ⟨Nat.le_succ _, hg, fun w' ha => (ha g (Nat.le_refl _) (Nat.lt_succ_self _)).trans h⟩
    · exact ⟨Nat.le_succ _, hg2, fun w' ha => (ha g2 (Nat.le_refl _) (Nat.lt_succ_self _)).trans h2⟩
    · exact hfr _ _ (Nat.zero_le _) (by omega)
    · exact hfr _ _ (by omega) (by omega)
    · exact hfr _ _ (by omega) (Nat.le_refl _)
  · simp only [List.pairwise_cons, List.mem_cons, List.not_mem_nil, or_false, Th.apart, boxT, frm]
    refine ⟨?_, ?_, ?_, ?_, ?_, List.Pairwise.nil⟩
    · rintro x (rfl | rfl | rfl | rfl) <;> simp only <;> omega
    · rintro x (rfl | rfl | rfl) <;> simp only <;> omega
    · rintro x (rfl | rfl) <;> simp only <;> omega
    · rintro x rfl
      simp only
      omega
    · intro x hx
      cases hx
end Go.Proofs.YtoomjghabiojkaaW.Mine
namespace Go.Proofs.Ytoomjghabiojkaa.P
open Go.RowKit Go.Proofs.YtoomjghabiojkaaW.PrintWords Go.Proofs.YtoomjghabiojkaaW.PrintMore Go.Proofs.YtoomjghabiojkaaW.Mine
set_option linter.unusedVariables false
set_option linter.unusedSimpArgs false
structure RAp (w : World) (base bp : Nat) (ok : Nat → Prop) (y0 y1 y2 y3 y4 y5 : Int) (M : List (List Int)) (W2 wX : World) (lo hi : Nat) : Prop where
  sz_ : W2.heap.size = w.heap.size
  lo_ : w.heap.size ≤ lo
  hi_ : hi = wX.heap.size
  os_ : W2.os = w.os ∧ W2.tape = w.tape ∧ W2.output = w.output
  at_ : ∀ k, k < w.heap.size → wX.heap[k]? = W2.heap[k]?
  kept_ : ∀ k, k < w.heap.size → ¬ (ok k ∨ k = bp) → W2.heap[k]? = w.heap[k]?
  is_ : ∃ A2 c2, bx bp #[.slice A2 M.length c2, .int .i64 y0, .int .i64 y1, .int .i64 y2, .int .i64 y3, .int .i64 y4, .int .i64 y5] 69 W2 ∧ Kd.S (Kd.slice 5 (Kd.int .u8)) 119 wX base (fun k => (ok k ∧ k < w.heap.size) ∨ lo ≤ k) (.slice A2 M.length c2) M
theorem appendedX {w w1 : World} {base g c gb k : Nat} {ok : Nat → Prop} {A : Option Addr} {m M : List (List Int)} {a s n cp y4 y5 x0 x1 x2 x3 : Int} {b : Bool}
    (hbx : bx g #[.slice A m.length c, .int .i64 a, .int .i64 s, .int .i64 n, .int .i64 cp, .int .i64 y4, .int .i64 y5] 69 w) (hS : Kd.S (Kd.slice 5 (Kd.int .u8)) 119 w base ok (.slice A m.length c) m) (hok : ∀ k, ok k → k ≠ g) (hbase : base ≤ w.heap.size)
    (hw : WinOk m a s n cp) (h16 : m.length ≤ 16) (hP : appendP m a s n cp (List.replicate k (0 : Int)) = (M, x0, x1, x2, x3, b)) (hB : bx gb (madeCells #[Value.int .u8 0] k) 5 w1) (hk : k ≤ 64) (hb : Below w.heap.size w w1) :
    Calls Try.prog 152 #[.pointer (some ⟨g, 0, none⟩), .agg #[.int .i64 a, .int .i64 s, .int .i64 n, .int .i64 cp], .slice (some ⟨gb, 0, none⟩) k k] w1 fun e_ w' =>
      e_ = .returned (.tuple #[.agg #[.int .i64 x0, .int .i64 x1, .int .i64 x2, .int .i64 x3], .bool b]) ∧ ∃ W2, Shift w W2 w1 w' ∧ RAp w base g ok a s n cp y4 y5 M W2 w' w1.heap.size w'.heap.size := by
  have hgw : g < w.heap.size := blk_lt hbx
  have hS' : Kd.S (Kd.slice 5 (Kd.int .u8)) 119 w base (fun k => ok k ∧ k < w.heap.size) (.slice A m.length c) m := Kd.S_mono (Kd.S_bound hS) (fun k hk => ⟨hk.1, hk.2.2.1⟩)
  have hsz : (madeCells #[Value.int .u8 0] k).size = k := by simp [size_madeCells]
  have hC : Kd.C (Kd.int .u8) w1 (some ⟨gb, 0, none⟩) (List.replicate k (0 : Int)).length (List.replicate k (0 : Int)) := by
    have hR : Kd.R (Kd.int .u8) 5 w1 0 (fun _ => True) (.slice (some ⟨gb, 0, none⟩) (List.replicate k (0 : Int)).length k) (List.replicate k (0 : Int)) :=
      Kd.R_of_own ⟨by rw [encs_length, Nat.mul_one], .inr ⟨gb, k, _, rfl, Nat.zero_le _, hB, by simp, by unfold maxLen; omega, by rw [hsz, Nat.mul_one], by rw [Nat.mul_one, made_take]; rfl⟩⟩ (fun _ _ => trivial)
    exact (Kd.R_reads' hR).2.2
  have hc := impl_Memory_appendedG_c (l := List.replicate k (0 : Int)) (c1 := k) ((hb.block _ hgw).trans hbx) (Kd.S_below hS' hb) (fun k hk => hok k hk.1) (Nat.le_trans hbase hb.size) hw h16 hC (by simp) (by simp; omega)
  rw [hP] at hc
  simp only [List.length_replicate] at hc
  refine hc.mono ?_
  rintro e_ w' ⟨rfl, hos, hK, A2, c2, hb2, hS2⟩
  have hSh := Shift.of hb hos (hK.mono (fun k hk => by rcases hk with hk | rfl; exact hk.2; exact hgw))
  have hge : w.heap.size ≤ w'.heap.size := Nat.le_trans hb.size hK.1
  refine ⟨rfl, _, hSh, ⟨hSh.hs, hb.size, rfl, hSh.os, hSh.base, fun k hk hn => ?_, A2, c2, ?_, hS2⟩⟩
  · rw [cutW_heap hk hge, hK.2 k (Nat.lt_of_lt_of_le hk hb.size) (fun h => hn (by rcases h with h | h; exact .inl h.1; exact .inr h)), hb.block k hk]
  · exact (cutW_heap hgw hge).trans hb2
theorem RAp.out {w : World} {base bp lo hi : Nat} {ok : Nat → Prop} {y0 y1 y2 y3 y4 y5 : Int} {M : List (List Int)} {W2 wX w4 : World} {ts : List Th} (hR : RAp w base bp ok y0 y1 y2 y3 y4 y5 M W2 wX lo hi) (h : Stk W2 ts w4) (hm : frm lo hi wX ∈ ts) :
    (w4.os = w.os ∧ w4.tape = w.tape ∧ w4.output = w.output) ∧ Kept w w4 (fun k => ok k ∨ k = bp) ∧ ∃ A2 c2, bx bp #[.slice A2 M.length c2, .int .i64 y0, .int .i64 y1, .int .i64 y2, .int .i64 y3, .int .i64 y4, .int .i64 y5] 69 w4 ∧ Kd.S (Kd.slice 5 (Kd.int .u8)) 119 w4 base (fun k => (ok k ∧ k < w.heap.size) ∨ (lo ≤ k ∧ k < hi)) (.slice A2 M.length c2) M := by
  obtain ⟨h1, h2, h3, h4, h5, h6, A2, c2, hb, hS⟩ := hR
  have ha := (h.all _ hm).2.2.2 w4 (Agree.refl _ _ _)
  have hfr : Agree lo hi wX w4 := ha
  refine ⟨⟨h.hb.os.trans h4.1, h.hb.tape.trans h4.2.1, h.hb.output.trans h4.2.2⟩, ⟨by rw [← h1]; exact h.hb.size, fun k hk hn => (h.hb.block k (by rw [h1]; exact hk)).trans (h6 k hk hn)⟩, A2, c2, (h.hb.block _ (blk_lt hb)).trans hb, ?_⟩
  refine Kd.S_move (Kd.S_mono (Kd.S_bound hS) (fun k hk => ?_)) (fun k hk => ?_)
  · rcases hk.1 with h7 | h7
    · exact .inl h7
    · exact .inr ⟨h7, by rw [h3]; exact hk.2.2.1⟩
  · rcases hk with h7 | h7
    · rw [h.hb.block k (by rw [h1]; exact h7.2), h5 k h7.2]
    · exact hfr k h7.1 h7.2
theorem appendP_ok {m M : List (List Int)} {a s n cp x0 x1 x2 x3 : Int} {l : List Int} (hw : WinOk m a s n cp) (hP : appendP m a s n cp l = (M, x0, x1, x2, x3, true)) : WinOk M x0 x1 x2 x3 := by
  have g1 := hw.a0; have g2 := hw.a1; have g3 := hw.c0; have g4 := hw.c1; have g5 := hw.n0; have g6 := hw.n1; have g7 := hw.s0; have g8 := hw.s1; have g9 := hw.r0; have g10 := hw.r1
  unfold appendP at hP
  split at hP
  · rename_i hfit
    cases hP
    have hl := spl_length (rowB m a) (s + n).toNat l (by omega)
    have hr : rowB (putRow m a (spl (rowB m a) (s + n).toNat l)) a = spl (rowB m a) (s + n).toNat l := by
      unfold rowB putRow
      rw [List.getD_eq_getElem?_getD, List.getElem?_set_self (by omega)]
      rfl
    exact ⟨g1, by unfold putRow; rw [List.length_set]; exact g2, g3, g4, by omega, hfit, g7, by rw [hr, hl]; exact g8, by rw [hr, hl]; exact g9, by rw [hr, hl]; exact g10⟩
  · split at hP
    · cases hP
    · rename_i h1 h2
      cases hP
      have hN : n + (l.length : Int) ≤ roomP n cp l ∧ roomP n cp l ≤ 64 := by
        unfold roomP mn mx
        split <;> split <;> omega
      have hr : rowB (m ++ [growRow (rowB m a) s n (roomP n cp l).toNat l]) (m.length : Int) = growRow (rowB m a) s n (roomP n cp l).toNat l := by
        unfold rowB
        rw [Int.toNat_natCast, List.getD_eq_getElem?_getD, List.getElem?_append_right (Nat.le_refl _)]
        simp
      have hgl : (growRow (rowB m a) s n (roomP n cp l).toNat l).length = (roomP n cp l).toNat := by
        unfold growRow
        have e1 := spl_length (List.replicate (roomP n cp l).toNat (0 : Int)) 0 ((((rowB m a).drop s.toNat).take n.toNat).take (roomP n cp l).toNat) (by simp; omega)
        rw [spl_length _ _ _ (by rw [e1]; simp; omega), e1]
        simp
      exact ⟨by omega, by simp; omega, by omega, by omega, by omega, by omega, Int.le_refl _, by rw [hr, hgl]; omega, by rw [hr, hgl]; omega, by rw [hr, hgl]; omega⟩
def wideRow (row : List Int) (s n n2 t k : Int) : List Int := spl row (s.toNat + (t + k).toNat) (((row.drop (s.toNat + t.toNat)).take (n.toNat - t.toNat)).take (n2.toNat - (t + k).toNat))
theorem widen_fin {w w4 w8 w9 : World} {base bp g6 gr lo hi cap n c i T T6 : Nat} {ok : Nat → Prop} {A : Option Addr} {M : List (List Int)} {row row' : List Int} {cur cur6 : Array Value} {cs cs6 : Array Value}
    (HOS4 : w4.os = w.os ∧ w4.tape = w.tape ∧ w4.output = w.output) (HK4 : Kept w w4 (fun k => ok k ∨ k = bp)) (hok : ∀ k, ok k → k ≠ bp) (hbpw : bp < w.heap.size) (hlo : w.heap.size ≤ lo) (hge6 : w.heap.size ≤ g6) (hap : g6 + 1 ≤ lo ∨ hi ≤ g6) (hokr : (ok gr ∧ gr < w.heap.size) ∨ (lo ≤ gr ∧ gr < hi))
    (hback : ∀ (w1 : World) (cur' : Array Value) (row' : List Int), Kept w4 w1 (fun k => k = gr) → w1.heap[gr]? = some (.cells cur' 5 (0, 0)) → cur'.size = cap → row'.length = row.length → cur'.toList.take row.length = row'.map (fun x => Value.int .u8 x) →
      Kd.S (Kd.slice 5 (Kd.int .u8)) 119 w1 base (fun k => (ok k ∧ k < w.heap.size) ∨ (lo ≤ k ∧ k < hi)) (.slice A n c) (M.set i row'))
    (hheap : w4.heap[gr]? = some (.cells cur 5 (0, 0))) (hcs : cur.size = cap) (hsz6 : cur6.size = cur.size) (hl : row'.length = row.length) (ht6 : cur6.toList.take row.length = row'.map (fun x => Value.int .u8 x))
    (hB : Below (w4.setRow gr cur6).heap.size (w4.setRow gr cur6) w8) (hS9 : Stk (cutW 0 w8) [boxT bp cs T, boxT g6 cs6 T6, frm 0 bp w8, frm (bp + 1) g6 w8, frm (g6 + 1) w8.heap.size w8] w9) :
    (w9.os = w.os ∧ w9.tape = w.tape ∧ w9.output = w.output) ∧ Kept w w9 (fun k => ok k ∨ k = bp) ∧ bx bp cs T w9 ∧ Kd.S (Kd.slice 5 (Kd.int .u8)) 119 w9 base (fun k => ok k ∨ w.heap.size ≤ k) (.slice A n c) (M.set i row') := by
  have hsz4 : (w4.setRow gr cur6).heap.size = w4.heap.size := setRow_size _ _ _
  have hw4 := HK4.1
  have h89 : w8.heap.size ≤ w9.heap.size := (hS9.all (frm (g6 + 1) w8.heap.size w8) (by simp)).2.2.1
  have hag : ∀ k, k < w8.heap.size → k ≠ bp → k ≠ g6 → w9.heap[k]? = w8.heap[k]? := by
    intro k hk h1 h2
    by_cases h3 : k < bp
    · exact (show Agree 0 bp w8 w9 from hS9.get 2 rfl) k (Nat.zero_le _) h3
    · by_cases h4 : k < g6
      · exact (show Agree (bp + 1) g6 w8 w9 from hS9.get 3 rfl) k (by omega) h4
      · exact (show Agree (g6 + 1) w8.heap.size w8 w9 from hS9.get 4 rfl) k (by omega) hk
  have h48 : w4.heap.size ≤ w8.heap.size := by have := hB.size; rw [hsz4] at this; exact this
  have hr4 : (w4.setRow gr cur6).os = w4.os ∧ (w4.setRow gr cur6).tape = w4.tape ∧ (w4.setRow gr cur6).output = w4.output := ⟨rfl, rfl, rfl⟩
  refine ⟨⟨hS9.hb.os.trans (hB.os.trans (hr4.1.trans HOS4.1)), hS9.hb.tape.trans (hB.tape.trans (hr4.2.1.trans HOS4.2.1)), hS9.hb.output.trans (hB.output.trans (hr4.2.2.trans HOS4.2.2))⟩, ⟨by omega, fun k hk hn => ?_⟩, hS9.get 0 rfl, ?_⟩
  · rw [hag k (by omega) (fun e_ => hn (.inr e_)) (by omega), hB.block k (by rw [hsz4]; omega), setRow_other w4 gr k cur6 (fun e_ => ?_), HK4.2 k hk hn]
    subst e_
    rcases hokr with h | h
    · exact hn (.inl h.1)
    · omega
  · have hS := hback (w4.setRow gr cur6) cur6 row' ⟨by rw [hsz4]; exact Nat.le_refl _, fun k _ hn => setRow_other w4 gr k cur6 hn⟩ (setRow_heap w4 gr _ _ _ _ hheap) (by omega) hl ht6
    have hS2 := Kd.S_move (w1 := w9) (Kd.S_mono (Kd.S_bound hS) (fun k hk => hk)) (fun k hk => by
      have hkl : k < w4.heap.size := by have := hk.2.2.1; rw [hsz4] at this; exact this
      rw [hag k (by omega) (fun e_ => ?_) (fun e_ => ?_), hB.block k (by rw [hsz4]; exact hkl)]
      · subst e_
        rcases hk.1 with h | h
        · exact hok _ h.1 rfl
        · omega
      · subst e_
        rcases hk.1 with h | h
        · omega
        · omega)
    exact Kd.S_mono hS2 (fun k hk => by
      rcases hk.1 with h | h
      · exact .inl h.1
      · exact .inr (by omega))
end Go.Proofs.Ytoomjghabiojkaa.P


-- written by wip/gen_fn.py
namespace Go.Proofs.Ytoomjghabiojkaa.P
open Go.RowKit Go.Proofs.YtoomjghabiojkaaW.PrintWords Go.Proofs.YtoomjghabiojkaaW.PrintLast Go.Proofs.YtoomjghabiojkaaW.PrintMore Go.Proofs.YtoomjghabiojkaaW.Mine
open List (setIfInBounds_toArray set_cons_zero set_cons_succ)
attribute [local go_sem] max2_int min2_int max_two min_two max_three min_three max_four min_four
set_option linter.unusedVariables false
set_option linter.unusedSimpArgs false
set_option maxHeartbeats 8000000 in
set_option maxRecDepth 100000 in
theorem impl_Gap_widen_w0 (a0_0 : Int) (bp0 g0 gr cap mc : Nat) (cur : Array Value) (mp : List (List Int)) (row : List Int) (y0 : Int) (y1 : Int) (y2 : Int) (y3 : Int) (y4 : Int) (y5 : Int) (w : World) (hbxbp0 : bx bp0 #[.slice (some ⟨g0, 0, none⟩) mp.length mc, .int .i64 y0, .int .i64 y1, .int .i64 y2, .int .i64 y3, .int .i64 y4, .int .i64 y5] 69 w) (hnebp0 : bp0 ≠ gr) (hcell : w.cell? ⟨g0, y0.toNat, none⟩ = some (.slice (some ⟨gr, 0, none⟩) row.length cap)) (hrow : w.heap[gr]? = some (.cells cur 5 (0, 0))) (hle : row.length ≤ cap) (hcs : cur.size = cap) (htk : cur.toList.take row.length = row.map (fun x => Value.int .u8 x)) (T0 : (decide (a0_0 > 64)) = true) (F0 : 0 ≤ a0_0) :
    Calls Try.prog 124 #[.pointer (some ⟨bp0, 0, none⟩), .int .i64 a0_0] w fun e w' => e = .returned (.bool false) ∧ Below w.heap.size w w' := by
  have HXbp0 := Aside0.mk hbxbp0; have HNEbp0 := Aside0.mk hnebp0; have HCELL := Aside0.mk hcell; have HROW := Aside0.mk hrow; have HTK := Aside0.mk htk; clear hbxbp0 hnebp0 hcell hrow htk
  have Hbp0 := Aside0.mk (fun j u (hj : (#[.slice (some ⟨g0, 0, none⟩) mp.length mc, .int .i64 y0, .int .i64 y1, .int .i64 y2, .int .i64 y3, .int .i64 y4, .int .i64 y5] : Array Value)[j]? = some u) => (blk_cell HXbp0.out j).trans hj)
  have T0_ := Aside0.mk T0; clear T0; have T0 := T0_; clear T0_
  have HS0 : Aside0 (Stk w [] w) := ⟨Stk.nil w⟩
  go_enter Try.func124, Try.ntmps124
  refine reg0 (aF := ?_) [] [0] false 1 rfl rfl (by kernel_rfl) rfl (fun _ => rfl) ?aF HS0.out ?hs ?_
  rotate_left 1
  case aF => intro s; simp only [putE, EvT.val, Act.put, setIfInBounds_toArray, set_cons_zero, set_cons_succ]; rfl
  case hs => exact trivial
  intro s1 w1 h; have HS1 := Aside0.mk h; clear h HS0
  refine tlP (v := .bool false) 4 rfl ?_
  simp only [Act.put, setIfInBounds_toArray, set_cons_zero, set_cons_succ]
  refine tl0 ?_
  refine wp_seq ?_
  refine reg0 (aF := ?_) [evP 0 9 [] (fun s => .int .i64 a0_0), evP 1 10 [] (fun s => .bool true)] [] false 2 rfl rfl (by kernel_rfl) rfl (fun _ => rfl) ?aF HS1.out ?hs ?_
  rotate_left 1
  case aF => intro s; simp only [putE, EvT.val, Act.put, setIfInBounds_toArray, set_cons_zero, set_cons_succ]; rfl
  case hs => exact ⟨pu rfl, pb (q := .gtr) T0.out rfl, trivial⟩
  intro s2 w2 h; have HS2 := Aside0.mk h; clear h HS1
  refine tl0 ?_
  refine wp_cond_true rfl ?_
  refine reg0 (aF := ?_) [] [0] false 1 rfl rfl (by kernel_rfl) rfl (fun _ => rfl) ?aF HS2.out ?hs ?_
  rotate_left 1
  case aF => intro s; simp only [putE, EvT.val, Act.put, setIfInBounds_toArray, set_cons_zero, set_cons_succ]; rfl
  case hs => exact trivial
  intro s3 w3 h; have HS3 := Aside0.mk h; clear h HS2
  refine tlP (v := .bool false) 4 rfl ?_
  simp only [Act.put, setIfInBounds_toArray, set_cons_zero, set_cons_succ]
  refine tl0 ?_
  refine wp_ret ?_
  go_ret
  exact ⟨by first | rfl | simp, HS3.out.hb⟩
set_option maxHeartbeats 8000000 in
set_option maxRecDepth 100000 in
theorem impl_Gap_widen_w1 (a0_0 : Int) (bp0 g0 gr cap mc : Nat) (cur : Array Value) (mp : List (List Int)) (row : List Int) (y0 : Int) (y1 : Int) (y2 : Int) (y3 : Int) (y4 : Int) (y5 : Int) (w : World) (hbxbp0 : bx bp0 #[.slice (some ⟨g0, 0, none⟩) mp.length mc, .int .i64 y0, .int .i64 y1, .int .i64 y2, .int .i64 y3, .int .i64 y4, .int .i64 y5] 69 w) (hnebp0 : bp0 ≠ gr) (hcell : w.cell? ⟨g0, y0.toNat, none⟩ = some (.slice (some ⟨gr, 0, none⟩) row.length cap)) (hrow : w.heap[gr]? = some (.cells cur 5 (0, 0))) (hle : row.length ≤ cap) (hcs : cur.size = cap) (htk : cur.toList.take row.length = row.map (fun x => Value.int .u8 x)) (T0 : (decide (a0_0 > 64)) = false) (base : Nat) (ok : Nat → Prop) (hS0 : Kd.S (Kd.slice 5 (Kd.int .u8)) 119 w base ok (.slice (some ⟨g0, 0, none⟩) mp.length mc) mp) (hok0 : ∀ k, ok k → k ≠ bp0) (hokw0 : ∀ k, ok k → k < w.heap.size) (hbase0 : base ≤ w.heap.size) (HWO0 : WinOk mp y0 y1 y2 y3) (M : List (List Int)) (x0 x1 x2 x3 : Int) (HP0 : appendP mp y0 y1 y2 y3 (List.replicate a0_0.toNat (0 : Int)) = (M, x0, x1, x2, x3, false)) (F0 : 0 ≤ y0) (F1 : y0 < (mp.length : Int)) (F2 : 0 ≤ y1) (F3 : 0 ≤ y2) (F4 : y2 ≤ y3) (F5 : y3 ≤ 64) (F6 : y1 + y3 ≤ (row.length : Int)) (F7 : row.length ≤ 64) (F8 : mp.length ≤ 16) (F9 : 0 ≤ y4) (F10 : y4 ≤ y5) (F11 : y5 ≤ y2) (F12 : 0 ≤ a0_0) (F13 : a0_0 ≤ 64) :
    Calls Try.prog 124 #[.pointer (some ⟨bp0, 0, none⟩), .int .i64 a0_0] w fun e w' => e = .returned (.bool false) ∧ (w'.os = w.os ∧ w'.tape = w.tape ∧ w'.output = w.output) ∧ Kept w w' (fun k => ok k ∨ k = bp0) ∧ ∃ A2 c2, bx bp0 #[.slice A2 M.length c2, .int .i64 y0, .int .i64 y1, .int .i64 y2, .int .i64 y3, .int .i64 y4, .int .i64 y5] 69 w' ∧ Kd.S (Kd.slice 5 (Kd.int .u8)) 119 w' base (fun k => ok k ∨ w.heap.size ≤ k) (.slice A2 M.length c2) M := by
  have HSM := Aside0.mk hS0; have HOK := Aside0.mk hok0; have HOKW := Aside0.mk hokw0; have HP := Aside0.mk HP0; have HWO := Aside0.mk HWO0; have HBPW := Aside0.mk (blk_lt hbxbp0); clear hS0 hok0 hokw0 HP0 HWO0
  have HXbp0 := Aside0.mk hbxbp0; have HNEbp0 := Aside0.mk hnebp0; have HCELL := Aside0.mk hcell; have HROW := Aside0.mk hrow; have HTK := Aside0.mk htk; clear hbxbp0 hnebp0 hcell hrow htk
  have Hbp0 := Aside0.mk (fun j u (hj : (#[.slice (some ⟨g0, 0, none⟩) mp.length mc, .int .i64 y0, .int .i64 y1, .int .i64 y2, .int .i64 y3, .int .i64 y4, .int .i64 y5] : Array Value)[j]? = some u) => (blk_cell HXbp0.out j).trans hj)
  have T0_ := Aside0.mk T0; clear T0; have T0 := T0_; clear T0_
  have HS0 : Aside0 (Stk w [] w) := ⟨Stk.nil w⟩
  go_enter Try.func124, Try.ntmps124
  refine reg0 (aF := ?_) [] [0] false 1 rfl rfl (by kernel_rfl) rfl (fun _ => rfl) ?aF HS0.out ?hs ?_
  rotate_left 1
  case aF => intro s; simp only [putE, EvT.val, Act.put, setIfInBounds_toArray, set_cons_zero, set_cons_succ]; rfl
  case hs => exact trivial
  intro s1 w1 h; have HS1 := Aside0.mk h; clear h HS0
  refine tlP (v := .bool false) 4 rfl ?_
  simp only [Act.put, setIfInBounds_toArray, set_cons_zero, set_cons_succ]
  refine tl0 ?_
  refine wp_seq ?_
  refine reg0 (aF := ?_) [evP 0 9 [] (fun s => .int .i64 a0_0), evP 1 10 [] (fun s => .bool false)] [] false 2 rfl rfl (by kernel_rfl) rfl (fun _ => rfl) ?aF HS1.out ?hs ?_
  rotate_left 1
  case aF => intro s; simp only [putE, EvT.val, Act.put, setIfInBounds_toArray, set_cons_zero, set_cons_succ]; rfl
  case hs => exact ⟨pu rfl, pb (q := .gtr) T0.out rfl, trivial⟩
  intro s2 w2 h; have HS2 := Aside0.mk h; clear h HS1
  refine tl0 ?_
  refine wp_cond_false rfl ?_
  refine wp_skip ?_
  refine thN ?_
  refine reg0 (aF := ?_) [evP 0 11 [] (fun s => .pointer (some ⟨bp0, 0, none⟩)), evP 1 12 [] (fun s => .pointer (some ⟨bp0, 0, none⟩)), evP 2 13 [] (fun s => .pointer (some ⟨bp0, 1, none⟩)), evP 3 14 [] (fun s => .pointer (some ⟨bp0, 3, none⟩)), evL 4 15 [] (fun s => .int .i64 y2)] [5] false 6 rfl rfl (by kernel_rfl) rfl (fun _ => rfl) ?aF HS2.out ?hs ?_
  rotate_left 1
  case aF => intro s; simp only [putE, EvT.val, Act.put, setIfInBounds_toArray, set_cons_zero, set_cons_succ]; rfl
  case hs => exact ⟨pu rfl, pu rfl (hr := fun s w => by go_simp; try rfl), pu rfl (hr := fun s w => by go_simp; try rfl), pu rfl (hr := fun s w => by go_simp; try rfl), lo rfl Hbp0.out (fun s w h => by have h0 := h 0 _ rfl; have h1 := h 1 _ rfl; have h2 := h 2 _ rfl; have h3 := h 3 _ rfl; have h4 := h 4 _ rfl; have h5 := h 5 _ rfl; have h6 := h 6 _ rfl; clear h; go_simp; try rfl), trivial⟩
  intro s3 w3 h; have HS3 := Aside0.mk h; clear h HS2
  refine tlP (v := .int .i64 y2) 5 rfl ?_
  simp only [Act.put, setIfInBounds_toArray, set_cons_zero, set_cons_succ]
  refine tl0 ?_
  have hrl : (List.replicate (a0_0.toNat) (0 : Int)).length = a0_0.toNat := by simp
  have HBS : (List.replicate (a0_0.toNat) (0 : Int)).length ≤ (madeCells #[Value.int .u8 0] (a0_0.toNat)).size := by simp [size_madeCells]
  have HBT := Aside0.mk (made_take (a0_0.toNat))
  refine wp_seq (parX (aF := ?_) 9 [evP 0 17 [] (fun s => .pointer (some ⟨bp0, 0, none⟩)), evP 1 18 [] (fun s => .pointer (some ⟨bp0, 0, none⟩)), evP 2 19 [] (fun s => .pointer (some ⟨bp0, 0, none⟩)), evP 3 20 [] (fun s => .pointer (some ⟨bp0, 0, none⟩)), evP 4 21 [] (fun s => .pointer (some ⟨bp0, 0, none⟩)), evP 5 22 [] (fun s => .pointer (some ⟨bp0, 1, none⟩)), evL 6 23 [] (fun s => .agg #[.int .i64 y0, .int .i64 y1, .int .i64 y2, .int .i64 y3]), evP 7 24 [] (fun s => .int .i64 a0_0), evC 8 (some 25) [] (fun s x => .slice (some ⟨x.lo, 0, none⟩) a0_0.toNat a0_0.toNat) (fun s x => [boxT x.lo (madeCells #[Value.int .u8 0] a0_0.toNat) 5]), evL 9 26 [8] (fun s => .tuple #[.agg #[.int .i64 x0, .int .i64 x1, .int .i64 x2, .int .i64 x3], .bool false]), evP 10 16 [] (fun s => .tuple #[.agg #[.int .i64 x0, .int .i64 x1, .int .i64 x2, .int .i64 x3], .bool false]), evP 11 27 [] (fun s => .agg #[.int .i64 x0, .int .i64 x1, .int .i64 x2, .int .i64 x3]), evP 12 28 [] (fun s => .bool false), evB 13 6 [] 48 (fun s => #[.int .i64 0, .int .i64 0, .int .i64 0, .int .i64 0]) 14 [] (fun s => #[.int .i64 x0, .int .i64 x1, .int .i64 x2, .int .i64 x3]), evS 14, evP 15 7 [] (fun s => .bool false)] (fun i => !([9] : List Nat).contains i) (fun i => !([0, 1, 2, 3, 4, 5, 6, 7, 8, 9] : List Nat).contains i) (RAp w base bp0 ok y0 y1 y2 y3 y4 y5 M) rfl rfl (by kernel_rfl) ?aF HS3.out (by kernel_rfl) (by kernel_rfl) ?pre ?post ⟨_, List.mem_of_getElem? (i := 9) rfl, rfl, rfl, rfl, fun _ _ => rfl, ?xx⟩ ?_)
  rotate_left 1
  case aF => intro s; simp only [putE, EvT.val, Act.put, setIfInBounds_toArray, set_cons_zero, set_cons_succ]; rfl
  case xx => exact xl rfl (fun s => #[.pointer (some ⟨bp0, 0, none⟩), .agg #[.int .i64 y0, .int .i64 y1, .int .i64 y2, .int .i64 y3], .slice (some ⟨(s 8).lo, 0, none⟩) a0_0.toNat a0_0.toNat]) Try.func152 (fun s w1 h => appendedX HXbp0.out HSM.out HOK.out hbase0 HWO.out (by omega) HP.out (h.get 0 rfl) (by omega) h.hb)
  case pre => exact ⟨shY (pu rfl), shY (pu rfl (hr := fun s w => by go_simp; try rfl)), shY (pu rfl (hr := fun s w => by go_simp; try rfl)), shY (pu rfl), shY (pu rfl (hr := fun s w => by go_simp; try rfl)), shY (pu rfl (hr := fun s w => by go_simp; try rfl)), shY (lo rfl Hbp0.out (fun s w h => by have h0 := h 0 _ rfl; have h1 := h 1 _ rfl; have h2 := h 2 _ rfl; have h3 := h 3 _ rfl; have h4 := h 4 _ rfl; have h5 := h 5 _ rfl; have h6 := h 6 _ rfl; clear h; go_simp; try rfl)), shY (pu rfl), shY (mkb rfl a0_0 (by omega) (by omega)), ⟨fun s x => ⟨rfl, rfl, rfl⟩, fun h => absurd (show false = true from h) (by decide)⟩, shY (pu rfl), shY (pu rfl), shY (pu rfl), shY (bv rfl (fun s w => by go_simp; try rfl)), shY (st rfl 13 0 (fun s => [.int .i64 x0, .int .i64 x1, .int .i64 x2, .int .i64 x3]) rfl (fun s w h hf => by have h0 := h 0 _ rfl; have f0 := hf 0; have h1 := h 1 _ rfl; have f1 := hf 1; have h2 := h 2 _ rfl; have f2 := hf 2; have h3 := h 3 _ rfl; have f3 := hf 3; clear h hf; go_simp; try rfl)), shY (pu rfl), trivial⟩
  case post => intro W2 wX lo hi hR; exact ⟨⟨fun s x => ⟨rfl, rfl, rfl⟩, fun h => absurd (show false = true from h) (by decide)⟩, ⟨fun s x => ⟨rfl, rfl, rfl⟩, fun h => absurd (show false = true from h) (by decide)⟩, ⟨fun s x => ⟨rfl, rfl, rfl⟩, fun h => absurd (show false = true from h) (by decide)⟩, ⟨fun s x => ⟨rfl, rfl, rfl⟩, fun h => absurd (show false = true from h) (by decide)⟩, ⟨fun s x => ⟨rfl, rfl, rfl⟩, fun h => absurd (show false = true from h) (by decide)⟩, ⟨fun s x => ⟨rfl, rfl, rfl⟩, fun h => absurd (show false = true from h) (by decide)⟩, ⟨fun s x => ⟨rfl, rfl, rfl⟩, fun h => absurd (show false = true from h) (by decide)⟩, ⟨fun s x => ⟨rfl, rfl, rfl⟩, fun h => absurd (show false = true from h) (by decide)⟩, ⟨fun s x => ⟨rfl, rfl, rfl⟩, fun h => absurd (show false = true from h) (by decide)⟩, ⟨fun s x => ⟨rfl, rfl, rfl⟩, fun h => absurd (show false = true from h) (by decide)⟩, shY (pu rfl), shY (pu rfl), shY (pu rfl), shY (bv rfl (fun s w => by go_simp; try rfl)), shY (st rfl 13 0 (fun s => [.int .i64 x0, .int .i64 x1, .int .i64 x2, .int .i64 x3]) rfl (fun s w h hf => by have h0 := h 0 _ rfl; have f0 := hf 0; have h1 := h 1 _ rfl; have f1 := hf 1; have h2 := h 2 _ rfl; have f2 := hf 2; have h3 := h 3 _ rfl; have f3 := hf 3; clear h hf; go_simp; try rfl)), shY (pu rfl), trivial⟩
  intro W2 wX loX hiX s4 w4 hR h
  refine thN ?_
  have hra_ := hR.out h (List.mem_append_right _ (List.mem_singleton.2 rfl))
  simp only [thA, List.nil_append, List.cons_append, List.append_nil, if_true, if_false, Nat.reduceLT] at h
  have hz_ := h.get 1 rfl; have hzap_ := h.apartOf 1 2 (by decide) rfl rfl; have hzge_ := h.ge 1 rfl; have HLO := Aside0.mk hR.lo_; rw [hR.sz_] at hzge_; clear hR h HS3
  obtain ⟨g6, eg_⟩ : ∃ g, g = (s4 13).lo := ⟨_, rfl⟩; rw [← eg_]; rw [← eg_] at hz_ hzap_ hzge_; clear eg_
  obtain ⟨HOS4, HK4, A2_, mc, hbx_, hS4_⟩ := hra_
  have HSZ := Aside0.mk (Stk.nil w4)
  clear HXbp0 Hbp0
  have HXbp0 := Aside0.mk (show bx bp0 #[.slice A2_ M.length mc, .int .i64 y0, .int .i64 y1, .int .i64 y2, .int .i64 y3, .int .i64 y4, .int .i64 y5] 69 w4 from hbx_); clear hbx_
  have Hbp0 : Aside0 (∀ j u, (#[.slice A2_ M.length mc, .int .i64 y0, .int .i64 y1, .int .i64 y2, .int .i64 y3, .int .i64 y4, .int .i64 y5] : Array Value)[j]? = some u → w4.cell? ⟨bp0, j, none⟩ = some u) := ⟨fun j u hj => (blk_cell HXbp0.out j).trans hj⟩
  skip
  have HXg6 := Aside0.mk (show bx g6 #[.int .i64 x0, .int .i64 x1, .int .i64 x2, .int .i64 x3] 48 w4 from hz_); clear hz_
  have Hg6 : Aside0 (∀ j u, (#[.int .i64 x0, .int .i64 x1, .int .i64 x2, .int .i64 x3] : Array Value)[j]? = some u → w4.cell? ⟨g6, j, none⟩ = some u) := ⟨fun j u hj => (blk_cell HXg6.out j).trans hj⟩
  refine wp_seq ?_
  refine reg0 (aF := ?_) [evP 0 29 [] (fun s => .bool false), evP 1 30 [] (fun s => .bool true)] [] false 2 rfl rfl (by kernel_rfl) rfl (fun _ => rfl) ?aF HSZ.out ?hs ?_
  rotate_left 1
  case aF => intro s; simp only [putE, EvT.val, Act.put, setIfInBounds_toArray, set_cons_zero, set_cons_succ]; rfl
  case hs => exact ⟨pu rfl, pu rfl, trivial⟩
  intro s5 w5 h; have HS5 := Aside0.mk h; clear h HSZ
  refine tl0 ?_
  refine wp_cond_true rfl ?_
  refine reg0 (aF := ?_) [] [0] false 1 rfl rfl (by kernel_rfl) rfl (fun _ => rfl) ?aF HS5.out ?hs ?_
  rotate_left 1
  case aF => intro s; simp only [putE, EvT.val, Act.put, setIfInBounds_toArray, set_cons_zero, set_cons_succ]; rfl
  case hs => exact trivial
  intro s6 w6 h; have HS6 := Aside0.mk h; clear h HS5
  refine tlP (v := .bool false) 4 rfl ?_
  simp only [Act.put, setIfInBounds_toArray, set_cons_zero, set_cons_succ]
  refine tl0 ?_
  refine wp_ret ?_
  go_ret
  refine ⟨by first | rfl | simp, ?_⟩
  have hb_ := HS6.out.hb; exact ⟨⟨hb_.os.trans HOS4.1, hb_.tape.trans HOS4.2.1, hb_.output.trans HOS4.2.2⟩, HK4.then_ (Kept.of_below hb_ (fun _ => False)) (fun k hk => absurd hk id), A2_, mc, (hb_.block _ (blk_lt HXbp0.out)).trans HXbp0.out, Kd.S_mono (Kd.S_below hS4_ hb_) (fun k hk => by rcases hk with hk | hk; exact .inl hk.1; exact .inr (Nat.le_trans HLO.out hk.1))⟩
set_option maxHeartbeats 8000000 in
set_option maxRecDepth 100000 in
theorem impl_Gap_widen_w2 (a0_0 : Int) (bp0 g0 gr cap mc : Nat) (cur : Array Value) (mp : List (List Int)) (row : List Int) (y0 : Int) (y1 : Int) (y2 : Int) (y3 : Int) (y4 : Int) (y5 : Int) (w : World) (hbxbp0 : bx bp0 #[.slice (some ⟨g0, 0, none⟩) mp.length mc, .int .i64 y0, .int .i64 y1, .int .i64 y2, .int .i64 y3, .int .i64 y4, .int .i64 y5] 69 w) (hnebp0 : bp0 ≠ gr) (hcell : w.cell? ⟨g0, y0.toNat, none⟩ = some (.slice (some ⟨gr, 0, none⟩) row.length cap)) (hrow : w.heap[gr]? = some (.cells cur 5 (0, 0))) (hle : row.length ≤ cap) (hcs : cur.size = cap) (htk : cur.toList.take row.length = row.map (fun x => Value.int .u8 x)) (T0 : (decide (a0_0 > 64)) = false) (base : Nat) (ok : Nat → Prop) (hS0 : Kd.S (Kd.slice 5 (Kd.int .u8)) 119 w base ok (.slice (some ⟨g0, 0, none⟩) mp.length mc) mp) (hok0 : ∀ k, ok k → k ≠ bp0) (hokw0 : ∀ k, ok k → k < w.heap.size) (hbase0 : base ≤ w.heap.size) (HWO0 : WinOk mp y0 y1 y2 y3) (M : List (List Int)) (x0 x1 x2 x3 : Int) (HP0 : appendP mp y0 y1 y2 y3 (List.replicate a0_0.toNat (0 : Int)) = (M, x0, x1, x2, x3, true)) (F0 : 0 ≤ y0) (F1 : y0 < (mp.length : Int)) (F2 : 0 ≤ y1) (F3 : 0 ≤ y2) (F4 : y2 ≤ y3) (F5 : y3 ≤ 64) (F6 : y1 + y3 ≤ (row.length : Int)) (F7 : row.length ≤ 64) (F8 : mp.length ≤ 16) (F9 : 0 ≤ y4) (F10 : y4 ≤ y5) (F11 : y5 ≤ y2) (F12 : 0 ≤ a0_0) (F13 : x2 = y2 + a0_0) (F14 : a0_0 ≤ 64) :
    Calls Try.prog 124 #[.pointer (some ⟨bp0, 0, none⟩), .int .i64 a0_0] w fun e w' => e = .returned (.bool true) ∧ (w'.os = w.os ∧ w'.tape = w.tape ∧ w'.output = w.output) ∧ Kept w w' (fun k => ok k ∨ k = bp0) ∧ ∃ A2 c2, bx bp0 #[.slice A2 (putRow M x0 (wideRow (rowB M x0) x1 y2 x2 y5 a0_0)).length c2, .int .i64 x0, .int .i64 x1, .int .i64 x2, .int .i64 x3, .int .i64 y4, .int .i64 (y5 + a0_0)] 69 w' ∧ Kd.S (Kd.slice 5 (Kd.int .u8)) 119 w' base (fun k => ok k ∨ w.heap.size ≤ k) (.slice A2 (putRow M x0 (wideRow (rowB M x0) x1 y2 x2 y5 a0_0)).length c2) (putRow M x0 (wideRow (rowB M x0) x1 y2 x2 y5 a0_0)) := by
  have HSM := Aside0.mk hS0; have HOK := Aside0.mk hok0; have HOKW := Aside0.mk hokw0; have HP := Aside0.mk HP0; have HWO := Aside0.mk HWO0; have HBPW := Aside0.mk (blk_lt hbxbp0); clear hS0 hok0 hokw0 HP0 HWO0
  have HXbp0 := Aside0.mk hbxbp0; have HNEbp0 := Aside0.mk hnebp0; have HCELL := Aside0.mk hcell; have HROW := Aside0.mk hrow; have HTK := Aside0.mk htk; clear hbxbp0 hnebp0 hcell hrow htk
  have Hbp0 := Aside0.mk (fun j u (hj : (#[.slice (some ⟨g0, 0, none⟩) mp.length mc, .int .i64 y0, .int .i64 y1, .int .i64 y2, .int .i64 y3, .int .i64 y4, .int .i64 y5] : Array Value)[j]? = some u) => (blk_cell HXbp0.out j).trans hj)
  have T0_ := Aside0.mk T0; clear T0; have T0 := T0_; clear T0_
  have HS0 : Aside0 (Stk w [] w) := ⟨Stk.nil w⟩
  go_enter Try.func124, Try.ntmps124
  refine reg0 (aF := ?_) [] [0] false 1 rfl rfl (by kernel_rfl) rfl (fun _ => rfl) ?aF HS0.out ?hs ?_
  rotate_left 1
  case aF => intro s; simp only [putE, EvT.val, Act.put, setIfInBounds_toArray, set_cons_zero, set_cons_succ]; rfl
  case hs => exact trivial
  intro s1 w1 h; have HS1 := Aside0.mk h; clear h HS0
  refine tlP (v := .bool false) 4 rfl ?_
  simp only [Act.put, setIfInBounds_toArray, set_cons_zero, set_cons_succ]
  refine tl0 ?_
  refine wp_seq ?_
  refine reg0 (aF := ?_) [evP 0 9 [] (fun s => .int .i64 a0_0), evP 1 10 [] (fun s => .bool false)] [] false 2 rfl rfl (by kernel_rfl) rfl (fun _ => rfl) ?aF HS1.out ?hs ?_
  rotate_left 1
  case aF => intro s; simp only [putE, EvT.val, Act.put, setIfInBounds_toArray, set_cons_zero, set_cons_succ]; rfl
  case hs => exact ⟨pu rfl, pb (q := .gtr) T0.out rfl, trivial⟩
  intro s2 w2 h; have HS2 := Aside0.mk h; clear h HS1
  refine tl0 ?_
  refine wp_cond_false rfl ?_
  refine wp_skip ?_
  refine thN ?_
  refine reg0 (aF := ?_) [evP 0 11 [] (fun s => .pointer (some ⟨bp0, 0, none⟩)), evP 1 12 [] (fun s => .pointer (some ⟨bp0, 0, none⟩)), evP 2 13 [] (fun s => .pointer (some ⟨bp0, 1, none⟩)), evP 3 14 [] (fun s => .pointer (some ⟨bp0, 3, none⟩)), evL 4 15 [] (fun s => .int .i64 y2)] [5] false 6 rfl rfl (by kernel_rfl) rfl (fun _ => rfl) ?aF HS2.out ?hs ?_
  rotate_left 1
  case aF => intro s; simp only [putE, EvT.val, Act.put, setIfInBounds_toArray, set_cons_zero, set_cons_succ]; rfl
  case hs => exact ⟨pu rfl, pu rfl (hr := fun s w => by go_simp; try rfl), pu rfl (hr := fun s w => by go_simp; try rfl), pu rfl (hr := fun s w => by go_simp; try rfl), lo rfl Hbp0.out (fun s w h => by have h0 := h 0 _ rfl; have h1 := h 1 _ rfl; have h2 := h 2 _ rfl; have h3 := h 3 _ rfl; have h4 := h 4 _ rfl; have h5 := h 5 _ rfl; have h6 := h 6 _ rfl; clear h; go_simp; try rfl), trivial⟩
  intro s3 w3 h; have HS3 := Aside0.mk h; clear h HS2
  refine tlP (v := .int .i64 y2) 5 rfl ?_
  simp only [Act.put, setIfInBounds_toArray, set_cons_zero, set_cons_succ]
  refine tl0 ?_
  have hrl : (List.replicate (a0_0.toNat) (0 : Int)).length = a0_0.toNat := by simp
  have HBS : (List.replicate (a0_0.toNat) (0 : Int)).length ≤ (madeCells #[Value.int .u8 0] (a0_0.toNat)).size := by simp [size_madeCells]
  have HBT := Aside0.mk (made_take (a0_0.toNat))
  refine wp_seq (parX (aF := ?_) 9 [evP 0 17 [] (fun s => .pointer (some ⟨bp0, 0, none⟩)), evP 1 18 [] (fun s => .pointer (some ⟨bp0, 0, none⟩)), evP 2 19 [] (fun s => .pointer (some ⟨bp0, 0, none⟩)), evP 3 20 [] (fun s => .pointer (some ⟨bp0, 0, none⟩)), evP 4 21 [] (fun s => .pointer (some ⟨bp0, 0, none⟩)), evP 5 22 [] (fun s => .pointer (some ⟨bp0, 1, none⟩)), evL 6 23 [] (fun s => .agg #[.int .i64 y0, .int .i64 y1, .int .i64 y2, .int .i64 y3]), evP 7 24 [] (fun s => .int .i64 a0_0), evC 8 (some 25) [] (fun s x => .slice (some ⟨x.lo, 0, none⟩) a0_0.toNat a0_0.toNat) (fun s x => [boxT x.lo (madeCells #[Value.int .u8 0] a0_0.toNat) 5]), evL 9 26 [8] (fun s => .tuple #[.agg #[.int .i64 x0, .int .i64 x1, .int .i64 x2, .int .i64 x3], .bool true]), evP 10 16 [] (fun s => .tuple #[.agg #[.int .i64 x0, .int .i64 x1, .int .i64 x2, .int .i64 x3], .bool true]), evP 11 27 [] (fun s => .agg #[.int .i64 x0, .int .i64 x1, .int .i64 x2, .int .i64 x3]), evP 12 28 [] (fun s => .bool true), evB 13 6 [] 48 (fun s => #[.int .i64 0, .int .i64 0, .int .i64 0, .int .i64 0]) 14 [] (fun s => #[.int .i64 x0, .int .i64 x1, .int .i64 x2, .int .i64 x3]), evS 14, evP 15 7 [] (fun s => .bool true)] (fun i => !([9] : List Nat).contains i) (fun i => !([0, 1, 2, 3, 4, 5, 6, 7, 8, 9] : List Nat).contains i) (RAp w base bp0 ok y0 y1 y2 y3 y4 y5 M) rfl rfl (by kernel_rfl) ?aF HS3.out (by kernel_rfl) (by kernel_rfl) ?pre ?post ⟨_, List.mem_of_getElem? (i := 9) rfl, rfl, rfl, rfl, fun _ _ => rfl, ?xx⟩ ?_)
  rotate_left 1
  case aF => intro s; simp only [putE, EvT.val, Act.put, setIfInBounds_toArray, set_cons_zero, set_cons_succ]; rfl
  case xx => exact xl rfl (fun s => #[.pointer (some ⟨bp0, 0, none⟩), .agg #[.int .i64 y0, .int .i64 y1, .int .i64 y2, .int .i64 y3], .slice (some ⟨(s 8).lo, 0, none⟩) a0_0.toNat a0_0.toNat]) Try.func152 (fun s w1 h => appendedX HXbp0.out HSM.out HOK.out hbase0 HWO.out (by omega) HP.out (h.get 0 rfl) (by omega) h.hb)
  case pre => exact ⟨shY (pu rfl), shY (pu rfl (hr := fun s w => by go_simp; try rfl)), shY (pu rfl (hr := fun s w => by go_simp; try rfl)), shY (pu rfl), shY (pu rfl (hr := fun s w => by go_simp; try rfl)), shY (pu rfl (hr := fun s w => by go_simp; try rfl)), shY (lo rfl Hbp0.out (fun s w h => by have h0 := h 0 _ rfl; have h1 := h 1 _ rfl; have h2 := h 2 _ rfl; have h3 := h 3 _ rfl; have h4 := h 4 _ rfl; have h5 := h 5 _ rfl; have h6 := h 6 _ rfl; clear h; go_simp; try rfl)), shY (pu rfl), shY (mkb rfl a0_0 (by omega) (by omega)), ⟨fun s x => ⟨rfl, rfl, rfl⟩, fun h => absurd (show false = true from h) (by decide)⟩, shY (pu rfl), shY (pu rfl), shY (pu rfl), shY (bv rfl (fun s w => by go_simp; try rfl)), shY (st rfl 13 0 (fun s => [.int .i64 x0, .int .i64 x1, .int .i64 x2, .int .i64 x3]) rfl (fun s w h hf => by have h0 := h 0 _ rfl; have f0 := hf 0; have h1 := h 1 _ rfl; have f1 := hf 1; have h2 := h 2 _ rfl; have f2 := hf 2; have h3 := h 3 _ rfl; have f3 := hf 3; clear h hf; go_simp; try rfl)), shY (pu rfl), trivial⟩
  case post => intro W2 wX lo hi hR; exact ⟨⟨fun s x => ⟨rfl, rfl, rfl⟩, fun h => absurd (show false = true from h) (by decide)⟩, ⟨fun s x => ⟨rfl, rfl, rfl⟩, fun h => absurd (show false = true from h) (by decide)⟩, ⟨fun s x => ⟨rfl, rfl, rfl⟩, fun h => absurd (show false = true from h) (by decide)⟩, ⟨fun s x => ⟨rfl, rfl, rfl⟩, fun h => absurd (show false = true from h) (by decide)⟩, ⟨fun s x => ⟨rfl, rfl, rfl⟩, fun h => absurd (show false = true from h) (by decide)⟩, ⟨fun s x => ⟨rfl, rfl, rfl⟩, fun h => absurd (show false = true from h) (by decide)⟩, ⟨fun s x => ⟨rfl, rfl, rfl⟩, fun h => absurd (show false = true from h) (by decide)⟩, ⟨fun s x => ⟨rfl, rfl, rfl⟩, fun h => absurd (show false = true from h) (by decide)⟩, ⟨fun s x => ⟨rfl, rfl, rfl⟩, fun h => absurd (show false = true from h) (by decide)⟩, ⟨fun s x => ⟨rfl, rfl, rfl⟩, fun h => absurd (show false = true from h) (by decide)⟩, shY (pu rfl), shY (pu rfl), shY (pu rfl), shY (bv rfl (fun s w => by go_simp; try rfl)), shY (st rfl 13 0 (fun s => [.int .i64 x0, .int .i64 x1, .int .i64 x2, .int .i64 x3]) rfl (fun s w h hf => by have h0 := h 0 _ rfl; have f0 := hf 0; have h1 := h 1 _ rfl; have f1 := hf 1; have h2 := h 2 _ rfl; have f2 := hf 2; have h3 := h 3 _ rfl; have f3 := hf 3; clear h hf; go_simp; try rfl)), shY (pu rfl), trivial⟩
  intro W2 wX loX hiX s4 w4 hR h
  refine thN ?_
  have hra_ := hR.out h (List.mem_append_right _ (List.mem_singleton.2 rfl))
  simp only [thA, List.nil_append, List.cons_append, List.append_nil, if_true, if_false, Nat.reduceLT] at h
  have hz_ := h.get 1 rfl; have hzap_ := h.apartOf 1 2 (by decide) rfl rfl; have hzge_ := h.ge 1 rfl; have HLO := Aside0.mk hR.lo_; rw [hR.sz_] at hzge_; clear hR h HS3
  obtain ⟨g6, eg_⟩ : ∃ g, g = (s4 13).lo := ⟨_, rfl⟩; rw [← eg_]; rw [← eg_] at hz_ hzap_ hzge_; clear eg_
  obtain ⟨HOS4, HK4, A2_, mc, hbx_, hS4_⟩ := hra_
  have hw0_ := appendP_ok HWO.out HP.out; have hwa_ := hw0_.a0; have hwb_ := hw0_.a1; have hwc_ := hw0_.s0; have hwd_ := hw0_.s1; have hwe_ := hw0_.r0; have hwf_ := hw0_.r1; have hwg_ := hw0_.n0; have hwh_ := hw0_.n1
  obtain ⟨g0, cap0_, hv_, _, _, _⟩ := Kd.S_form hS4_ (by omega)
  injection hv_ with h1_ h2_ h3_; subst h1_
  obtain ⟨gr, cap, cur, hcell_, hbg_, hokr_, hheap_, hle_, hmax_, hcs_, htk_, hback_⟩ := S_row hS4_ x0.toNat (by omega) (by unfold rowB at hwe_; omega)
  obtain ⟨row, er_⟩ : ∃ r, r = rowB M x0 := ⟨_, rfl⟩; rw [show M.getD x0.toNat [] = row from er_.symm] at hcell_ hle_ htk_ hback_; rw [← er_] at hwd_ hwe_ hwf_
  have hne6_ : g6 ≠ gr := fun e_ => by subst e_; rcases hokr_ with h_ | h_; exact absurd h_.2 (Nat.not_lt.2 hzge_); rcases hzap_ with h2_ | h2_ <;> (simp only [boxT, frm] at h2_; omega)
  have hneb_ : bp0 ≠ gr := fun e_ => by subst e_; rcases hokr_ with h_ | h_; exact HOK.out _ h_.1 rfl; have := HBPW.out; have := HLO.out; omega
  have HCELL4 := Aside0.mk hcell_; have HROWX := Aside0.mk hheap_; have HTK4 := Aside0.mk htk_; have HBACK := Aside0.mk hback_; have HOKR := Aside0.mk hokr_; have HGE6 := Aside0.mk (show w.heap.size ≤ g6 from hzge_); have HAP6 : Aside0 (g6 + 1 ≤ loX ∨ hiX ≤ g6) := ⟨hzap_⟩; clear hcell_ hheap_ htk_ hback_ hokr_ hzap_ hzge_
  have HCELL := HCELL4; have HTK := HTK4; clear HCELL4 HTK4; have HNEg6 := Aside0.mk hne6_; have HNEbp0 := Aside0.mk hneb_; clear hne6_ hneb_; have HS44 := Aside0.mk hS4_; clear hS4_
  have HSZ := Aside0.mk (Stk.nil w4)
  clear HXbp0 Hbp0
  have HXbp0 := Aside0.mk (show bx bp0 #[.slice (some ⟨g0, 0, none⟩) M.length mc, .int .i64 y0, .int .i64 y1, .int .i64 y2, .int .i64 y3, .int .i64 y4, .int .i64 y5] 69 w4 from hbx_); clear hbx_
  have Hbp0 : Aside0 (∀ j u, (#[.slice (some ⟨g0, 0, none⟩) M.length mc, .int .i64 y0, .int .i64 y1, .int .i64 y2, .int .i64 y3, .int .i64 y4, .int .i64 y5] : Array Value)[j]? = some u → w4.cell? ⟨bp0, j, none⟩ = some u) := ⟨fun j u hj => (blk_cell HXbp0.out j).trans hj⟩
  skip
  have HXg6 := Aside0.mk (show bx g6 #[.int .i64 x0, .int .i64 x1, .int .i64 x2, .int .i64 x3] 48 w4 from hz_); clear hz_
  have Hg6 : Aside0 (∀ j u, (#[.int .i64 x0, .int .i64 x1, .int .i64 x2, .int .i64 x3] : Array Value)[j]? = some u → w4.cell? ⟨g6, j, none⟩ = some u) := ⟨fun j u hj => (blk_cell HXg6.out j).trans hj⟩
  refine wp_seq ?_
  refine reg0 (aF := ?_) [evP 0 29 [] (fun s => .bool true), evP 1 30 [] (fun s => .bool false)] [] false 2 rfl rfl (by kernel_rfl) rfl (fun _ => rfl) ?aF HSZ.out ?hs ?_
  rotate_left 1
  case aF => intro s; simp only [putE, EvT.val, Act.put, setIfInBounds_toArray, set_cons_zero, set_cons_succ]; rfl
  case hs => exact ⟨pu rfl, pu rfl, trivial⟩
  intro s5 w5 h; have HS5 := Aside0.mk h; clear h HSZ
  refine tl0 ?_
  refine wp_cond_false rfl ?_
  refine wp_skip ?_
  refine thN ?_
  refine reg0 (aF := ?_) [evP 0 31 [] (fun s => .pointer (some ⟨bp0, 0, none⟩)), evP 1 32 [] (fun s => .pointer (some ⟨bp0, 0, none⟩)), evP 2 33 [] (fun s => .pointer (some ⟨bp0, 0, none⟩)), evL 3 34 [] (fun s => .agg #[.slice (some ⟨g0, 0, none⟩) M.length mc]), evL 4 35 [] (fun s => .agg #[.int .i64 x0, .int .i64 x1, .int .i64 x2, .int .i64 x3]), evC 5 (some 36) [] (fun s x => .slice (seenA gr x1 cap) x2.toNat (cap - x1.toNat)) (fun s x => [])] [6] true 7 rfl rfl (by kernel_rfl) rfl (fun _ => rfl) ?aF HS5.out ?hs ?_
  rotate_left 1
  case aF => intro s; simp only [putE, EvT.val, Act.put, setIfInBounds_toArray, set_cons_zero, set_cons_succ]; rfl
  case hs => exact ⟨pu rfl, pu rfl (hr := fun s w => by go_simp; try rfl), pu rfl (hr := fun s w => by go_simp; try rfl), lo rfl Hbp0.out (fun s w h => by have h0 := h 0 _ rfl; have h1 := h 1 _ rfl; have h2 := h 2 _ rfl; have h3 := h 3 _ rfl; have h4 := h 4 _ rfl; have h5 := h 5 _ rfl; have h6 := h 6 _ rfl; clear h; go_simp; try rfl), lo rfl Hg6.out (fun s w h => by have h0 := h 0 _ rfl; have h1 := h 1 _ rfl; have h2 := h 2 _ rfl; have h3 := h 3 _ rfl; clear h; go_simp; try rfl), cl rfl (fun s => #[.agg #[.slice (some ⟨g0, 0, none⟩) M.length mc], .agg #[.int .i64 x0, .int .i64 x1, .int .i64 x2, .int .i64 x3]]) Try.func131 (fun s w1 h => (seen_c g0 _ _ x0 x1 x2 x3 gr row.length cap w1 ((h.hb.cell (World.block_lt_of_cell? w4 _ HCELL.out)).trans HCELL.out) (by omega) (by omega) (by omega) (by omega) (by omega) (by omega) (by omega)).mono (by rintro e w2 ⟨rfl, hb⟩; exact fin0 hb)), trivial⟩
  intro s6 w6 h; have HS6 := Aside0.mk h; clear h HS5
  refine tlP (v := .slice (seenA gr x1 cap) x2.toNat (cap - x1.toNat)) 8 rfl ?_
  simp only [Act.put, setIfInBounds_toArray, set_cons_zero, set_cons_succ]
  refine tl0 ?_
  refine reg0 (aF := ?_) [evP 0 37 [] (fun s => .slice (seenA gr x1 cap) x2.toNat (cap - x1.toNat)), evP 1 38 [] (fun s => .pointer (some ⟨bp0, 0, none⟩)), evP 2 39 [] (fun s => .pointer (some ⟨bp0, 0, none⟩)), evP 3 40 [] (fun s => .pointer (some ⟨bp0, 6, none⟩)), evL 4 41 [] (fun s => .int .i64 y5), evP 5 42 [] (fun s => .int .i64 a0_0), evP 6 43 [] (fun s => .int .i64 (y5 + a0_0)), evP 7 44 [] (fun s => .slice (cutA (seenA gr x1 cap) ((y5 + a0_0).toNat) (cap - x1.toNat)) (x2.toNat - ((y5 + a0_0).toNat)) ((cap - x1.toNat) - ((y5 + a0_0).toNat))), evP 8 45 [] (fun s => .slice (seenA gr x1 cap) x2.toNat (cap - x1.toNat)), evP 9 46 [] (fun s => .pointer (some ⟨bp0, 0, none⟩)), evP 10 47 [] (fun s => .pointer (some ⟨bp0, 0, none⟩)), evP 11 48 [] (fun s => .pointer (some ⟨bp0, 6, none⟩)), evL 12 49 [] (fun s => .int .i64 y5), evP 13 50 [] (fun s => .int .i64 y2), evP 14 51 [] (fun s => .slice (cutA (seenA gr x1 cap) y5.toNat (cap - x1.toNat)) (y2.toNat - y5.toNat) ((cap - x1.toNat) - y5.toNat))] [15] true 16 rfl rfl (by kernel_rfl) rfl (fun _ => rfl) ?aF HS6.out ?hs ?_
  rotate_left 1
  case aF => intro s; simp only [putE, EvT.val, Act.put, setIfInBounds_toArray, set_cons_zero, set_cons_succ]; rfl
  case hs => exact ⟨pu rfl, pu rfl, pu rfl (hr := fun s w => by go_simp; try rfl), pu rfl (hr := fun s w => by go_simp; try rfl), lo rfl Hbp0.out (fun s w h => by have h0 := h 0 _ rfl; have h1 := h 1 _ rfl; have h2 := h 2 _ rfl; have h3 := h 3 _ rfl; have h4 := h 4 _ rfl; have h5 := h 5 _ rfl; have h6 := h 6 _ rfl; clear h; go_simp; try rfl), pu rfl, pa .add (r := y5 + a0_0) (.inl ⟨rfl, (i64_ok (n := y5 + a0_0) (by omega) (by omega))⟩) rfl, cl_ rfl (by omega) (by omega), pu rfl, pu rfl, pu rfl (hr := fun s w => by go_simp; try rfl), pu rfl (hr := fun s w => by go_simp; try rfl), lo rfl Hbp0.out (fun s w h => by have h0 := h 0 _ rfl; have h1 := h 1 _ rfl; have h2 := h 2 _ rfl; have h3 := h 3 _ rfl; have h4 := h 4 _ rfl; have h5 := h 5 _ rfl; have h6 := h 6 _ rfl; clear h; go_simp; try rfl), pu rfl, clh rfl (by omega) (by omega) (by omega), trivial⟩
  intro s7 w7 h; have HS7 := Aside0.mk h; clear h HS6
  refine tlCopyOld (some 52) rfl HS7.out (bs := (((row.drop (x1.toNat + y5.toNat)).take (y2.toNat - y5.toNat)).take (x2.toNat - ((y5 + a0_0).toNat)))) HROWX.out (by omega) HTK.out (Al.cut (C := cap - x1.toNat) (al_seen (row := row) (cap := cap) (g := gr) x1 x2 (by omega) (by omega) (by omega)) ((y5 + a0_0).toNat) (x2.toNat - ((y5 + a0_0).toNat)) (by omega) (by omega)) (len_take (seg_len (by omega)) _) (fit_take (by omega)) ((bytes_blk ((HS7.out.hb.block _ (blk_lt HROWX.out)).trans HROWX.out) HTK.out (Al.cut (C := cap - x1.toNat) (al_seen (row := row) (cap := cap) (g := gr) x1 x2 (by omega) (by omega) (by omega)) y5.toNat (y2.toNat - y5.toNat) (by omega) (by omega)) (by omega)).take _) (fun cur4 wq4 hsz4 htk4 h => ?_)
  have HQ4 := Aside0.mk h; clear h HS7
  have HROW4 := Aside0.mk (setRow_heap w4 gr _ cur4 _ _ HROWX.out); have HTK := Aside0.mk (show cur4.toList.take (spl row (x1.toNat + ((y5 + a0_0).toNat)) (((row.drop (x1.toNat + y5.toNat)).take (y2.toNat - y5.toNat)).take (x2.toNat - ((y5 + a0_0).toNat)))).length = (spl row (x1.toNat + ((y5 + a0_0).toNat)) (((row.drop (x1.toNat + y5.toNat)).take (y2.toNat - y5.toNat)).take (x2.toNat - ((y5 + a0_0).toNat)))).map (fun x => Value.int .u8 x) by rw [spl_length _ _ _ (fit_take (by omega))]; exact htk4)
  have := spl_length row (x1.toNat + ((y5 + a0_0).toNat)) (((row.drop (x1.toNat + y5.toNat)).take (y2.toNat - y5.toNat)).take (x2.toNat - ((y5 + a0_0).toNat))) (fit_take (by omega))
  have n_ := Aside0.mk ((setRow_other w4 gr bp0 cur4 HNEbp0.out).trans HXbp0.out); clear HXbp0 Hbp0; have HXbp0 : Aside0 (bx bp0 #[.slice (some ⟨g0, 0, none⟩) M.length mc, .int .i64 y0, .int .i64 y1, .int .i64 y2, .int .i64 y3, .int .i64 y4, .int .i64 y5] 69 (w4.setRow gr cur4)) := n_; clear n_
  have Hbp0 : Aside0 (∀ j u, (#[.slice (some ⟨g0, 0, none⟩) M.length mc, .int .i64 y0, .int .i64 y1, .int .i64 y2, .int .i64 y3, .int .i64 y4, .int .i64 y5] : Array Value)[j]? = some u → (w4.setRow gr cur4).cell? ⟨bp0, j, none⟩ = some u) := ⟨fun j u hj => (blk_cell HXbp0.out j).trans hj⟩
  have n_ := Aside0.mk ((setRow_other w4 gr g6 cur4 HNEg6.out).trans HXg6.out); clear HXg6 Hg6; have HXg6 : Aside0 (bx g6 #[.int .i64 x0, .int .i64 x1, .int .i64 x2, .int .i64 x3] 48 (w4.setRow gr cur4)) := n_; clear n_
  have Hg6 : Aside0 (∀ j u, (#[.int .i64 x0, .int .i64 x1, .int .i64 x2, .int .i64 x3] : Array Value)[j]? = some u → (w4.setRow gr cur4).cell? ⟨g6, j, none⟩ = some u) := ⟨fun j u hj => (blk_cell HXg6.out j).trans hj⟩
  simp only [Act.put, setIfInBounds_toArray, set_cons_zero, set_cons_succ]
  refine tl0 ?_
  have hb1_ := (HQ4.out.hb.block _ (by first | exact blk_lt HXbp0.out | (simp only [setRow_size]; exact blk_lt HXbp0.out))).trans HXbp0.out; have hb2_ := (HQ4.out.hb.block _ (by first | exact blk_lt HXg6.out | (simp only [setRow_size]; exact blk_lt HXg6.out))).trans HXg6.out
  have HSB := Aside0.mk (boxed2 hb1_ hb2_ (by have := HGE6.out; have := HBPW.out; omega)); clear hb1_ hb2_
  refine reg (aF := ?_) (nw := ?_) [evP 0 53 [] (fun s => .pointer (some ⟨bp0, 0, none⟩)), evP 1 54 [] (fun s => .pointer (some ⟨bp0, 0, none⟩)), evL 2 55 [] (fun s => .agg #[.int .i64 x0, .int .i64 x1, .int .i64 x2, .int .i64 x3]), evP 3 56 [] (fun s => .pointer (some ⟨bp0, 0, none⟩)), evP 4 57 [] (fun s => .pointer (some ⟨bp0, 0, none⟩)), evP 5 58 [] (fun s => .pointer (some ⟨bp0, 6, none⟩)), evL 6 59 [] (fun s => .int .i64 y5), evP 7 60 [] (fun s => .int .i64 a0_0), evP 8 61 [] (fun s => .int .i64 (y5 + a0_0)), evP 9 62 [] (fun s => .pointer (some ⟨bp0, 0, none⟩)), evP 10 63 [] (fun s => .pointer (some ⟨bp0, 1, none⟩)), evS 11] [12, 13, 14] [⟨0, 11, [], fun s => boxT bp0 #[.slice (some ⟨g0, 0, none⟩) M.length mc, .int .i64 x0, .int .i64 x1, .int .i64 x2, .int .i64 x3, .int .i64 y4, .int .i64 y5] 69⟩] true 15 rfl rfl (by kernel_rfl) rfl ((mf1 mf0)) ?aF ?nw HSB.out ?hs ?_
  rotate_left 2
  case aF => intro s; simp only [putE, EvT.val, Act.put, setIfInBounds_toArray, set_cons_zero, set_cons_succ]; rfl
  case nw => intro s; simp only [thA, bsA, List.nil_append, List.cons_append, List.append_nil, if_true, if_false, Nat.reduceLT, set_cons_zero, set_cons_succ]; rfl
  case hs => exact ⟨pu rfl, pu rfl, ld rfl 1 (fun s => rfl) (fun s w h => by have h0 := h 0 _ rfl; have h1 := h 1 _ rfl; have h2 := h 2 _ rfl; have h3 := h 3 _ rfl; clear h; go_simp; try rfl), pu rfl, pu rfl (hr := fun s w => by go_simp; try rfl), pu rfl (hr := fun s w => by go_simp; try rfl), ld rfl 0 (fun s => rfl) (fun s w h => by have h0 := h 0 _ rfl; have h1 := h 1 _ rfl; have h2 := h 2 _ rfl; have h3 := h 3 _ rfl; have h4 := h 4 _ rfl; have h5 := h 5 _ rfl; have h6 := h 6 _ rfl; clear h; go_simp; try rfl), pu rfl, pa .add (r := y5 + a0_0) (.inl ⟨rfl, (i64_ok (n := y5 + a0_0) (by omega) (by omega))⟩) rfl, pu rfl (hr := fun s w => by go_simp; try rfl), pu rfl (hr := fun s w => by go_simp; try rfl), sb rfl 0 0 1 (fun s => [.int .i64 x0, .int .i64 x1, .int .i64 x2, .int .i64 x3]) rfl rfl (fun s w h hf => by have h1 := h 1 _ rfl; have f1 := hf 1; have h2 := h 2 _ rfl; have f2 := hf 2; have h3 := h 3 _ rfl; have f3 := hf 3; have h4 := h 4 _ rfl; have f4 := hf 4; clear h hf; go_simp; try rfl), trivial⟩
  intro s8 w8 h; have HS8 := Aside0.mk h; clear h HSB
  refine tlP (v := .pointer (some ⟨bp0, 0, none⟩)) 64 (hr := by go_simp; try rfl) rfl ?_
  simp only [Act.put, setIfInBounds_toArray, set_cons_zero, set_cons_succ]
  refine tlP (v := .pointer (some ⟨bp0, 6, none⟩)) 65 (hr := by go_simp; try rfl) rfl ?_
  simp only [Act.put, setIfInBounds_toArray, set_cons_zero, set_cons_succ]
  refine tlStore (cs2 := #[.slice (some ⟨g0, 0, none⟩) M.length mc, .int .i64 x0, .int .i64 x1, .int .i64 x2, .int .i64 x3, .int .i64 y4, .int .i64 (y5 + a0_0)]) rfl HS8.out 0 6 [.int .i64 (y5 + a0_0)] rfl (fun h hf => by have h6 := h 6 _ rfl; have f6 := hf 6; clear h hf; go_simp; try rfl) (fun wq7 h => ?_)
  simp only [set_cons_zero, set_cons_succ] at h
  have HQ7 := Aside0.mk h; clear h HS8
  refine tl0 ?_
  refine reg0 (aF := ?_) [] [0] false 1 rfl rfl (by kernel_rfl) rfl (fun _ => rfl) ?aF HQ7.out ?hs ?_
  rotate_left 1
  case aF => intro s; simp only [putE, EvT.val, Act.put, setIfInBounds_toArray, set_cons_zero, set_cons_succ]; rfl
  case hs => exact trivial
  intro s9 w9 h; have HS9 := Aside0.mk h; clear h HQ7
  refine tlP (v := .bool true) 4 rfl ?_
  simp only [Act.put, setIfInBounds_toArray, set_cons_zero, set_cons_succ]
  refine tl0 ?_
  refine wp_ret ?_
  go_ret
  refine ⟨by first | rfl | simp, ?_⟩
  have hf_ := widen_fin (row' := wideRow row x1 y2 x2 y5 a0_0) HOS4 HK4 HOK.out HBPW.out HLO.out HGE6.out HAP6.out HOKR.out HBACK.out HROWX.out hcs_ hsz4 (spl_length _ _ _ (fit_take (by omega))) htk4 HQ4.out.hb HS9.out
  have hr_ : rowB M x0 = row := er_.symm
  have hl_ : (putRow M x0 (wideRow (rowB M x0) x1 y2 x2 y5 a0_0)).length = M.length := by unfold putRow; rw [List.length_set]
  rw [hr_] at hl_ ⊢
  exact ⟨hf_.1, hf_.2.1, some ⟨g0, 0, none⟩, mc, by rw [hl_]; exact hf_.2.2.1, by rw [hl_]; exact hf_.2.2.2⟩
end Go.Proofs.Ytoomjghabiojkaa.P


/- (*Gap).widen: what it does to the gap's box and rows. -/
namespace Go.Proofs.Ytoomjghabiojkaa.P
open Go.RowKit Go.Proofs.YtoomjghabiojkaaW.PrintWords Go.Proofs.YtoomjghabiojkaaW.PrintMore Go.Proofs.YtoomjghabiojkaaW.Mine
set_option linter.unusedVariables false
set_option linter.unusedSimpArgs false
def widenP (m : List (List Int)) (a s n c f t k : Int) : List (List Int) × Int × Int × Int × Int × Int × Int × Bool :=
  if k > 64 then (m, a, s, n, c, f, t, false)
  else
    match appendP m a s n c (List.replicate k.toNat (0 : Int)) with
    | (M, x0, x1, x2, x3, true) => (putRow M x0 (wideRow (rowB M x0) x1 n x2 t k), x0, x1, x2, x3, f, t + k, true)
    | (_, _, _, _, _, false) => (m, a, s, n, c, f, t, false)
theorem appendP_false {m M : List (List Int)} {a s n cp x0 x1 x2 x3 : Int} {l : List Int} (hP : appendP m a s n cp l = (M, x0, x1, x2, x3, false)) : M = m := by
  unfold appendP at hP
  split at hP
  · cases hP
  · split at hP
    · cases hP
      rfl
    · cases hP
theorem appendP_n {m M : List (List Int)} {a s n cp x0 x1 x2 x3 : Int} {l : List Int} (hP : appendP m a s n cp l = (M, x0, x1, x2, x3, true)) : x2 = n + (l.length : Int) := by
  unfold appendP at hP
  split at hP
  · cases hP
    rfl
  · split at hP
    · cases hP
    · cases hP
      rfl
theorem impl_Gap_widen_c {w : World} {base g c : Nat} {ok : Nat → Prop} {A : Option Addr} {m : List (List Int)} {a s n cp f t k : Int}
    (hbx : bx g #[.slice A m.length c, .int .i64 a, .int .i64 s, .int .i64 n, .int .i64 cp, .int .i64 f, .int .i64 t] 69 w) (hS : Kd.S (Kd.slice 5 (Kd.int .u8)) 119 w base ok (.slice A m.length c) m) (hok : ∀ k, ok k → k ≠ g) (hbase : base ≤ w.heap.size)
    (hw : WinOk m a s n cp) (h16 : m.length ≤ 16) (hf : 0 ≤ f) (hft : f ≤ t) (htn : t ≤ n) (hk : 0 ≤ k) :
    Calls Try.prog 124 #[.pointer (some ⟨g, 0, none⟩), .int .i64 k] w fun e_ w' =>
      e_ = .returned (.bool (widenP m a s n cp f t k).2.2.2.2.2.2.2) ∧ (w'.os = w.os ∧ w'.tape = w.tape ∧ w'.output = w.output) ∧ Kept w w' (fun k => ok k ∨ k = g) ∧
      ∃ A2 c2, bx g #[.slice A2 (widenP m a s n cp f t k).1.length c2, .int .i64 (widenP m a s n cp f t k).2.1, .int .i64 (widenP m a s n cp f t k).2.2.1, .int .i64 (widenP m a s n cp f t k).2.2.2.1, .int .i64 (widenP m a s n cp f t k).2.2.2.2.1, .int .i64 (widenP m a s n cp f t k).2.2.2.2.2.1, .int .i64 (widenP m a s n cp f t k).2.2.2.2.2.2.1] 69 w' ∧
        Kd.S (Kd.slice 5 (Kd.int .u8)) 119 w' base (fun k => ok k ∨ w.heap.size ≤ k) (.slice A2 (widenP m a s n cp f t k).1.length c2) (widenP m a s n cp f t k).1 := by
  have g1 := hw.a0; have g2 := hw.a1; have g3 := hw.c0; have g4 := hw.c1; have g5 := hw.n0; have g6 := hw.n1; have g7 := hw.s0; have g8 := hw.s1; have g9 := hw.r0; have g10 := hw.r1
  obtain ⟨g0, cap0, hv, _, _, _⟩ := Kd.S_form hS (by omega)
  injection hv with h1 h2 h3
  subst h1
  obtain ⟨gr, cap, cur, hcell, hbg, hokr, hheap, hle, hmax, hsz, htk, hback⟩ := S_row hS a.toNat (by omega) (by unfold rowB at g9; omega)
  have hne : g ≠ gr := fun e_ => hok gr hokr e_.symm
  have hrow : rowB m a = m.getD a.toNat [] := rfl
  rw [← hrow] at hcell hle htk hback
  by_cases h64 : k > 64
  · have hP : widenP m a s n cp f t k = (m, a, s, n, cp, f, t, false) := by unfold widenP; rw [if_pos h64]
    rw [hP]
    refine (impl_Gap_widen_w0 k g g0 gr cap c cur m (rowB m a) a s n cp f t w hbx hne hcell hheap hle hsz htk (decide_eq_true h64) hk).mono ?_
    rintro e_ w' ⟨rfl, hB⟩
    exact ⟨rfl, ⟨hB.os, hB.tape, hB.output⟩, Kept.of_below hB _, some ⟨g0, 0, none⟩, c, (hB.block g (blk_lt hbx)).trans hbx, Kd.S_mono (Kd.S_below hS hB) (fun k hk => .inl hk)⟩
  · have hS' : Kd.S (Kd.slice 5 (Kd.int .u8)) 119 w base (fun k => ok k ∧ k < w.heap.size) (.slice (some ⟨g0, 0, none⟩) m.length c) m := Kd.S_mono (Kd.S_bound hS) (fun k hk => ⟨hk.1, hk.2.2.1⟩)
    obtain ⟨M, x0, x1, x2, x3, b, hA⟩ : ∃ M x0 x1 x2 x3 b, appendP m a s n cp (List.replicate k.toNat (0 : Int)) = (M, x0, x1, x2, x3, b) := ⟨_, _, _, _, _, _, rfl⟩
    have hT : decide (k > 64) = false := decide_eq_false h64
    have fin : ∀ {cs : Array Value} {M' : List (List Int)} {w' : World}, ((w'.os = w.os ∧ w'.tape = w.tape ∧ w'.output = w.output) ∧ Kept w w' (fun k => (ok k ∧ k < w.heap.size) ∨ k = g) ∧ ∃ A2 c2, bx g (#[.slice A2 M'.length c2] ++ cs) 69 w' ∧ Kd.S (Kd.slice 5 (Kd.int .u8)) 119 w' base (fun k => (ok k ∧ k < w.heap.size) ∨ w.heap.size ≤ k) (.slice A2 M'.length c2) M') →
        ((w'.os = w.os ∧ w'.tape = w.tape ∧ w'.output = w.output) ∧ Kept w w' (fun k => ok k ∨ k = g) ∧ ∃ A2 c2, bx g (#[.slice A2 M'.length c2] ++ cs) 69 w' ∧ Kd.S (Kd.slice 5 (Kd.int .u8)) 119 w' base (fun k => ok k ∨ w.heap.size ≤ k) (.slice A2 M'.length c2) M') := by
      rintro cs M' w' ⟨h1, h2, A2, c2, h3, h4⟩
      exact ⟨h1, h2.mono (fun k hk => by rcases hk with hk | hk; exact .inl hk.1; exact .inr hk), A2, c2, h3, Kd.S_mono h4 (fun k hk => by rcases hk with hk | hk; exact .inl hk.1; exact .inr hk)⟩
    cases b
    · have hP : widenP m a s n cp f t k = (m, a, s, n, cp, f, t, false) := by unfold widenP; rw [if_neg h64, hA]
      rw [hP]
      obtain rfl := appendP_false hA
      refine (impl_Gap_widen_w1 k g g0 gr cap c cur M (rowB M a) a s n cp f t w hbx hne hcell hheap hle hsz htk hT base _ hS' (fun k hk => hok k hk.1) (fun k hk => hk.2) hbase hw M x0 x1 x2 x3 hA g1 g2 g7 g5 g6 g4 g8 g10 h16 hf hft htn hk (by omega)).mono ?_
      rintro e_ w' ⟨rfl, hh⟩
      exact ⟨rfl, fin (cs := #[.int .i64 a, .int .i64 s, .int .i64 n, .int .i64 cp, .int .i64 f, .int .i64 t]) hh⟩
    · have hP : widenP m a s n cp f t k = (putRow M x0 (wideRow (rowB M x0) x1 n x2 t k), x0, x1, x2, x3, f, t + k, true) := by unfold widenP; rw [if_neg h64, hA]
      rw [hP]
      have hx2 := appendP_n hA
      rw [List.length_replicate] at hx2
      refine (impl_Gap_widen_w2 k g g0 gr cap c cur m (rowB m a) a s n cp f t w hbx hne hcell hheap hle hsz htk hT base _ hS' (fun k hk => hok k hk.1) (fun k hk => hk.2) hbase hw M x0 x1 x2 x3 hA g1 g2 g7 g5 g6 g4 g8 g10 h16 hf hft htn hk (by omega) (by omega)).mono ?_
      rintro e_ w' ⟨rfl, hh⟩
      exact ⟨rfl, fin (cs := #[.int .i64 x0, .int .i64 x1, .int .i64 x2, .int .i64 x3, .int .i64 f, .int .i64 (t + k)]) hh⟩
end Go.Proofs.Ytoomjghabiojkaa.P


