/- Part 5 of the proof of the law FnExactCloseGap: contracts of the functions that it reaches. -/
import Derived.Test.YtoomjghabiojkaaQFnExactCloseGap4
namespace Go.Proofs.Ytoomjghabiojkaa.P
open Go.RowKit Go.Proofs.YtoomjghabiojkaaW.PrintWords Go.Proofs.YtoomjghabiojkaaW.PrintLast Go.Proofs.YtoomjghabiojkaaW.PrintMore
attribute [local go_sem] max2_int min2_int max_two min_two max_three min_three max_four min_four   -- for this text's walks alone
set_option linter.unusedVariables false
set_option linter.unusedSimpArgs false

def spec_l6Move.f (k : Nat) (l0_0 : List (List Int)) (a0_1 : Int) (a0_2 : Int) (a0_3 : Int) (a0_4 : Int) (a0_5 : Int) (a0_6 : Int) (a1 : Int) : Option ((List (List Int)) × Int × Int × Int × Int × Int × Int × Int) := (spec_l2Bytes.f k l0_0 a0_1 a0_2 a0_3 a0_4).bind fun t519 => (if a1 ≤ a0_5 then (if 0 ≤ a1 then (if a0_5 ≤ (t519.length : Int) then ((spec_l2Write.f k l0_0 a0_1 a0_2 a0_3 a0_4 (wrap64 (a1 + (wrap64 (a0_6 - a0_5)))) ((t519.take (a0_5 : Int).toNat).drop (a1 : Int).toNat)).bind fun t526 => (some (t526, a0_1, a0_2, a0_3, a0_4, a1, wrap64 (a1 + (wrap64 (a0_6 - a0_5))), wrap64 (a0_5 - a1)))) else (none)) else (none)) else (if 0 ≤ a0_6 then (if a0_6 ≤ (wrap64 (a1 + (wrap64 (a0_6 - a0_5)))) then (if (wrap64 (a1 + (wrap64 (a0_6 - a0_5)))) ≤ (t519.length : Int) then ((spec_l2Write.f k l0_0 a0_1 a0_2 a0_3 a0_4 a0_5 ((t519.take ((wrap64 (a1 + (wrap64 (a0_6 - a0_5)))) : Int).toNat).drop (a0_6 : Int).toNat)).bind fun t534 => (some (t534, a0_1, a0_2, a0_3, a0_4, a1, wrap64 (a1 + (wrap64 (a0_6 - a0_5))), wrap64 (a1 - a0_5)))) else (none)) else (none)) else (none)))
def spec_l6Move.T1 : Bool × List (List Nat × List Nat) := (true, [([], []), ([0], [0]), ([], []), ([2], [2]), ([1, 3], [1, 3]), ([], []), ([5], [5]), ([], []), ([7], [7]), ([6, 8], [6, 8]), ([4, 4, 0, 1, 2, 3, 4], [4]), ([9, 10, 0, 1, 2, 3, 4, 5, 6, 7, 8, 9, 10], [9])])
def spec_l6Move.B1 : List Nat := [0, 1, 0, 4, 15, 0, 32, 0, 128, 480, 31, 2047]
theorem spec_l6Move.tab1 : rtab .any (opsOf Try.f98 1) = spec_l6Move.T1 := by kernel_rfl
theorem spec_l6Move.bits1 : waitsOk spec_l6Move.T1.2 spec_l6Move.B1 = true := by kernel_rfl
def spec_l6Move.T3 : Bool × List (List Nat × List Nat) := (true, [([], []), ([0], [0]), ([], []), ([2], [2]), ([], []), ([], []), ([4, 5], [4, 5]), ([], []), ([], []), ([], []), ([9], [9]), ([7, 8, 10], [7, 8, 10]), ([1, 3, 6, 11], [1, 3, 6, 11]), ([], []), ([13, 12, 12, 0, 1, 2, 3, 4, 5, 6, 7, 8, 9, 10, 11, 12, 13], [12, 13])])
def spec_l6Move.B3 : List Nat := [0, 1, 0, 4, 0, 0, 48, 0, 0, 0, 512, 1920, 4095, 0, 16383]
theorem spec_l6Move.tab3 : rtab .any (opsOf Try.f98 3) = spec_l6Move.T3 := by kernel_rfl
theorem spec_l6Move.bits3 : waitsOk spec_l6Move.T3.2 spec_l6Move.B3 = true := by kernel_rfl
def spec_l6Move.T4 : Bool × List (List Nat × List Nat) := (true, [([], []), ([], []), ([1], [1]), ([], []), ([], []), ([], []), ([4, 5], [4, 5]), ([0, 2, 3, 6], [0, 2, 3, 6]), ([], []), ([8], [8]), ([], []), ([9, 10], [9, 10]), ([7, 0, 1, 2, 3, 4, 5, 6, 7], [7]), ([11, 12, 0, 1, 2, 3, 4, 5, 6, 7, 8, 9, 10, 11, 12], [11])])
def spec_l6Move.B4 : List Nat := [0, 0, 2, 0, 0, 0, 48, 127, 0, 256, 0, 1792, 255, 8191]
theorem spec_l6Move.tab4 : rtab .any (opsOf Try.f98 4) = spec_l6Move.T4 := by kernel_rfl
theorem spec_l6Move.bits4 : waitsOk spec_l6Move.T4.2 spec_l6Move.B4 = true := by kernel_rfl
def spec_l6Move.T5 : Bool × List (List Nat × List Nat) := (true, [([], []), ([0], [0]), ([], []), ([2], [2]), ([], []), ([4], [4]), ([], []), ([], []), ([7], [7]), ([], []), ([], []), ([9, 10], [9, 10]), ([6, 8, 11], [6, 8, 11]), ([1, 3, 5, 12], [1, 3, 5, 12]), ([], []), ([14, 13, 13, 0, 1, 2, 3, 4, 5, 6, 7, 8, 9, 10, 11, 12, 13, 14], [13, 14])])
def spec_l6Move.B5 : List Nat := [0, 1, 0, 4, 0, 16, 0, 0, 128, 0, 0, 1536, 4032, 8191, 0, 32767]
theorem spec_l6Move.tab5 : rtab .any (opsOf Try.f98 5) = spec_l6Move.T5 := by kernel_rfl
theorem spec_l6Move.bits5 : waitsOk spec_l6Move.T5.2 spec_l6Move.B5 = true := by kernel_rfl
def spec_l6Move.T6 : Bool × List (List Nat × List Nat) := (true, [([], []), ([], []), ([1], [1]), ([], []), ([], []), ([], []), ([4, 5], [4, 5]), ([0, 2, 3, 6], [0, 2, 3, 6]), ([], []), ([], []), ([9], [9]), ([8, 10], [8, 10]), ([7, 0, 1, 2, 3, 4, 5, 6, 7], [7]), ([11, 12, 0, 1, 2, 3, 4, 5, 6, 7, 8, 9, 10, 11, 12], [11])])
def spec_l6Move.B6 : List Nat := [0, 0, 2, 0, 0, 0, 48, 127, 0, 0, 512, 1792, 255, 8191]
theorem spec_l6Move.tab6 : rtab .any (opsOf Try.f98 6) = spec_l6Move.T6 := by kernel_rfl
theorem spec_l6Move.bits6 : waitsOk spec_l6Move.T6.2 spec_l6Move.B6 = true := by kernel_rfl
set_option maxHeartbeats 8000000 in
set_option maxRecDepth 100000 in
theorem spec_l6Move.calls (k : Nat) (A0_0 : Option Addr) (c0_0 : Nat) (l0_0 : List (List Int)) (a0_1 : Int) (a0_2 : Int) (a0_3 : Int) (a0_4 : Int) (a0_5 : Int) (a0_6 : Int) (a1 : Int) (r1 : List (List Int)) (r2 : Int) (r3 : Int) (r4 : Int) (r5 : Int) (r6 : Int) (r7 : Int) (r8 : Int) (w : World) (hr0_0 : Kd.C (Kd.slice 5 (Kd.int .u8)) w A0_0 l0_0.length l0_0) (hc0_0 : l0_0.length ≤ c0_0) (h : spec_l6Move.f k l0_0 a0_1 a0_2 a0_3 a0_4 a0_5 a0_6 a1 = some (r1, r2, r3, r4, r5, r6, r7, r8)) :
    Calls Try.prog 98 #[.agg #[.slice A0_0 l0_0.length c0_0, .int .i64 a0_1, .int .i64 a0_2, .int .i64 a0_3, .int .i64 a0_4, .int .i64 a0_5, .int .i64 a0_6], .int .i64 a1] w fun e w' => ∃ v0_ : Value, e = .returned (.tuple #[.agg #[v0_, .int .i64 r2, .int .i64 r3, .int .i64 r4, .int .i64 r5, .int .i64 r6, .int .i64 r7], .int .i64 r8]) ∧ Kd.S (Kd.slice 5 (Kd.int .u8)) 119 w' w.heap.size (fun _ => True) v0_ r1 ∧ Below w.heap.size w w' := by
  have hu69 := Try.underlying69
  have hu26 := Try.underlying26
  have hu48 := Try.underlying48
  have HR0_0 := Aside0.mk hr0_0
  have HC0_0 := Aside0.mk hc0_0
  clear hr0_0 hc0_0
  have HB := Aside0.mk (Below.refl w.heap.size w)
  have H : ((spec_l2Bytes.f k l0_0 a0_1 a0_2 a0_3 a0_4).bind fun t519 => (if a1 ≤ a0_5 then (if 0 ≤ a1 then (if a0_5 ≤ (t519.length : Int) then ((spec_l2Write.f k l0_0 a0_1 a0_2 a0_3 a0_4 (wrap64 (a1 + (wrap64 (a0_6 - a0_5)))) ((t519.take (a0_5 : Int).toNat).drop (a1 : Int).toNat)).bind fun t526 => (some (t526, a0_1, a0_2, a0_3, a0_4, a1, wrap64 (a1 + (wrap64 (a0_6 - a0_5))), wrap64 (a0_5 - a1)))) else (none)) else (none)) else (if 0 ≤ a0_6 then (if a0_6 ≤ (wrap64 (a1 + (wrap64 (a0_6 - a0_5)))) then (if (wrap64 (a1 + (wrap64 (a0_6 - a0_5)))) ≤ (t519.length : Int) then ((spec_l2Write.f k l0_0 a0_1 a0_2 a0_3 a0_4 a0_5 ((t519.take ((wrap64 (a1 + (wrap64 (a0_6 - a0_5)))) : Int).toNat).drop (a0_6 : Int).toNat)).bind fun t534 => (some (t534, a0_1, a0_2, a0_3, a0_4, a1, wrap64 (a1 + (wrap64 (a0_6 - a0_5))), wrap64 (a1 - a0_5)))) else (none)) else (none)) else (none)))) = some (r1, r2, r3, r4, r5, r6, r7, r8) := h
  clear h
  replace H := Option.bind_eq_some_iff.mp H
  obtain ⟨t519, A30, H⟩ := H
  replace H : (if a1 ≤ a0_5 then (if 0 ≤ a1 then (if a0_5 ≤ (t519.length : Int) then ((spec_l2Write.f k l0_0 a0_1 a0_2 a0_3 a0_4 (wrap64 (a1 + (wrap64 (a0_6 - a0_5)))) ((t519.take (a0_5 : Int).toNat).drop (a1 : Int).toNat)).bind fun t526 => (some (t526, a0_1, a0_2, a0_3, a0_4, a1, wrap64 (a1 + (wrap64 (a0_6 - a0_5))), wrap64 (a0_5 - a1)))) else (none)) else (none)) else (if 0 ≤ a0_6 then (if a0_6 ≤ (wrap64 (a1 + (wrap64 (a0_6 - a0_5)))) then (if (wrap64 (a1 + (wrap64 (a0_6 - a0_5)))) ≤ (t519.length : Int) then ((spec_l2Write.f k l0_0 a0_1 a0_2 a0_3 a0_4 a0_5 ((t519.take ((wrap64 (a1 + (wrap64 (a0_6 - a0_5)))) : Int).toNat).drop (a0_6 : Int).toNat)).bind fun t534 => (some (t534, a0_1, a0_2, a0_3, a0_4, a1, wrap64 (a1 + (wrap64 (a0_6 - a0_5))), wrap64 (a1 - a0_5)))) else (none)) else (none)) else (none))) = some (r1, r2, r3, r4, r5, r6, r7, r8) := H
  have A3 := Aside0.mk A30
  clear A30
  by_cases c4 : a1 ≤ a0_5
  · rw [if_pos c4] at H
    have c4b0 : decide (a1 ≤ a0_5) = true := decide_eq_true c4
    clear c4
    by_cases c5 : 0 ≤ a1
    · rw [if_pos c5] at H
      have c5b0 := eq_true c5
      have c5b1 : decide (0 ≤ a1) = true := decide_eq_true c5
      clear c5
      have c6b0 := eq_true (of_decide_eq_true (by first | (with_reducible assumption) | assumption) : a1 ≤ a0_5)
      by_cases c7 : a0_5 ≤ (t519.length : Int)
      · rw [if_pos c7] at H
        have c7b0 := eq_true c7
        have c7b1 : decide (a0_5 ≤ (t519.length : Int)) = true := decide_eq_true c7
        clear c7
        obtain ⟨y522, hy522⟩ : ∃ y_ : List Int, y_ = ((t519.take (a0_5 : Int).toNat).drop (a1 : Int).toNat) := ⟨_, rfl⟩
        replace H : ((spec_l2Write.f k l0_0 a0_1 a0_2 a0_3 a0_4 (wrap64 (a1 + (wrap64 (a0_6 - a0_5)))) y522).bind fun t526 => (some (t526, a0_1, a0_2, a0_3, a0_4, a1, wrap64 (a1 + (wrap64 (a0_6 - a0_5))), wrap64 (a0_5 - a1)))) = some (r1, r2, r3, r4, r5, r6, r7, r8) := by first | (rw [hy522]; with_reducible exact H) | (have H2_ := (Option.bind_some _ _).symm.trans H; rw [hy522]; with_reducible exact H2_) | (have H2_ := (Option.bind_some _ _).symm.trans H; with_reducible exact H2_) | with_reducible exact H | (rw [hy522]; exact H) | exact H
        have Ny522 := Aside0.mk hy522
        clear hy522
        replace H := Option.bind_eq_some_iff.mp H
        obtain ⟨t526, A80, H⟩ := H
        replace H : (some (t526, a0_1, a0_2, a0_3, a0_4, a1, wrap64 (a1 + (wrap64 (a0_6 - a0_5))), wrap64 (a0_5 - a1))) = some (r1, r2, r3, r4, r5, r6, r7, r8) := H
        have A8 := Aside0.mk A80
        clear A80
        simp only [Option.some.injEq, Prod.mk.injEq] at H
        obtain ⟨rfl, rfl, rfl, rfl, rfl, rfl, rfl, rfl⟩ := H
        go_enter Try.func98, Try.ntmps98
        try go_wp2_with (first | ((with_reducible refine gate_dst (N := 2) rfl ?_); refine box_event ?hg (N := 2) ?hd (cs := #[.slice A0_0 l0_0.length c0_0, .int .i64 a0_1, .int .i64 a0_2, .int .i64 a0_3, .int .i64 a0_4, .int .i64 a0_5, .int .i64 a0_6]) (t := 69) ?hr ?_; (case hd => rfl); (case hg => rfl); (case hr => first | (go_simp; done) | (go_simp; rfl)); intro gb517 hg w9 hbox hb; have n0_ := Aside0.mk (below_step (by repeat (first | (with_reducible first | exact HB.out | apply below_alloc | apply pw_below_drewN | apply below_drew1) | exact HB.out)) hb); have n1_ := Aside0.mk (hbox); have n2_ := Aside0.mk ((by rw [hg]; exact (below_size (by repeat (first | (with_reducible first | exact HB.out | apply below_alloc | apply pw_below_drewN | apply below_drew1) | exact HB.out))) : w.heap.size ≤ gb517)); have n3_ := Aside0.mk ((by rw [hg]; exact (below_size (by repeat (first | (with_reducible first | exact HB.out | apply below_alloc | apply pw_below_drewN | apply below_drew1) | exact HB.out))) : w.heap.size ≤ gb517)); clear HB; have HB := n0_; have BK517 := n1_; have GW517 := n2_; have GE517 := n3_; clear n0_ n1_ n2_ n3_; clear hb hbox hg) | ((with_reducible refine gate_dst (N := 4) rfl ?_); refine box_event ?hg (N := 4) ?hd (cs := #[.slice none 0 0, .int .i64 0, .int .i64 0, .int .i64 0, .int .i64 0, .int .i64 0, .int .i64 0]) (t := 69) ?hr ?_; (case hd => rfl); (case hg => rfl); (case hr => first | (go_simp; done) | (go_simp; rfl)); intro gb518 hg w10 hbox hb; have n0_ := Aside0.mk (blk_below (g := gb517) (o := .cells #[.slice A0_0 l0_0.length c0_0, .int .i64 a0_1, .int .i64 a0_2, .int .i64 a0_3, .int .i64 a0_4, .int .i64 a0_5, .int .i64 a0_6] 69 (0, 0)) (by (with_reducible repeat (first | refine blk_drewN ?_ _ | refine blk_drew ?_ | refine blk_alloc ?_ _)); exact BK517.out) hb); have n1_ := Aside0.mk (below_step (by repeat (first | (with_reducible first | exact HB.out | apply below_alloc | apply pw_below_drewN | apply below_drew1 | refine below_set ?_ GE517.out) | exact HB.out)) hb); have n2_ := Aside0.mk (hbox); have n3_ := Aside0.mk ((by rw [hg]; exact (below_size (by repeat (first | (with_reducible first | exact HB.out | apply below_alloc | apply pw_below_drewN | apply below_drew1 | refine below_set ?_ GE517.out) | exact HB.out))) : w.heap.size ≤ gb518)); have n4_ := Aside0.mk ((by rw [hg]; exact (below_size (by repeat (first | (with_reducible first | exact HB.out | apply below_alloc | apply pw_below_drewN | apply below_drew1 | refine below_set ?_ GE517.out) | exact HB.out))) : w.heap.size ≤ gb518)); have n5_ := Aside0.mk ((by rw [hg]; exact Nat.ne_of_lt (blk_lt (g := gb517) (o := .cells #[.slice A0_0 l0_0.length c0_0, .int .i64 a0_1, .int .i64 a0_2, .int .i64 a0_3, .int .i64 a0_4, .int .i64 a0_5, .int .i64 a0_6] 69 (0, 0)) (by (with_reducible repeat (first | refine blk_drewN ?_ _ | refine blk_drew ?_ | refine blk_alloc ?_ _)); exact BK517.out)) : gb517 ≠ gb518)); have n6_ := Aside0.mk ((by rw [hg]; exact Nat.ne_of_gt (blk_lt (g := gb517) (o := .cells #[.slice A0_0 l0_0.length c0_0, .int .i64 a0_1, .int .i64 a0_2, .int .i64 a0_3, .int .i64 a0_4, .int .i64 a0_5, .int .i64 a0_6] 69 (0, 0)) (by (with_reducible repeat (first | refine blk_drewN ?_ _ | refine blk_drew ?_ | refine blk_alloc ?_ _)); exact BK517.out)) : gb518 ≠ gb517)); clear BK517; clear HB; have BK517 := n0_; have HB := n1_; have BK518 := n2_; have GW518 := n3_; have GE518 := n4_; have NB517_518 := n5_; have NB518_517 := n6_; clear n0_ n1_ n2_ n3_ n4_ n5_ n6_; clear hb hbox hg))
        have n0_ := Aside0.mk (blk_drew BK517.out)
        have n1_ := Aside0.mk (blk_drew BK518.out)
        have n2_ := Aside0.mk (below_drew1 HB.out)
        clear BK517
        clear BK518
        clear HB
        have BK517 := n0_
        have BK518 := n1_
        have HB := n2_
        clear n0_ n1_ n2_
        refine start_ (n := 12) (S := fun w' => w'.cell? ⟨gb517, 0, none⟩ = some (.slice A0_0 l0_0.length c0_0) ∧ w'.cell? ⟨gb517, 1, none⟩ = some (.int .i64 a0_1) ∧ w'.cell? ⟨gb517, 2, none⟩ = some (.int .i64 a0_2) ∧ w'.cell? ⟨gb517, 3, none⟩ = some (.int .i64 a0_3) ∧ w'.cell? ⟨gb517, 4, none⟩ = some (.int .i64 a0_4) ∧ w'.cell? ⟨gb517, 5, none⟩ = some (.int .i64 a0_5) ∧ w'.cell? ⟨gb517, 6, none⟩ = some (.int .i64 a0_6)) (ds := []) #[false, false, false, false, false, false, false, false, false, false, false, false] (by kernel_rfl) rfl rfl ⟨(blk_cell BK517.out 0).trans rfl, (blk_cell BK517.out 1).trans rfl, (blk_cell BK517.out 2).trans rfl, (blk_cell BK517.out 3).trans rfl, (blk_cell BK517.out 4).trans rfl, (blk_cell BK517.out 5).trans rfl, (blk_cell BK517.out 6).trans rfl⟩ (fun hHeld => ?_); refine with_tabW spec_l6Move.tab1 spec_l6Move.bits1 (fun HT_ HW_ => ?_)
        generalize w10.drew = w11 at BK517 BK518 HB hHeld ⊢
        refine pure_ (i := 0) (N := some 10) (v := ?_) (a' := ?_) #[true, false, false, false, false, false, false, false, false, false, false, false] rfl rfl (any_of HT_.out (by kernel_rfl)) (fun _ _ _ h => h) (Or.inl ⟨by rfl, ?_⟩) ?_ ?_
        rotate_left
        · intro w'
          go_simp
          with_reducible rfl
        rotate_left
        · simp only [Act.put, List.setIfInBounds_toArray, List.set_cons_zero, List.set_cons_succ, i64_w, i32_w]
          rfl
        refine pure_ (i := 2) (N := some 12) (v := ?_) (a' := ?_) #[true, false, true, false, false, false, false, false, false, false, false, false] rfl rfl (any_of HT_.out (by kernel_rfl)) (fun _ _ _ h => h) (Or.inl ⟨by rfl, ?_⟩) ?_ ?_
        rotate_left
        · intro w'
          go_simp
          with_reducible rfl
        rotate_left
        · simp only [Act.put, List.setIfInBounds_toArray, List.set_cons_zero, List.set_cons_succ, i64_w, i32_w]
          rfl
        refine pure_ (i := 5) (N := some 15) (v := ?_) (a' := ?_) #[true, false, true, false, false, true, false, false, false, false, false, false] rfl rfl (any_of HT_.out (by kernel_rfl)) (fun _ _ _ h => h) (Or.inl ⟨by rfl, ?_⟩) ?_ ?_
        rotate_left
        · intro w'
          go_simp
          with_reducible rfl
        rotate_left
        · simp only [Act.put, List.setIfInBounds_toArray, List.set_cons_zero, List.set_cons_succ, i64_w, i32_w]
          rfl
        refine pure_ (i := 7) (N := some 17) (v := ?_) (a' := ?_) #[true, false, true, false, false, true, false, true, false, false, false, false] rfl rfl (any_of HT_.out (by kernel_rfl)) (fun _ _ _ h => h) (Or.inl ⟨by rfl, ?_⟩) ?_ ?_
        rotate_left
        · intro w'
          go_simp
          with_reducible rfl
        rotate_left
        · simp only [Act.put, List.setIfInBounds_toArray, List.set_cons_zero, List.set_cons_succ, i64_w, i32_w]
          rfl
        refine take_ (i := 1) (N := some 11) (v := ?_) (a' := ?_) #[true, true, true, false, false, true, false, true, false, false, false, false] rfl rfl (take_ofW HT_.out HW_.out (by kernel_rfl)) (fun _ _ _ h => h) (Or.inl ⟨by rfl, ?_⟩) hHeld ?_ ?_
        rotate_left
        · rintro w' ⟨s0, s1, s2, s3, s4, s5, s6⟩
          go_simp
          with_reducible rfl
        rotate_left
        · simp only [Act.put, List.setIfInBounds_toArray, List.set_cons_zero, List.set_cons_succ, i64_w, i32_w]
          rfl
        refine take_ (i := 3) (N := some 13) (v := ?_) (a' := ?_) #[true, true, true, true, false, true, false, true, false, false, false, false] rfl rfl (take_ofW HT_.out HW_.out (by kernel_rfl)) (fun _ _ _ h => h) (Or.inl ⟨by rfl, ?_⟩) hHeld ?_ ?_
        rotate_left
        · rintro w' ⟨s0, s1, s2, s3, s4, s5, s6⟩
          go_simp
          with_reducible rfl
        rotate_left
        · simp only [Act.put, List.setIfInBounds_toArray, List.set_cons_zero, List.set_cons_succ, i64_w, i32_w]
          rfl
        refine take_ (i := 6) (N := some 16) (v := ?_) (a' := ?_) #[true, true, true, true, false, true, true, true, false, false, false, false] rfl rfl (take_ofW HT_.out HW_.out (by kernel_rfl)) (fun _ _ _ h => h) (Or.inl ⟨by rfl, ?_⟩) hHeld ?_ ?_
        rotate_left
        · rintro w' ⟨s0, s1, s2, s3, s4, s5, s6⟩
          go_simp
          with_reducible rfl
        rotate_left
        · simp only [Act.put, List.setIfInBounds_toArray, List.set_cons_zero, List.set_cons_succ, i64_w, i32_w]
          rfl
        refine take_ (i := 8) (N := some 18) (v := ?_) (a' := ?_) #[true, true, true, true, false, true, true, true, true, false, false, false] rfl rfl (take_ofW HT_.out HW_.out (by kernel_rfl)) (fun _ _ _ h => h) (Or.inl ⟨by rfl, ?_⟩) hHeld ?_ ?_
        rotate_left
        · rintro w' ⟨s0, s1, s2, s3, s4, s5, s6⟩
          go_simp
          with_reducible rfl
        rotate_left
        · simp only [Act.put, List.setIfInBounds_toArray, List.set_cons_zero, List.set_cons_succ, i64_w, i32_w]
          rfl
        refine pure_ (i := 9) (N := some 19) (v := ?_) (a' := ?_) #[true, true, true, true, false, true, true, true, true, true, false, false] rfl rfl (any_of HT_.out (by kernel_rfl)) (fun _ _ _ h => h) (Or.inl ⟨by rfl, ?_⟩) ?_ ?_
        rotate_left
        · intro w'
          go_simp
          with_reducible rfl
        rotate_left
        · simp only [Act.put, List.setIfInBounds_toArray, List.set_cons_zero, List.set_cons_succ, i64_w, i32_w]
          rfl
        refine one_ (i := 4) (N := some 14) #[true, true, true, true, true, true, true, true, true, true, false, false] rfl rfl (one_of HT_.out (by kernel_rfl)) (by decide) (fun K hK => ?_)
        refine goes_ Try.func142 (by kernel_rfl) rfl #[.agg #[.slice A0_0 l0_0.length c0_0], .agg #[.int .i64 a0_1, .int .i64 a0_2, .int .i64 a0_3, .int .i64 a0_4]] (by rfl) rfl rfl (by (try simp only [List.map_toArray, List.map_cons, List.map_nil]); first | done | rfl | (simp only [List.length_drop, List.length_take]; rfl)) ?_
        with_reducible refine (spec_l2Bytes.calls k _ _ l0_0 a0_1 a0_2 a0_3 a0_4 t519 _ ?side1 ?side2 A3.out).mono ?_
        (case side1 => repeat (first | exact (Kd.C_below HR0_0.out HB.out) | (with_reducible refine Kd.C_alloc ?_ _) | (with_reducible refine Kd.C_drewN ?_ _) | (with_reducible refine Kd.C_drew ?_)))
        (case side2 => exact HC0_0.out)
        rintro e w12 ⟨v520, rfl, ho0, hb⟩
        refine ⟨_, rfl, ?_⟩
        have n0_ := Aside0.mk (Kd.R_lower ho0 (below_size (by repeat (first | (with_reducible first | exact HB.out | apply below_alloc | apply pw_below_drewN | apply below_drew1 | refine below_set ?_ GE517.out | refine below_set ?_ GE518.out) | exact HB.out))))
        have n1_ := Aside0.mk (blk_below (g := gb517) (o := .cells #[.slice A0_0 l0_0.length c0_0, .int .i64 a0_1, .int .i64 a0_2, .int .i64 a0_3, .int .i64 a0_4, .int .i64 a0_5, .int .i64 a0_6] 69 (0, 0)) (by (with_reducible repeat (first | refine blk_drewN ?_ _ | refine blk_drew ?_ | refine blk_alloc ?_ _)); exact BK517.out) hb)
        have n2_ := Aside0.mk (blk_below (g := gb518) (o := .cells #[.slice none 0 0, .int .i64 0, .int .i64 0, .int .i64 0, .int .i64 0, .int .i64 0, .int .i64 0] 69 (0, 0)) (by (with_reducible repeat (first | refine blk_drewN ?_ _ | refine blk_drew ?_ | refine blk_alloc ?_ _)); exact BK518.out) hb)
        have n3_ := Aside0.mk (below_step (by repeat (first | (with_reducible first | exact HB.out | apply below_alloc | apply pw_below_drewN | apply below_drew1 | refine below_set ?_ GE517.out | refine below_set ?_ GE518.out) | exact HB.out)) hb)
        clear BK517
        clear BK518
        clear HB
        have HO521 := n0_
        have BK517 := n1_
        have BK518 := n2_
        have HB := n3_
        clear n0_ n1_ n2_ n3_
        (try clear hb)
        (try clear hb2)
        (try clear hk)
        (try clear hi)
        (try clear ho0)
        refine hK.out _ _ ⟨(blk_cell BK517.out 0).trans rfl, (blk_cell BK517.out 1).trans rfl, (blk_cell BK517.out 2).trans rfl, (blk_cell BK517.out 3).trans rfl, (blk_cell BK517.out 4).trans rfl, (blk_cell BK517.out 5).trans rfl, (blk_cell BK517.out 6).trans rfl⟩ (fun hHeld => ?_)
        clear hK K
        refine norm_ (a' := ?_) ?_ ?_
        rotate_left
        · show Act.put _ (some 14) _ = _
          simp only [Act.put, List.setIfInBounds_toArray, List.set_cons_zero, List.set_cons_succ, i64_w, i32_w]
          rfl
        refine pure_ (i := 10) (N := some 6) (v := ?_) (a' := ?_) #[true, true, true, true, true, true, true, true, true, true, true, false] rfl rfl (any_of HT_.out (by kernel_rfl)) (fun _ _ _ h => h) (Or.inl ⟨by rfl, ?_⟩) ?_ ?_
        rotate_left
        · intro w'
          go_simp
          with_reducible rfl
        rotate_left
        · simp only [Act.put, List.setIfInBounds_toArray, List.set_cons_zero, List.set_cons_succ, i64_w, i32_w]
          rfl
        refine pure_ (i := 11) (N := some 7) (v := ?_) (a' := ?_) #[true, true, true, true, true, true, true, true, true, true, true, true] rfl rfl (any_of HT_.out (by kernel_rfl)) (fun _ _ _ h => h) (Or.inl ⟨by rfl, ?_⟩) ?_ ?_
        rotate_left
        · intro w'
          go_simp
          with_reducible rfl
        rotate_left
        · simp only [Act.put, List.setIfInBounds_toArray, List.set_cons_zero, List.set_cons_succ, i64_w, i32_w]
          rfl
        refine done_ (done_of HT_.out (by kernel_rfl)) ?_
        have hnb13 := NB517_518.out
        have hnc13 := NB518_517.out
        have hcz14_0 : w12.cell? ⟨gb517, 0, none⟩ = some (.slice A0_0 l0_0.length c0_0) := (blk_cell BK517.out 0).trans rfl
        have hcz14_1 : w12.cell? ⟨gb517, 1, none⟩ = some (.int .i64 a0_1) := (blk_cell BK517.out 1).trans rfl
        have hcz14_2 : w12.cell? ⟨gb517, 2, none⟩ = some (.int .i64 a0_2) := (blk_cell BK517.out 2).trans rfl
        have hcz14_3 : w12.cell? ⟨gb517, 3, none⟩ = some (.int .i64 a0_3) := (blk_cell BK517.out 3).trans rfl
        have hcz14_4 : w12.cell? ⟨gb517, 4, none⟩ = some (.int .i64 a0_4) := (blk_cell BK517.out 4).trans rfl
        have hcz14_5 : w12.cell? ⟨gb517, 5, none⟩ = some (.int .i64 a0_5) := (blk_cell BK517.out 5).trans rfl
        have hcz14_6 : w12.cell? ⟨gb517, 6, none⟩ = some (.int .i64 a0_6) := (blk_cell BK517.out 6).trans rfl
        have hfz14_0 := blk_frozen BK517.out 0
        have hfz14_1 := blk_frozen BK517.out 1
        have hfz14_2 := blk_frozen BK517.out 2
        have hfz14_3 := blk_frozen BK517.out 3
        have hfz14_4 := blk_frozen BK517.out 4
        have hfz14_5 := blk_frozen BK517.out 5
        have hfz14_6 := blk_frozen BK517.out 6
        try go_wp2
        have n0_ := Aside0.mk (Kd.R_drew HO521.out)
        have n1_ := Aside0.mk (blk_drew BK517.out)
        have n2_ := Aside0.mk (blk_drew BK518.out)
        have n3_ := Aside0.mk (below_drew1 HB.out)
        clear HO521
        clear BK517
        clear BK518
        clear HB
        have HO521 := n0_
        have BK517 := n1_
        have BK518 := n2_
        have HB := n3_
        clear n0_ n1_ n2_ n3_
        obtain ⟨Ao17, co17, eo17⟩ := Kd.R_slice HO521.out
        (first | subst eo17 | (injection eo17 with f1_ f2_ f3_; have f4_ := f1_.symm; have f5_ := f3_.symm; clear f1_ f2_ f3_; subst f4_; subst f5_))
        have q16 : (a0_5 : Int) ≤ ((t519.length : Int) : Int) := of_decide_eq_true (by first | (with_reducible assumption) | assumption)
        obtain ⟨i016, hi016, _, hsz16, _⟩ := info_parts info5
        have hroom16 : t519.length ≤ co17 := (Kd.R_reads' HO521.out).2.1
        have hC16 : Kd.C (Kd.int .u8) _ Ao17 t519.length t519 := (Kd.R_reads' HO521.out).2.2
        have ql16 : (a1 : Int) ≤ (a0_5 : Int) := of_decide_eq_true (by first | (with_reducible assumption) | assumption)
        have q016 : (0 : Int) ≤ (a1 : Int) := of_decide_eq_true (by first | (with_reducible assumption) | assumption)
        have hcut16 := cut_mid (P := Try.prog) 119 5 .i64 .i64 Try.underlying119 hi016 1 hsz16 Ao17 t519.length co17 a1 a0_5 q016 ql16 q16 hroom16
        have hr16 := Kd.C_mid (lo := (a1 : Int).toNat) (hi := (a0_5 : Int).toNat) (c := co17) hC16 (by omega) (by omega) hroom16
        obtain ⟨A16, hA16⟩ : ∃ A1, A1 = (if co17 = (a1 : Int).toNat then Ao17 else (Ao17 : Option Addr).map (·.add ((a1 : Int).toNat * 1))) := ⟨_, rfl⟩
        obtain ⟨c16, hc16⟩ : ∃ c1, c1 = co17 - (a1 : Int).toNat := ⟨_, rfl⟩
        have hy16 : y522.length = (a0_5 : Int).toNat - (a1 : Int).toNat := (by rw [Ny522.out, List.length_drop, List.length_take] <;> omega)
        rw [show ((t519).take (a0_5 : Int).toNat).drop (a1 : Int).toNat = y522 from Ny522.out.symm] at hr16
        replace hr16 : Kd.C (Kd.int .u8) _ A16 y522.length y522 := (by rw [hA16]; exact hr16)
        rw [← hy16, ← hA16, ← hc16] at hcut16
        have HR525 := Aside0.mk hr16
        have HC525 := Aside0.mk (show y522.length ≤ c16 from by rw [hy16, hc16]; exact Nat.sub_le_sub_right (Nat.le_trans (by omega) hroom16) _)
        clear hr16 hC16 hroom16 hi016 hsz16 hc16
        have KY16 := Aside0.mk hy16
        have KA16 := Aside0.mk hA16
        clear hy16 hA16
        have KL16 := Aside0.mk (show (a0_5 : Int).toNat ≤ t519.length from by omega)
        have KM16 := Aside0.mk (show (a1 : Int).toNat ≤ (a0_5 : Int).toNat from by omega)
        replace q16 := eq_true q16
        refine start_ (n := 15) (S := fun w' => w'.cell? ⟨gb517, 0, none⟩ = some (.slice A0_0 l0_0.length c0_0) ∧ w'.cell? ⟨gb517, 1, none⟩ = some (.int .i64 a0_1) ∧ w'.cell? ⟨gb517, 2, none⟩ = some (.int .i64 a0_2) ∧ w'.cell? ⟨gb517, 3, none⟩ = some (.int .i64 a0_3) ∧ w'.cell? ⟨gb517, 4, none⟩ = some (.int .i64 a0_4) ∧ w'.cell? ⟨gb517, 5, none⟩ = some (.int .i64 a0_5) ∧ w'.cell? ⟨gb517, 6, none⟩ = some (.int .i64 a0_6)) (ds := []) #[false, false, false, false, false, false, false, false, false, false, false, false, false, false, false] (by kernel_rfl) rfl rfl ⟨(blk_cell BK517.out 0).trans rfl, (blk_cell BK517.out 1).trans rfl, (blk_cell BK517.out 2).trans rfl, (blk_cell BK517.out 3).trans rfl, (blk_cell BK517.out 4).trans rfl, (blk_cell BK517.out 5).trans rfl, (blk_cell BK517.out 6).trans rfl⟩ (fun hHeld => ?_); refine with_tabW spec_l6Move.tab3 spec_l6Move.bits3 (fun HT_ HW_ => ?_)
        generalize w12.drew = w15 at HO521 BK517 BK518 HB HR525 hHeld ⊢
        refine pure_ (i := 0) (N := some 24) (v := ?_) (a' := ?_) #[true, false, false, false, false, false, false, false, false, false, false, false, false, false, false] rfl rfl (any_of HT_.out (by kernel_rfl)) (fun _ _ _ h => h) (Or.inl ⟨by rfl, ?_⟩) ?_ ?_
        rotate_left
        · intro w'
          go_simp
          with_reducible rfl
        rotate_left
        · simp only [Act.put, List.setIfInBounds_toArray, List.set_cons_zero, List.set_cons_succ, i64_w, i32_w]
          rfl
        refine pure_ (i := 2) (N := some 26) (v := ?_) (a' := ?_) #[true, false, true, false, false, false, false, false, false, false, false, false, false, false, false] rfl rfl (any_of HT_.out (by kernel_rfl)) (fun _ _ _ h => h) (Or.inl ⟨by rfl, ?_⟩) ?_ ?_
        rotate_left
        · intro w'
          go_simp
          with_reducible rfl
        rotate_left
        · simp only [Act.put, List.setIfInBounds_toArray, List.set_cons_zero, List.set_cons_succ, i64_w, i32_w]
          rfl
        refine pure_ (i := 4) (N := some 28) (v := ?_) (a' := ?_) #[true, false, true, false, true, false, false, false, false, false, false, false, false, false, false] rfl rfl (any_of HT_.out (by kernel_rfl)) (fun _ _ _ h => h) (Or.inl ⟨by rfl, ?_⟩) ?_ ?_
        rotate_left
        · intro w'
          go_simp
          with_reducible rfl
        rotate_left
        · simp only [Act.put, List.setIfInBounds_toArray, List.set_cons_zero, List.set_cons_succ, i64_w, i32_w]
          rfl
        refine pure_ (i := 5) (N := some 29) (v := ?_) (a' := ?_) #[true, false, true, false, true, true, false, false, false, false, false, false, false, false, false] rfl rfl (any_of HT_.out (by kernel_rfl)) (fun _ _ _ h => h) (Or.inl ⟨by rfl, ?_⟩) ?_ ?_
        rotate_left
        · intro w'
          go_simp
          with_reducible rfl
        rotate_left
        · simp only [Act.put, List.setIfInBounds_toArray, List.set_cons_zero, List.set_cons_succ, i64_w, i32_w]
          rfl
        refine pure_ (i := 6) (N := some 30) (v := ?_) (a' := ?_) #[true, false, true, false, true, true, true, false, false, false, false, false, false, false, false] rfl rfl (any_of HT_.out (by kernel_rfl)) (fun _ _ _ h => h) (Or.inl ⟨by rfl, ?_⟩) ?_ ?_
        rotate_left
        · intro w'
          go_simp
          with_reducible rfl
        rotate_left
        · simp only [Act.put, List.setIfInBounds_toArray, List.set_cons_zero, List.set_cons_succ, i64_w, i32_w]
          rfl
        refine pure_ (i := 7) (N := some 31) (v := ?_) (a' := ?_) #[true, false, true, false, true, true, true, true, false, false, false, false, false, false, false] rfl rfl (any_of HT_.out (by kernel_rfl)) (fun _ _ _ h => h) (Or.inl ⟨by rfl, ?_⟩) ?_ ?_
        rotate_left
        · intro w'
          go_simp
          with_reducible rfl
        rotate_left
        · simp only [Act.put, List.setIfInBounds_toArray, List.set_cons_zero, List.set_cons_succ, i64_w, i32_w]
          rfl
        refine pure_ (i := 8) (N := some 32) (v := ?_) (a' := ?_) #[true, false, true, false, true, true, true, true, true, false, false, false, false, false, false] rfl rfl (any_of HT_.out (by kernel_rfl)) (fun _ _ _ h => h) (Or.inl ⟨by rfl, ?_⟩) ?_ ?_
        rotate_left
        · intro w'
          go_simp
          with_reducible rfl
        rotate_left
        · simp only [Act.put, List.setIfInBounds_toArray, List.set_cons_zero, List.set_cons_succ, i64_w, i32_w]
          rfl
        refine pure_ (i := 9) (N := some 33) (v := ?_) (a' := ?_) #[true, false, true, false, true, true, true, true, true, true, false, false, false, false, false] rfl rfl (any_of HT_.out (by kernel_rfl)) (fun _ _ _ h => h) (Or.inl ⟨by rfl, ?_⟩) ?_ ?_
        rotate_left
        · intro w'
          go_simp
          with_reducible rfl
        rotate_left
        · simp only [Act.put, List.setIfInBounds_toArray, List.set_cons_zero, List.set_cons_succ, i64_w, i32_w]
          rfl
        refine take_ (i := 1) (N := some 25) (v := ?_) (a' := ?_) #[true, true, true, false, true, true, true, true, true, true, false, false, false, false, false] rfl rfl (take_ofW HT_.out HW_.out (by kernel_rfl)) (fun _ _ _ h => h) (Or.inl ⟨by rfl, ?_⟩) hHeld ?_ ?_
        rotate_left
        · rintro w' ⟨s0, s1, s2, s3, s4, s5, s6⟩
          go_simp
          with_reducible rfl
        rotate_left
        · simp only [Act.put, List.setIfInBounds_toArray, List.set_cons_zero, List.set_cons_succ, i64_w, i32_w]
          rfl
        refine take_ (i := 3) (N := some 27) (v := ?_) (a' := ?_) #[true, true, true, true, true, true, true, true, true, true, false, false, false, false, false] rfl rfl (take_ofW HT_.out HW_.out (by kernel_rfl)) (fun _ _ _ h => h) (Or.inl ⟨by rfl, ?_⟩) hHeld ?_ ?_
        rotate_left
        · rintro w' ⟨s0, s1, s2, s3, s4, s5, s6⟩
          go_simp
          with_reducible rfl
        rotate_left
        · simp only [Act.put, List.setIfInBounds_toArray, List.set_cons_zero, List.set_cons_succ, i64_w, i32_w]
          rfl
        refine take_ (i := 10) (N := some 34) (v := ?_) (a' := ?_) #[true, true, true, true, true, true, true, true, true, true, true, false, false, false, false] rfl rfl (take_ofW HT_.out HW_.out (by kernel_rfl)) (fun _ _ _ h => h) (Or.inl ⟨by rfl, ?_⟩) hHeld ?_ ?_
        rotate_left
        · rintro w' ⟨s0, s1, s2, s3, s4, s5, s6⟩
          go_simp
          with_reducible rfl
        rotate_left
        · simp only [Act.put, List.setIfInBounds_toArray, List.set_cons_zero, List.set_cons_succ, i64_w, i32_w]
          rfl
        refine pure_ (i := 11) (N := some 35) (v := ?_) (a' := ?_) #[true, true, true, true, true, true, true, true, true, true, true, true, false, false, false] rfl rfl (any_of HT_.out (by kernel_rfl)) (fun _ _ _ h => h) (Or.inl ⟨by rfl, ?_⟩) ?_ ?_
        rotate_left
        · intro w'
          go_simp
          with_reducible rfl
        rotate_left
        · simp only [Act.put, List.setIfInBounds_toArray, List.set_cons_zero, List.set_cons_succ, i64_w, i32_w]
          rfl
        refine join_ (σ := Value × Nat) 1 #[true, true, true, true, true, true, true, true, true, true, true, true, true, true, false] (fun s_ => [(36, .agg #[s_.1]), (8, .pointer (some ⟨s_.2, 0, none⟩))]) (fun s_ w' => (w'.cell? ⟨gb517, 0, none⟩ = some (.slice A0_0 l0_0.length c0_0) ∧ w'.cell? ⟨gb517, 1, none⟩ = some (.int .i64 a0_1) ∧ w'.cell? ⟨gb517, 2, none⟩ = some (.int .i64 a0_2) ∧ w'.cell? ⟨gb517, 3, none⟩ = some (.int .i64 a0_3) ∧ w'.cell? ⟨gb517, 4, none⟩ = some (.int .i64 a0_4) ∧ w'.cell? ⟨gb517, 5, none⟩ = some (.int .i64 a0_5) ∧ w'.cell? ⟨gb517, 6, none⟩ = some (.int .i64 a0_6)) ∧ (Kd.R (Kd.int .u8) 5 w' w.heap.size (fun _ => True) (.slice Ao17 t519.length co17) t519) ∧ (Kd.S (Kd.slice 5 (Kd.int .u8)) 119 w' w.heap.size (fun k_ => some k_ ≠ (.slice Ao17 t519.length co17 : Value).ownBlock) s_.1 t526) ∧ (w'.heap[gb517]? = some (.cells #[.slice A0_0 l0_0.length c0_0, .int .i64 a0_1, .int .i64 a0_2, .int .i64 a0_3, .int .i64 a0_4, .int .i64 a0_5, .int .i64 a0_6] 69 (0, 0))) ∧ (w'.heap[gb518]? = some (.cells #[.slice none 0 0, .int .i64 0, .int .i64 0, .int .i64 0, .int .i64 0, .int .i64 0, .int .i64 0] 69 (0, 0))) ∧ (w'.heap[s_.2]? = some (.cells #[.slice none 0 0] 26 (0, 0))) ∧ (w.heap.size ≤ s_.2) ∧ (w.heap.size ≤ s_.2) ∧ (gb517 ≠ s_.2) ∧ (s_.2 ≠ gb517) ∧ (gb518 ≠ s_.2) ∧ (s_.2 ≠ gb518) ∧ (Below w.heap.size w w')) ?_ ?_
        rotate_left
        · intro hCont
          refine two_ (i := 12) (j := 13) (Ni := some 36) (Nj := some 8) #[true, true, true, true, true, true, true, true, true, true, true, true, true, false, false] #[true, true, true, true, true, true, true, true, true, true, true, true, false, true, false] rfl rfl rfl rfl (two_of HT_.out (by kernel_rfl)) (by decide) (by decide) (fun K hK => ?_) (fun K hK => ?_)
          · skip
            refine goes_ Try.func143 (by kernel_rfl) rfl #[.agg #[.slice A0_0 l0_0.length c0_0], .agg #[.int .i64 a0_1, .int .i64 a0_2, .int .i64 a0_3, .int .i64 a0_4], .int .i64 (wrap64 (a1 + (wrap64 (a0_6 - a0_5)))), .slice A16 y522.length c16] (by rfl) rfl rfl (by (try simp only [List.map_toArray, List.map_cons, List.map_nil]); first | done | rfl | (simp only [List.length_drop, List.length_take]; rfl)) ?_
            with_reducible refine (spec_l2Write.calls k _ _ l0_0 a0_1 a0_2 a0_3 a0_4 (wrap64 (a1 + (wrap64 (a0_6 - a0_5)))) _ _ y522 t526 _ ?side1 ?side2 ?side3 ?side4 A8.out).mono ?_
            (case side1 => repeat (first | exact (Kd.C_below HR0_0.out HB.out) | (with_reducible refine Kd.C_alloc ?_ _) | (with_reducible refine Kd.C_drewN ?_ _) | (with_reducible refine Kd.C_drew ?_)))
            (case side2 => exact HC0_0.out)
            (case side3 => repeat (first | exact (by repeat (first | (with_reducible exact HR525.out) | (with_reducible refine Kd.C_alloc ?_ _) | (with_reducible refine Kd.C_drewN ?_ _) | (with_reducible refine Kd.C_drew ?_) | exact HR525.out)) | (with_reducible refine Kd.C_alloc ?_ _) | (with_reducible refine Kd.C_drewN ?_ _) | (with_reducible refine Kd.C_drew ?_)))
            (case side4 => exact HC525.out)
            rintro e w18 ⟨v527, rfl, ho0, hb⟩
            refine ⟨_, rfl, ?_⟩
            have n0_ := Aside0.mk (Kd.R_below (by (with_reducible repeat (first | apply Kd.R_alloc | apply Kd.R_drewN | apply Kd.R_drew)); exact HO521.out) hb)
            have n1_ := Aside0.mk (Kd.S_lower (Kd.S_new' ho0 (Kd.R_lt (by (with_reducible repeat (first | apply Kd.R_alloc | apply Kd.R_drewN | apply Kd.R_drew)); exact HO521.out))) (below_size (by repeat (first | (with_reducible first | exact HB.out | apply below_alloc | apply pw_below_drewN | apply below_drew1 | refine below_set ?_ GE517.out | refine below_set ?_ GE518.out) | exact HB.out))))
            have n2_ := Aside0.mk (blk_below (g := gb517) (o := .cells #[.slice A0_0 l0_0.length c0_0, .int .i64 a0_1, .int .i64 a0_2, .int .i64 a0_3, .int .i64 a0_4, .int .i64 a0_5, .int .i64 a0_6] 69 (0, 0)) (by (with_reducible repeat (first | refine blk_drewN ?_ _ | refine blk_drew ?_ | refine blk_alloc ?_ _)); exact BK517.out) hb)
            have n3_ := Aside0.mk (blk_below (g := gb518) (o := .cells #[.slice none 0 0, .int .i64 0, .int .i64 0, .int .i64 0, .int .i64 0, .int .i64 0, .int .i64 0] 69 (0, 0)) (by (with_reducible repeat (first | refine blk_drewN ?_ _ | refine blk_drew ?_ | refine blk_alloc ?_ _)); exact BK518.out) hb)
            have n4_ := Aside0.mk (Kd.C_below (by repeat (first | (with_reducible exact HR525.out) | (with_reducible refine Kd.C_alloc ?_ _) | (with_reducible refine Kd.C_drewN ?_ _) | (with_reducible refine Kd.C_drew ?_) | exact HR525.out)) hb)
            have n5_ := Aside0.mk (below_step (by repeat (first | (with_reducible first | exact HB.out | apply below_alloc | apply pw_below_drewN | apply below_drew1 | refine below_set ?_ GE517.out | refine below_set ?_ GE518.out) | exact HB.out)) hb)
            clear HO521
            clear BK517
            clear BK518
            clear HR525
            clear HB
            have HO521 := n0_
            have HO528 := n1_
            have BK517 := n2_
            have BK518 := n3_
            have HR525 := n4_
            have HB := n5_
            clear n0_ n1_ n2_ n3_ n4_ n5_
            (try clear hb)
            (try clear hb2)
            (try clear hk)
            (try clear hi)
            (try clear ho0)
            refine hK.out _ _ ⟨(blk_cell BK517.out 0).trans rfl, (blk_cell BK517.out 1).trans rfl, (blk_cell BK517.out 2).trans rfl, (blk_cell BK517.out 3).trans rfl, (blk_cell BK517.out 4).trans rfl, (blk_cell BK517.out 5).trans rfl, (blk_cell BK517.out 6).trans rfl⟩ (fun hHeld => ?_)
            clear hK K
            refine norm_ (a' := ?_) ?_ ?_
            rotate_left
            · show Act.put _ (some 36) _ = _
              simp only [Act.put, List.setIfInBounds_toArray, List.set_cons_zero, List.set_cons_succ, i64_w, i32_w]
              rfl
            refine one_ (i := 13) (N := some 8) #[true, true, true, true, true, true, true, true, true, true, true, true, true, true, false] rfl rfl (one_of HT_.out (by kernel_rfl)) (by decide) (fun K hK => ?_)
            refine box_step ?hg (N := 8) ?hd (cs := #[.slice none 0 0]) (t := 26) ?hr ?_; (case hd => rfl); (case hg => rfl); (case hr => first | (go_simp; done) | (go_simp; rfl))
            intro gb529 hg w19 hbox hb
            have n0_ := Aside0.mk (Kd.R_below (by (with_reducible repeat (first | apply Kd.R_alloc | apply Kd.R_drewN | apply Kd.R_drew)); exact HO521.out) hb)
            have n1_ := Aside0.mk (Kd.S_below (by (with_reducible repeat (first | apply Kd.S_alloc | apply Kd.S_drewN | apply Kd.S_drew)); exact HO528.out) hb)
            have n2_ := Aside0.mk (blk_below (g := gb517) (o := .cells #[.slice A0_0 l0_0.length c0_0, .int .i64 a0_1, .int .i64 a0_2, .int .i64 a0_3, .int .i64 a0_4, .int .i64 a0_5, .int .i64 a0_6] 69 (0, 0)) (by (with_reducible repeat (first | refine blk_drewN ?_ _ | refine blk_drew ?_ | refine blk_alloc ?_ _)); exact BK517.out) hb)
            have n3_ := Aside0.mk (blk_below (g := gb518) (o := .cells #[.slice none 0 0, .int .i64 0, .int .i64 0, .int .i64 0, .int .i64 0, .int .i64 0, .int .i64 0] 69 (0, 0)) (by (with_reducible repeat (first | refine blk_drewN ?_ _ | refine blk_drew ?_ | refine blk_alloc ?_ _)); exact BK518.out) hb)
            have n4_ := Aside0.mk (Kd.C_below (by repeat (first | (with_reducible exact HR525.out) | (with_reducible refine Kd.C_alloc ?_ _) | (with_reducible refine Kd.C_drewN ?_ _) | (with_reducible refine Kd.C_drew ?_) | exact HR525.out)) hb)
            have n5_ := Aside0.mk (below_step (by repeat (first | (with_reducible first | exact HB.out | apply below_alloc | apply pw_below_drewN | apply below_drew1 | refine below_set ?_ GE517.out | refine below_set ?_ GE518.out) | exact HB.out)) hb)
            have n6_ := Aside0.mk (hbox)
            have n7_ := Aside0.mk ((by rw [hg]; exact (below_size (by repeat (first | (with_reducible first | exact HB.out | apply below_alloc | apply pw_below_drewN | apply below_drew1 | refine below_set ?_ GE517.out | refine below_set ?_ GE518.out) | exact HB.out))) : w.heap.size ≤ gb529))
            have n8_ := Aside0.mk ((by rw [hg]; exact (below_size (by repeat (first | (with_reducible first | exact HB.out | apply below_alloc | apply pw_below_drewN | apply below_drew1 | refine below_set ?_ GE517.out | refine below_set ?_ GE518.out) | exact HB.out))) : w.heap.size ≤ gb529))
            have n9_ := Aside0.mk ((by rw [hg]; exact Nat.ne_of_lt (blk_lt (g := gb517) (o := .cells #[.slice A0_0 l0_0.length c0_0, .int .i64 a0_1, .int .i64 a0_2, .int .i64 a0_3, .int .i64 a0_4, .int .i64 a0_5, .int .i64 a0_6] 69 (0, 0)) (by (with_reducible repeat (first | refine blk_drewN ?_ _ | refine blk_drew ?_ | refine blk_alloc ?_ _)); exact BK517.out)) : gb517 ≠ gb529))
            have n10_ := Aside0.mk ((by rw [hg]; exact Nat.ne_of_gt (blk_lt (g := gb517) (o := .cells #[.slice A0_0 l0_0.length c0_0, .int .i64 a0_1, .int .i64 a0_2, .int .i64 a0_3, .int .i64 a0_4, .int .i64 a0_5, .int .i64 a0_6] 69 (0, 0)) (by (with_reducible repeat (first | refine blk_drewN ?_ _ | refine blk_drew ?_ | refine blk_alloc ?_ _)); exact BK517.out)) : gb529 ≠ gb517))
            have n11_ := Aside0.mk ((by rw [hg]; exact Nat.ne_of_lt (blk_lt (g := gb518) (o := .cells #[.slice none 0 0, .int .i64 0, .int .i64 0, .int .i64 0, .int .i64 0, .int .i64 0, .int .i64 0] 69 (0, 0)) (by (with_reducible repeat (first | refine blk_drewN ?_ _ | refine blk_drew ?_ | refine blk_alloc ?_ _)); exact BK518.out)) : gb518 ≠ gb529))
            have n12_ := Aside0.mk ((by rw [hg]; exact Nat.ne_of_gt (blk_lt (g := gb518) (o := .cells #[.slice none 0 0, .int .i64 0, .int .i64 0, .int .i64 0, .int .i64 0, .int .i64 0, .int .i64 0] 69 (0, 0)) (by (with_reducible repeat (first | refine blk_drewN ?_ _ | refine blk_drew ?_ | refine blk_alloc ?_ _)); exact BK518.out)) : gb529 ≠ gb518))
            clear HO521
            clear HO528
            clear BK517
            clear BK518
            clear HR525
            clear HB
            have HO521 := n0_
            have HO528 := n1_
            have BK517 := n2_
            have BK518 := n3_
            have HR525 := n4_
            have HB := n5_
            have BK529 := n6_
            have GW529 := n7_
            have GE529 := n8_
            have NB517_529 := n9_
            have NB529_517 := n10_
            have NB518_529 := n11_
            have NB529_518 := n12_
            clear n0_ n1_ n2_ n3_ n4_ n5_ n6_ n7_ n8_ n9_ n10_ n11_ n12_
            clear hb hbox hg
            refine hK.out _ _ ⟨(blk_cell BK517.out 0).trans rfl, (blk_cell BK517.out 1).trans rfl, (blk_cell BK517.out 2).trans rfl, (blk_cell BK517.out 3).trans rfl, (blk_cell BK517.out 4).trans rfl, (blk_cell BK517.out 5).trans rfl, (blk_cell BK517.out 6).trans rfl⟩ (fun hHeld => ?_)
            clear hK K
            refine norm_ (a' := ?_) ?_ ?_
            rotate_left
            · show Act.put _ (some 8) _ = _
              simp only [Act.put, List.setIfInBounds_toArray, List.set_cons_zero, List.set_cons_succ, i64_w, i32_w]
              rfl
            exact norm_ (by simp only [putAll, Act.put, List.setIfInBounds_toArray, List.set_cons_zero, List.set_cons_succ]) (hCont (v527, gb529) _ ⟨hHeld, (by (with_reducible repeat (first | apply Kd.R_alloc | apply Kd.R_drewN | apply Kd.R_drew)); exact HO521.out), (by (with_reducible repeat (first | apply Kd.S_alloc | apply Kd.S_drewN | apply Kd.S_drew)); exact Kd.S_mono HO528.out (fun _ hk => hk.2)), (by (with_reducible repeat (first | refine blk_drewN ?_ _ | refine blk_drew ?_ | refine blk_alloc ?_ _)); exact BK517.out), (by (with_reducible repeat (first | refine blk_drewN ?_ _ | refine blk_drew ?_ | refine blk_alloc ?_ _)); exact BK518.out), (by (with_reducible repeat (first | refine blk_drewN ?_ _ | refine blk_drew ?_ | refine blk_alloc ?_ _)); exact BK529.out), GW529.out, GE529.out, NB517_529.out, NB529_517.out, NB518_529.out, NB529_518.out, (by repeat (first | (with_reducible first | exact HB.out | apply below_alloc | apply pw_below_drewN | apply below_drew1 | refine below_set ?_ GE517.out | refine below_set ?_ GE518.out | refine below_set ?_ GE529.out) | exact HB.out))⟩)
          · skip
            refine box_step ?hg (N := 8) ?hd (cs := #[.slice none 0 0]) (t := 26) ?hr ?_; (case hd => rfl); (case hg => rfl); (case hr => first | (go_simp; done) | (go_simp; rfl))
            intro gb529 hg w18 hbox hb
            have n0_ := Aside0.mk (Kd.R_below (by (with_reducible repeat (first | apply Kd.R_alloc | apply Kd.R_drewN | apply Kd.R_drew)); exact HO521.out) hb)
            have n1_ := Aside0.mk (blk_below (g := gb517) (o := .cells #[.slice A0_0 l0_0.length c0_0, .int .i64 a0_1, .int .i64 a0_2, .int .i64 a0_3, .int .i64 a0_4, .int .i64 a0_5, .int .i64 a0_6] 69 (0, 0)) (by (with_reducible repeat (first | refine blk_drewN ?_ _ | refine blk_drew ?_ | refine blk_alloc ?_ _)); exact BK517.out) hb)
            have n2_ := Aside0.mk (blk_below (g := gb518) (o := .cells #[.slice none 0 0, .int .i64 0, .int .i64 0, .int .i64 0, .int .i64 0, .int .i64 0, .int .i64 0] 69 (0, 0)) (by (with_reducible repeat (first | refine blk_drewN ?_ _ | refine blk_drew ?_ | refine blk_alloc ?_ _)); exact BK518.out) hb)
            have n3_ := Aside0.mk (Kd.C_below (by repeat (first | (with_reducible exact HR525.out) | (with_reducible refine Kd.C_alloc ?_ _) | (with_reducible refine Kd.C_drewN ?_ _) | (with_reducible refine Kd.C_drew ?_) | exact HR525.out)) hb)
            have n4_ := Aside0.mk (below_step (by repeat (first | (with_reducible first | exact HB.out | apply below_alloc | apply pw_below_drewN | apply below_drew1 | refine below_set ?_ GE517.out | refine below_set ?_ GE518.out) | exact HB.out)) hb)
            have n5_ := Aside0.mk (hbox)
            have n6_ := Aside0.mk ((by rw [hg]; exact (below_size (by repeat (first | (with_reducible first | exact HB.out | apply below_alloc | apply pw_below_drewN | apply below_drew1 | refine below_set ?_ GE517.out | refine below_set ?_ GE518.out) | exact HB.out))) : w.heap.size ≤ gb529))
            have n7_ := Aside0.mk ((by rw [hg]; exact (below_size (by repeat (first | (with_reducible first | exact HB.out | apply below_alloc | apply pw_below_drewN | apply below_drew1 | refine below_set ?_ GE517.out | refine below_set ?_ GE518.out) | exact HB.out))) : w.heap.size ≤ gb529))
            have n8_ := Aside0.mk ((by rw [hg]; exact Nat.ne_of_lt (blk_lt (g := gb517) (o := .cells #[.slice A0_0 l0_0.length c0_0, .int .i64 a0_1, .int .i64 a0_2, .int .i64 a0_3, .int .i64 a0_4, .int .i64 a0_5, .int .i64 a0_6] 69 (0, 0)) (by (with_reducible repeat (first | refine blk_drewN ?_ _ | refine blk_drew ?_ | refine blk_alloc ?_ _)); exact BK517.out)) : gb517 ≠ gb529))
            have n9_ := Aside0.mk ((by rw [hg]; exact Nat.ne_of_gt (blk_lt (g := gb517) (o := .cells #[.slice A0_0 l0_0.length c0_0, .int .i64 a0_1, .int .i64 a0_2, .int .i64 a0_3, .int .i64 a0_4, .int .i64 a0_5, .int .i64 a0_6] 69 (0, 0)) (by (with_reducible repeat (first | refine blk_drewN ?_ _ | refine blk_drew ?_ | refine blk_alloc ?_ _)); exact BK517.out)) : gb529 ≠ gb517))
            have n10_ := Aside0.mk ((by rw [hg]; exact Nat.ne_of_lt (blk_lt (g := gb518) (o := .cells #[.slice none 0 0, .int .i64 0, .int .i64 0, .int .i64 0, .int .i64 0, .int .i64 0, .int .i64 0] 69 (0, 0)) (by (with_reducible repeat (first | refine blk_drewN ?_ _ | refine blk_drew ?_ | refine blk_alloc ?_ _)); exact BK518.out)) : gb518 ≠ gb529))
            have n11_ := Aside0.mk ((by rw [hg]; exact Nat.ne_of_gt (blk_lt (g := gb518) (o := .cells #[.slice none 0 0, .int .i64 0, .int .i64 0, .int .i64 0, .int .i64 0, .int .i64 0, .int .i64 0] 69 (0, 0)) (by (with_reducible repeat (first | refine blk_drewN ?_ _ | refine blk_drew ?_ | refine blk_alloc ?_ _)); exact BK518.out)) : gb529 ≠ gb518))
            clear HO521
            clear BK517
            clear BK518
            clear HR525
            clear HB
            have HO521 := n0_
            have BK517 := n1_
            have BK518 := n2_
            have HR525 := n3_
            have HB := n4_
            have BK529 := n5_
            have GW529 := n6_
            have GE529 := n7_
            have NB517_529 := n8_
            have NB529_517 := n9_
            have NB518_529 := n10_
            have NB529_518 := n11_
            clear n0_ n1_ n2_ n3_ n4_ n5_ n6_ n7_ n8_ n9_ n10_ n11_
            clear hb hbox hg
            refine hK.out _ _ ⟨(blk_cell BK517.out 0).trans rfl, (blk_cell BK517.out 1).trans rfl, (blk_cell BK517.out 2).trans rfl, (blk_cell BK517.out 3).trans rfl, (blk_cell BK517.out 4).trans rfl, (blk_cell BK517.out 5).trans rfl, (blk_cell BK517.out 6).trans rfl⟩ (fun hHeld => ?_)
            clear hK K
            refine norm_ (a' := ?_) ?_ ?_
            rotate_left
            · show Act.put _ (some 8) _ = _
              simp only [Act.put, List.setIfInBounds_toArray, List.set_cons_zero, List.set_cons_succ, i64_w, i32_w]
              rfl
            refine one_ (i := 12) (N := some 36) #[true, true, true, true, true, true, true, true, true, true, true, true, true, true, false] rfl rfl (one_of HT_.out (by kernel_rfl)) (by decide) (fun K hK => ?_)
            refine goes_ Try.func143 (by kernel_rfl) rfl #[.agg #[.slice A0_0 l0_0.length c0_0], .agg #[.int .i64 a0_1, .int .i64 a0_2, .int .i64 a0_3, .int .i64 a0_4], .int .i64 (wrap64 (a1 + (wrap64 (a0_6 - a0_5)))), .slice A16 y522.length c16] (by rfl) rfl rfl (by (try simp only [List.map_toArray, List.map_cons, List.map_nil]); first | done | rfl | (simp only [List.length_drop, List.length_take]; rfl)) ?_
            with_reducible refine (spec_l2Write.calls k _ _ l0_0 a0_1 a0_2 a0_3 a0_4 (wrap64 (a1 + (wrap64 (a0_6 - a0_5)))) _ _ y522 t526 _ ?side1 ?side2 ?side3 ?side4 A8.out).mono ?_
            (case side1 => repeat (first | exact (Kd.C_below HR0_0.out HB.out) | (with_reducible refine Kd.C_alloc ?_ _) | (with_reducible refine Kd.C_drewN ?_ _) | (with_reducible refine Kd.C_drew ?_)))
            (case side2 => exact HC0_0.out)
            (case side3 => repeat (first | exact (by repeat (first | (with_reducible exact HR525.out) | (with_reducible refine Kd.C_alloc ?_ _) | (with_reducible refine Kd.C_drewN ?_ _) | (with_reducible refine Kd.C_drew ?_) | exact HR525.out)) | (with_reducible refine Kd.C_alloc ?_ _) | (with_reducible refine Kd.C_drewN ?_ _) | (with_reducible refine Kd.C_drew ?_)))
            (case side4 => exact HC525.out)
            rintro e w19 ⟨v527, rfl, ho0, hb⟩
            refine ⟨_, rfl, ?_⟩
            have n0_ := Aside0.mk (Kd.R_below (by (with_reducible repeat (first | apply Kd.R_alloc | apply Kd.R_drewN | apply Kd.R_drew)); exact HO521.out) hb)
            have n1_ := Aside0.mk (Kd.S_lower (Kd.S_new' ho0 (Kd.R_lt (by (with_reducible repeat (first | apply Kd.R_alloc | apply Kd.R_drewN | apply Kd.R_drew)); exact HO521.out))) (below_size (by repeat (first | (with_reducible first | exact HB.out | apply below_alloc | apply pw_below_drewN | apply below_drew1 | refine below_set ?_ GE517.out | refine below_set ?_ GE518.out | refine below_set ?_ GE529.out) | exact HB.out))))
            have n2_ := Aside0.mk (blk_below (g := gb517) (o := .cells #[.slice A0_0 l0_0.length c0_0, .int .i64 a0_1, .int .i64 a0_2, .int .i64 a0_3, .int .i64 a0_4, .int .i64 a0_5, .int .i64 a0_6] 69 (0, 0)) (by (with_reducible repeat (first | refine blk_drewN ?_ _ | refine blk_drew ?_ | refine blk_alloc ?_ _)); exact BK517.out) hb)
            have n3_ := Aside0.mk (blk_below (g := gb518) (o := .cells #[.slice none 0 0, .int .i64 0, .int .i64 0, .int .i64 0, .int .i64 0, .int .i64 0, .int .i64 0] 69 (0, 0)) (by (with_reducible repeat (first | refine blk_drewN ?_ _ | refine blk_drew ?_ | refine blk_alloc ?_ _)); exact BK518.out) hb)
            have n4_ := Aside0.mk (Kd.C_below (by repeat (first | (with_reducible exact HR525.out) | (with_reducible refine Kd.C_alloc ?_ _) | (with_reducible refine Kd.C_drewN ?_ _) | (with_reducible refine Kd.C_drew ?_) | exact HR525.out)) hb)
            have n5_ := Aside0.mk (blk_below (g := gb529) (o := .cells #[.slice none 0 0] 26 (0, 0)) (by (with_reducible repeat (first | refine blk_drewN ?_ _ | refine blk_drew ?_ | refine blk_alloc ?_ _)); exact BK529.out) hb)
            have n6_ := Aside0.mk (below_step (by repeat (first | (with_reducible first | exact HB.out | apply below_alloc | apply pw_below_drewN | apply below_drew1 | refine below_set ?_ GE517.out | refine below_set ?_ GE518.out | refine below_set ?_ GE529.out) | exact HB.out)) hb)
            clear HO521
            clear BK517
            clear BK518
            clear HR525
            clear BK529
            clear HB
            have HO521 := n0_
            have HO528 := n1_
            have BK517 := n2_
            have BK518 := n3_
            have HR525 := n4_
            have BK529 := n5_
            have HB := n6_
            clear n0_ n1_ n2_ n3_ n4_ n5_ n6_
            (try clear hb)
            (try clear hb2)
            (try clear hk)
            (try clear hi)
            (try clear ho0)
            refine hK.out _ _ ⟨(blk_cell BK517.out 0).trans rfl, (blk_cell BK517.out 1).trans rfl, (blk_cell BK517.out 2).trans rfl, (blk_cell BK517.out 3).trans rfl, (blk_cell BK517.out 4).trans rfl, (blk_cell BK517.out 5).trans rfl, (blk_cell BK517.out 6).trans rfl⟩ (fun hHeld => ?_)
            clear hK K
            refine norm_ (a' := ?_) ?_ ?_
            rotate_left
            · show Act.put _ (some 36) _ = _
              simp only [Act.put, List.setIfInBounds_toArray, List.set_cons_zero, List.set_cons_succ, i64_w, i32_w]
              rfl
            exact norm_ (by simp only [putAll, Act.put, List.setIfInBounds_toArray, List.set_cons_zero, List.set_cons_succ]) (hCont (v527, gb529) _ ⟨hHeld, (by (with_reducible repeat (first | apply Kd.R_alloc | apply Kd.R_drewN | apply Kd.R_drew)); exact HO521.out), (by (with_reducible repeat (first | apply Kd.S_alloc | apply Kd.S_drewN | apply Kd.S_drew)); exact Kd.S_mono HO528.out (fun _ hk => hk.2)), (by (with_reducible repeat (first | refine blk_drewN ?_ _ | refine blk_drew ?_ | refine blk_alloc ?_ _)); exact BK517.out), (by (with_reducible repeat (first | refine blk_drewN ?_ _ | refine blk_drew ?_ | refine blk_alloc ?_ _)); exact BK518.out), (by (with_reducible repeat (first | refine blk_drewN ?_ _ | refine blk_drew ?_ | refine blk_alloc ?_ _)); exact BK529.out), GW529.out, GE529.out, NB517_529.out, NB529_517.out, NB518_529.out, NB529_518.out, (by repeat (first | (with_reducible first | exact HB.out | apply below_alloc | apply pw_below_drewN | apply below_drew1 | refine below_set ?_ GE517.out | refine below_set ?_ GE518.out | refine below_set ?_ GE529.out) | exact HB.out))⟩)
        rintro ⟨v527, gb529⟩ w20 ⟨hS_, h0_, h1_, h2_, h3_, h4_, h5_, h6_, h7_, h8_, h9_, h10_, h11_⟩
        have n0_ : Aside0 (Kd.R (Kd.int .u8) 5 w20 w.heap.size (fun _ => True) (.slice Ao17 t519.length co17) t519) := ⟨h0_⟩
        have n1_ : Aside0 (Kd.S (Kd.slice 5 (Kd.int .u8)) 119 w20 w.heap.size (fun k_ => some k_ ≠ (.slice Ao17 t519.length co17 : Value).ownBlock) v527 t526) := ⟨h1_⟩
        have n2_ : Aside0 (w20.heap[gb517]? = some (.cells #[.slice A0_0 l0_0.length c0_0, .int .i64 a0_1, .int .i64 a0_2, .int .i64 a0_3, .int .i64 a0_4, .int .i64 a0_5, .int .i64 a0_6] 69 (0, 0))) := ⟨h2_⟩
        have n3_ : Aside0 (w20.heap[gb518]? = some (.cells #[.slice none 0 0, .int .i64 0, .int .i64 0, .int .i64 0, .int .i64 0, .int .i64 0, .int .i64 0] 69 (0, 0))) := ⟨h3_⟩
        have n4_ : Aside0 (w20.heap[gb529]? = some (.cells #[.slice none 0 0] 26 (0, 0))) := ⟨h4_⟩
        have n5_ : Aside0 (w.heap.size ≤ gb529) := ⟨h5_⟩
        have n6_ : Aside0 (w.heap.size ≤ gb529) := ⟨h6_⟩
        have n7_ : Aside0 (gb517 ≠ gb529) := ⟨h7_⟩
        have n8_ : Aside0 (gb529 ≠ gb517) := ⟨h8_⟩
        have n9_ : Aside0 (gb518 ≠ gb529) := ⟨h9_⟩
        have n10_ : Aside0 (gb529 ≠ gb518) := ⟨h10_⟩
        have n11_ : Aside0 (Below w.heap.size w w20) := ⟨h11_⟩
        clear HO521
        clear BK517
        clear BK518
        clear HB
        clear h0_ h1_ h2_ h3_ h4_ h5_ h6_ h7_ h8_ h9_ h10_ h11_
        have HO521 := n0_
        have HO528 := n1_
        have BK517 := n2_
        have BK518 := n3_
        have BK529 := n4_
        have GW529 := n5_
        have GE529 := n6_
        have NB517_529 := n7_
        have NB529_517 := n8_
        have NB518_529 := n9_
        have NB529_518 := n10_
        have HB := n11_
        clear n0_ n1_ n2_ n3_ n4_ n5_ n6_ n7_ n8_ n9_ n10_ n11_
        have hHeld : w20.cell? ⟨gb517, 0, none⟩ = some (.slice A0_0 l0_0.length c0_0) ∧ w20.cell? ⟨gb517, 1, none⟩ = some (.int .i64 a0_1) ∧ w20.cell? ⟨gb517, 2, none⟩ = some (.int .i64 a0_2) ∧ w20.cell? ⟨gb517, 3, none⟩ = some (.int .i64 a0_3) ∧ w20.cell? ⟨gb517, 4, none⟩ = some (.int .i64 a0_4) ∧ w20.cell? ⟨gb517, 5, none⟩ = some (.int .i64 a0_5) ∧ w20.cell? ⟨gb517, 6, none⟩ = some (.int .i64 a0_6) := hS_
        obtain ⟨Ao21, co21, eo21⟩ := Kd.S_slice HO528.out
        (first | subst eo21 | (injection eo21 with f1_ f2_ f3_; have f4_ := f1_.symm; have f5_ := f3_.symm; clear f1_ f2_ f3_; subst f4_; subst f5_))
        refine norm_ (a' := ?_) ?_ ?_
        rotate_left
        · simp only [putAll, Act.put, List.setIfInBounds_toArray, List.set_cons_zero, List.set_cons_succ]
          rfl
        refine one_ (i := 14) (N := none) #[true, true, true, true, true, true, true, true, true, true, true, true, true, true, true] rfl rfl (one_of HT_.out (by kernel_rfl)) (by decide) (fun K hK => ?_)
        have hs22 : w20.cell? ⟨gb529, 0, none⟩ = some (.slice none 0 0) := (blk_cell BK529.out 0).trans rfl
        have hfs22 := blk_frozen BK529.out 0
        have hns22_0 := NB517_529.out
        have hns22_1 := NB518_529.out
        have hms22_0 := NB529_517.out
        have hms22_1 := NB529_518.out
        refine skip_ (w1 := ?_) (by rfl) rfl ?_ ?_
        rotate_left
        · go_simp
          rfl
        refine hK.out _ _ ⟨((cell_far (p := ⟨gb529, _, none⟩) NB517_529.out _).trans (hHeld.1)), ((cell_far (p := ⟨gb529, _, none⟩) NB517_529.out _).trans (hHeld.2.1)), ((cell_far (p := ⟨gb529, _, none⟩) NB517_529.out _).trans (hHeld.2.2.1)), ((cell_far (p := ⟨gb529, _, none⟩) NB517_529.out _).trans (hHeld.2.2.2.1)), ((cell_far (p := ⟨gb529, _, none⟩) NB517_529.out _).trans (hHeld.2.2.2.2.1)), ((cell_far (p := ⟨gb529, _, none⟩) NB517_529.out _).trans (hHeld.2.2.2.2.2.1)), ((cell_far (p := ⟨gb529, _, none⟩) NB517_529.out _).trans (hHeld.2.2.2.2.2.2))⟩ (fun hHeld => ?_)
        clear hK K
        refine done_ (done_of HT_.out (by kernel_rfl)) ?_
        try go_wp2
        have n0_ : Aside0 (Kd.R (Kd.int .u8) 5 (w20.setCell ⟨gb529, 0, none⟩ (.slice Ao21 t526.length co21)) w.heap.size (fun _ => True) (.slice Ao17 t519.length co17) t519) := ⟨by (with_reducible repeat (first | apply Kd.R_alloc | apply Kd.R_drewN | apply Kd.R_drew)); exact Kd.R_mono (Kd.R_far (p := ⟨gb529, 0, none⟩) (Kd.R_types HO521.out BK529.out (by decide)) (fun _ hk => hk.2) (.slice Ao21 t526.length co21)) (fun _ hk => trivial)⟩
        have n1_ : Aside0 (Kd.S (Kd.slice 5 (Kd.int .u8)) 119 (w20.setCell ⟨gb529, 0, none⟩ (.slice Ao21 t526.length co21)) w.heap.size (fun k_ => some k_ ≠ (.slice Ao17 t519.length co17 : Value).ownBlock) (.slice Ao21 t526.length co21) t526) := ⟨by (with_reducible repeat (first | apply Kd.S_alloc | apply Kd.S_drewN | apply Kd.S_drew)); exact Kd.S_mono (Kd.S_far (p := ⟨gb529, 0, none⟩) (Kd.S_types HO528.out BK529.out (by decide)) (fun _ hk => hk.2) (.slice Ao21 t526.length co21)) (fun _ hk => hk.1)⟩
        have n2_ : Aside0 ((w20.setCell ⟨gb529, 0, none⟩ (.slice Ao21 t526.length co21)).heap[gb517]? = some (.cells #[.slice A0_0 l0_0.length c0_0, .int .i64 a0_1, .int .i64 a0_2, .int .i64 a0_3, .int .i64 a0_4, .int .i64 a0_5, .int .i64 a0_6] 69 (0, 0))) := ⟨by (with_reducible repeat (first | refine blk_drewN ?_ _ | refine blk_drew ?_ | refine blk_alloc ?_ _)); refine blk_far ?_ NB517_529.out _; (with_reducible repeat (first | refine blk_drewN ?_ _ | refine blk_drew ?_ | refine blk_alloc ?_ _)); exact BK517.out⟩
        have n3_ : Aside0 ((w20.setCell ⟨gb529, 0, none⟩ (.slice Ao21 t526.length co21)).heap[gb518]? = some (.cells #[.slice none 0 0, .int .i64 0, .int .i64 0, .int .i64 0, .int .i64 0, .int .i64 0, .int .i64 0] 69 (0, 0))) := ⟨by (with_reducible repeat (first | refine blk_drewN ?_ _ | refine blk_drew ?_ | refine blk_alloc ?_ _)); refine blk_far ?_ NB518_529.out _; (with_reducible repeat (first | refine blk_drewN ?_ _ | refine blk_drew ?_ | refine blk_alloc ?_ _)); exact BK518.out⟩
        have n4_ : Aside0 ((w20.setCell ⟨gb529, 0, none⟩ (.slice Ao21 t526.length co21)).heap[gb529]? = some (.cells #[.slice Ao21 t526.length co21] 26 (0, 0))) := ⟨by (with_reducible repeat (first | refine blk_drewN ?_ _ | refine blk_drew ?_ | refine blk_alloc ?_ _)); refine blk_put (cs := #[.slice none 0 0]) ?_ 0 _ rfl; (with_reducible repeat (first | refine blk_drewN ?_ _ | refine blk_drew ?_ | refine blk_alloc ?_ _)); exact BK529.out⟩
        have n5_ : Aside0 (Below w.heap.size w (w20.setCell ⟨gb529, 0, none⟩ (.slice Ao21 t526.length co21))) := ⟨by repeat (first | (with_reducible first | exact HB.out | apply below_alloc | apply pw_below_drewN | apply below_drew1 | refine below_set ?_ GE517.out | refine below_set ?_ GE518.out | refine below_set ?_ GE529.out) | exact HB.out)⟩
        (try clear HO521)
        (try clear HO528)
        (try clear BK517)
        (try clear BK518)
        (try clear BK529)
        (try clear HB)
        generalize (w20.setCell ⟨gb529, 0, none⟩ (.slice Ao21 t526.length co21)) = w23 at n0_ n1_ n2_ n3_ n4_ n5_ ⊢
        have HO521 := n0_
        have HO528 := n1_
        have BK517 := n2_
        have BK518 := n3_
        have BK529 := n4_
        have HB := n5_
        clear n0_ n1_ n2_ n3_ n4_ n5_
        have n0_ := Aside0.mk (Kd.R_drew HO521.out)
        have n1_ := Aside0.mk (Kd.S_drew HO528.out)
        have n2_ := Aside0.mk (blk_drew BK517.out)
        have n3_ := Aside0.mk (blk_drew BK518.out)
        have n4_ := Aside0.mk (blk_drew BK529.out)
        have n5_ := Aside0.mk (below_drew1 HB.out)
        clear HO521
        clear HO528
        clear BK517
        clear BK518
        clear BK529
        clear HB
        have HO521 := n0_
        have HO528 := n1_
        have BK517 := n2_
        have BK518 := n3_
        have BK529 := n4_
        have HB := n5_
        clear n0_ n1_ n2_ n3_ n4_ n5_
        refine start_ (n := 14) (S := fun w' => w'.cell? ⟨gb529, 0, none⟩ = some (.slice Ao21 t526.length co21) ∧ w'.cell? ⟨gb517, 0, none⟩ = some (.slice A0_0 l0_0.length c0_0) ∧ w'.cell? ⟨gb517, 1, none⟩ = some (.int .i64 a0_1) ∧ w'.cell? ⟨gb517, 2, none⟩ = some (.int .i64 a0_2) ∧ w'.cell? ⟨gb517, 3, none⟩ = some (.int .i64 a0_3) ∧ w'.cell? ⟨gb517, 4, none⟩ = some (.int .i64 a0_4) ∧ w'.cell? ⟨gb517, 5, none⟩ = some (.int .i64 a0_5) ∧ w'.cell? ⟨gb517, 6, none⟩ = some (.int .i64 a0_6)) (ds := []) #[false, false, false, false, false, false, false, false, false, false, false, false, false, false] (by kernel_rfl) rfl rfl ⟨(blk_cell BK529.out 0).trans rfl, (blk_cell BK517.out 0).trans rfl, (blk_cell BK517.out 1).trans rfl, (blk_cell BK517.out 2).trans rfl, (blk_cell BK517.out 3).trans rfl, (blk_cell BK517.out 4).trans rfl, (blk_cell BK517.out 5).trans rfl, (blk_cell BK517.out 6).trans rfl⟩ (fun hHeld => ?_); refine with_tabW spec_l6Move.tab4 spec_l6Move.bits4 (fun HT_ HW_ => ?_)
        generalize w23.drew = w24 at HO521 HO528 BK517 BK518 BK529 HB hHeld ⊢
        refine pure_ (i := 1) (N := some 38) (v := ?_) (a' := ?_) #[false, true, false, false, false, false, false, false, false, false, false, false, false, false] rfl rfl (any_of HT_.out (by kernel_rfl)) (fun _ _ _ h => h) (Or.inl ⟨by rfl, ?_⟩) ?_ ?_
        rotate_left
        · intro w'
          go_simp
          with_reducible rfl
        rotate_left
        · simp only [Act.put, List.setIfInBounds_toArray, List.set_cons_zero, List.set_cons_succ, i64_w, i32_w]
          rfl
        refine pure_ (i := 3) (N := some 40) (v := ?_) (a' := ?_) #[false, true, false, true, false, false, false, false, false, false, false, false, false, false] rfl rfl (any_of HT_.out (by kernel_rfl)) (fun _ _ _ h => h) (Or.inl ⟨by rfl, ?_⟩) ?_ ?_
        rotate_left
        · intro w'
          go_simp
          with_reducible rfl
        rotate_left
        · simp only [Act.put, List.setIfInBounds_toArray, List.set_cons_zero, List.set_cons_succ, i64_w, i32_w]
          rfl
        refine pure_ (i := 4) (N := some 41) (v := ?_) (a' := ?_) #[false, true, false, true, true, false, false, false, false, false, false, false, false, false] rfl rfl (any_of HT_.out (by kernel_rfl)) (fun _ _ _ h => h) (Or.inl ⟨by rfl, ?_⟩) ?_ ?_
        rotate_left
        · intro w'
          go_simp
          with_reducible rfl
        rotate_left
        · simp only [Act.put, List.setIfInBounds_toArray, List.set_cons_zero, List.set_cons_succ, i64_w, i32_w]
          rfl
        refine pure_ (i := 5) (N := some 42) (v := ?_) (a' := ?_) #[false, true, false, true, true, true, false, false, false, false, false, false, false, false] rfl rfl (any_of HT_.out (by kernel_rfl)) (fun _ _ _ h => h) (Or.inl ⟨by rfl, ?_⟩) ?_ ?_
        rotate_left
        · intro w'
          go_simp
          with_reducible rfl
        rotate_left
        · simp only [Act.put, List.setIfInBounds_toArray, List.set_cons_zero, List.set_cons_succ, i64_w, i32_w]
          rfl
        refine pure_ (i := 6) (N := some 43) (v := ?_) (a' := ?_) #[false, true, false, true, true, true, true, false, false, false, false, false, false, false] rfl rfl (any_of HT_.out (by kernel_rfl)) (fun _ _ _ h => h) (Or.inl ⟨by rfl, ?_⟩) ?_ ?_
        rotate_left
        · intro w'
          go_simp
          with_reducible rfl
        rotate_left
        · simp only [Act.put, List.setIfInBounds_toArray, List.set_cons_zero, List.set_cons_succ, i64_w, i32_w]
          rfl
        refine pure_ (i := 8) (N := some 45) (v := ?_) (a' := ?_) #[false, true, false, true, true, true, true, false, true, false, false, false, false, false] rfl rfl (any_of HT_.out (by kernel_rfl)) (fun _ _ _ h => h) (Or.inl ⟨by rfl, ?_⟩) ?_ ?_
        rotate_left
        · intro w'
          go_simp
          with_reducible rfl
        rotate_left
        · simp only [Act.put, List.setIfInBounds_toArray, List.set_cons_zero, List.set_cons_succ, i64_w, i32_w]
          rfl
        refine pure_ (i := 10) (N := some 47) (v := ?_) (a' := ?_) #[false, true, false, true, true, true, true, false, true, false, true, false, false, false] rfl rfl (any_of HT_.out (by kernel_rfl)) (fun _ _ _ h => h) (Or.inl ⟨by rfl, ?_⟩) ?_ ?_
        rotate_left
        · intro w'
          go_simp
          with_reducible rfl
        rotate_left
        · simp only [Act.put, List.setIfInBounds_toArray, List.set_cons_zero, List.set_cons_succ, i64_w, i32_w]
          rfl
        refine take_ (i := 0) (N := some 37) (v := ?_) (a' := ?_) #[true, true, false, true, true, true, true, false, true, false, true, false, false, false] rfl rfl (take_ofW HT_.out HW_.out (by kernel_rfl)) (fun _ _ _ h => h) (Or.inl ⟨by rfl, ?_⟩) hHeld ?_ ?_
        rotate_left
        · rintro w' ⟨s0, s1, s2, s3, s4, s5, s6, s7⟩
          go_simp
          with_reducible rfl
        rotate_left
        · simp only [Act.put, List.setIfInBounds_toArray, List.set_cons_zero, List.set_cons_succ, i64_w, i32_w]
          rfl
        refine take_ (i := 2) (N := some 39) (v := ?_) (a' := ?_) #[true, true, true, true, true, true, true, false, true, false, true, false, false, false] rfl rfl (take_ofW HT_.out HW_.out (by kernel_rfl)) (fun _ _ _ h => h) (Or.inl ⟨by rfl, ?_⟩) hHeld ?_ ?_
        rotate_left
        · rintro w' ⟨s0, s1, s2, s3, s4, s5, s6, s7⟩
          go_simp
          with_reducible rfl
        rotate_left
        · simp only [Act.put, List.setIfInBounds_toArray, List.set_cons_zero, List.set_cons_succ, i64_w, i32_w]
          rfl
        refine pure_ (i := 7) (N := some 44) (v := ?_) (a' := ?_) #[true, true, true, true, true, true, true, true, true, false, true, false, false, false] rfl rfl (any_of HT_.out (by kernel_rfl)) (fun _ _ _ h => h) (Or.inl ⟨by rfl, ?_⟩) ?_ ?_
        rotate_left
        · intro w'
          go_simp
          with_reducible rfl
        rotate_left
        · simp only [Act.put, List.setIfInBounds_toArray, List.set_cons_zero, List.set_cons_succ, i64_w, i32_w]
          rfl
        refine take_ (i := 9) (N := some 46) (v := ?_) (a' := ?_) #[true, true, true, true, true, true, true, true, true, true, true, false, false, false] rfl rfl (take_ofW HT_.out HW_.out (by kernel_rfl)) (fun _ _ _ h => h) (Or.inl ⟨by rfl, ?_⟩) hHeld ?_ ?_
        rotate_left
        · rintro w' ⟨s0, s1, s2, s3, s4, s5, s6, s7⟩
          go_simp
          with_reducible rfl
        rotate_left
        · simp only [Act.put, List.setIfInBounds_toArray, List.set_cons_zero, List.set_cons_succ, i64_w, i32_w]
          rfl
        refine pure_ (i := 11) (N := some 48) (v := ?_) (a' := ?_) #[true, true, true, true, true, true, true, true, true, true, true, true, false, false] rfl rfl (any_of HT_.out (by kernel_rfl)) (fun _ _ _ h => h) (Or.inl ⟨by rfl, ?_⟩) ?_ ?_
        rotate_left
        · intro w'
          go_simp
          with_reducible rfl
        rotate_left
        · simp only [Act.put, List.setIfInBounds_toArray, List.set_cons_zero, List.set_cons_succ, i64_w, i32_w]
          rfl
        refine one_ (i := 12) (N := none) #[true, true, true, true, true, true, true, true, true, true, true, true, true, false] rfl rfl (one_of HT_.out (by kernel_rfl)) (by decide) (fun K hK => ?_)
        have hs25 : w24.cell? ⟨gb518, 0, none⟩ = some (.slice none 0 0) := (blk_cell BK518.out 0).trans rfl
        have hfs25 := blk_frozen BK518.out 0
        have hns25_0 := NB517_518.out
        have hns25_2 := NB529_518.out
        have hms25_0 := NB518_517.out
        have hms25_2 := NB518_529.out
        have hs26 : w24.cell? ⟨gb518, 1, none⟩ = some (.int .i64 0) := (blk_cell BK518.out 1).trans rfl
        have hfs26 := blk_frozen BK518.out 1
        have hns26_0 := NB517_518.out
        have hns26_2 := NB529_518.out
        have hms26_0 := NB518_517.out
        have hms26_2 := NB518_529.out
        have hs27 : w24.cell? ⟨gb518, 2, none⟩ = some (.int .i64 0) := (blk_cell BK518.out 2).trans rfl
        have hfs27 := blk_frozen BK518.out 2
        have hns27_0 := NB517_518.out
        have hns27_2 := NB529_518.out
        have hms27_0 := NB518_517.out
        have hms27_2 := NB518_529.out
        have hs28 : w24.cell? ⟨gb518, 3, none⟩ = some (.int .i64 0) := (blk_cell BK518.out 3).trans rfl
        have hfs28 := blk_frozen BK518.out 3
        have hns28_0 := NB517_518.out
        have hns28_2 := NB529_518.out
        have hms28_0 := NB518_517.out
        have hms28_2 := NB518_529.out
        have hs29 : w24.cell? ⟨gb518, 4, none⟩ = some (.int .i64 0) := (blk_cell BK518.out 4).trans rfl
        have hfs29 := blk_frozen BK518.out 4
        have hns29_0 := NB517_518.out
        have hns29_2 := NB529_518.out
        have hms29_0 := NB518_517.out
        have hms29_2 := NB518_529.out
        have hs30 : w24.cell? ⟨gb518, 5, none⟩ = some (.int .i64 0) := (blk_cell BK518.out 5).trans rfl
        have hfs30 := blk_frozen BK518.out 5
        have hns30_0 := NB517_518.out
        have hns30_2 := NB529_518.out
        have hms30_0 := NB518_517.out
        have hms30_2 := NB518_529.out
        have hs31 : w24.cell? ⟨gb518, 6, none⟩ = some (.int .i64 0) := (blk_cell BK518.out 6).trans rfl
        have hfs31 := blk_frozen BK518.out 6
        have hns31_0 := NB517_518.out
        have hns31_2 := NB529_518.out
        have hms31_0 := NB518_517.out
        have hms31_2 := NB518_529.out
        refine skip_ (w1 := ?_) (by rfl) rfl ?_ ?_
        rotate_left
        · go_simp
          rfl
        refine hK.out _ _ ⟨((cell_far (p := ⟨gb518, _, none⟩) NB529_518.out _).trans (((cell_far (p := ⟨gb518, _, none⟩) NB529_518.out _).trans (((cell_far (p := ⟨gb518, _, none⟩) NB529_518.out _).trans (((cell_far (p := ⟨gb518, _, none⟩) NB529_518.out _).trans (((cell_far (p := ⟨gb518, _, none⟩) NB529_518.out _).trans (((cell_far (p := ⟨gb518, _, none⟩) NB529_518.out _).trans (((cell_far (p := ⟨gb518, _, none⟩) NB529_518.out _).trans (hHeld.1)))))))))))))), ((cell_far (p := ⟨gb518, _, none⟩) NB517_518.out _).trans (((cell_far (p := ⟨gb518, _, none⟩) NB517_518.out _).trans (((cell_far (p := ⟨gb518, _, none⟩) NB517_518.out _).trans (((cell_far (p := ⟨gb518, _, none⟩) NB517_518.out _).trans (((cell_far (p := ⟨gb518, _, none⟩) NB517_518.out _).trans (((cell_far (p := ⟨gb518, _, none⟩) NB517_518.out _).trans (((cell_far (p := ⟨gb518, _, none⟩) NB517_518.out _).trans (hHeld.2.1)))))))))))))), ((cell_far (p := ⟨gb518, _, none⟩) NB517_518.out _).trans (((cell_far (p := ⟨gb518, _, none⟩) NB517_518.out _).trans (((cell_far (p := ⟨gb518, _, none⟩) NB517_518.out _).trans (((cell_far (p := ⟨gb518, _, none⟩) NB517_518.out _).trans (((cell_far (p := ⟨gb518, _, none⟩) NB517_518.out _).trans (((cell_far (p := ⟨gb518, _, none⟩) NB517_518.out _).trans (((cell_far (p := ⟨gb518, _, none⟩) NB517_518.out _).trans (hHeld.2.2.1)))))))))))))), ((cell_far (p := ⟨gb518, _, none⟩) NB517_518.out _).trans (((cell_far (p := ⟨gb518, _, none⟩) NB517_518.out _).trans (((cell_far (p := ⟨gb518, _, none⟩) NB517_518.out _).trans (((cell_far (p := ⟨gb518, _, none⟩) NB517_518.out _).trans (((cell_far (p := ⟨gb518, _, none⟩) NB517_518.out _).trans (((cell_far (p := ⟨gb518, _, none⟩) NB517_518.out _).trans (((cell_far (p := ⟨gb518, _, none⟩) NB517_518.out _).trans (hHeld.2.2.2.1)))))))))))))), ((cell_far (p := ⟨gb518, _, none⟩) NB517_518.out _).trans (((cell_far (p := ⟨gb518, _, none⟩) NB517_518.out _).trans (((cell_far (p := ⟨gb518, _, none⟩) NB517_518.out _).trans (((cell_far (p := ⟨gb518, _, none⟩) NB517_518.out _).trans (((cell_far (p := ⟨gb518, _, none⟩) NB517_518.out _).trans (((cell_far (p := ⟨gb518, _, none⟩) NB517_518.out _).trans (((cell_far (p := ⟨gb518, _, none⟩) NB517_518.out _).trans (hHeld.2.2.2.2.1)))))))))))))), ((cell_far (p := ⟨gb518, _, none⟩) NB517_518.out _).trans (((cell_far (p := ⟨gb518, _, none⟩) NB517_518.out _).trans (((cell_far (p := ⟨gb518, _, none⟩) NB517_518.out _).trans (((cell_far (p := ⟨gb518, _, none⟩) NB517_518.out _).trans (((cell_far (p := ⟨gb518, _, none⟩) NB517_518.out _).trans (((cell_far (p := ⟨gb518, _, none⟩) NB517_518.out _).trans (((cell_far (p := ⟨gb518, _, none⟩) NB517_518.out _).trans (hHeld.2.2.2.2.2.1)))))))))))))), ((cell_far (p := ⟨gb518, _, none⟩) NB517_518.out _).trans (((cell_far (p := ⟨gb518, _, none⟩) NB517_518.out _).trans (((cell_far (p := ⟨gb518, _, none⟩) NB517_518.out _).trans (((cell_far (p := ⟨gb518, _, none⟩) NB517_518.out _).trans (((cell_far (p := ⟨gb518, _, none⟩) NB517_518.out _).trans (((cell_far (p := ⟨gb518, _, none⟩) NB517_518.out _).trans (((cell_far (p := ⟨gb518, _, none⟩) NB517_518.out _).trans (hHeld.2.2.2.2.2.2.1)))))))))))))), ((cell_far (p := ⟨gb518, _, none⟩) NB517_518.out _).trans (((cell_far (p := ⟨gb518, _, none⟩) NB517_518.out _).trans (((cell_far (p := ⟨gb518, _, none⟩) NB517_518.out _).trans (((cell_far (p := ⟨gb518, _, none⟩) NB517_518.out _).trans (((cell_far (p := ⟨gb518, _, none⟩) NB517_518.out _).trans (((cell_far (p := ⟨gb518, _, none⟩) NB517_518.out _).trans (((cell_far (p := ⟨gb518, _, none⟩) NB517_518.out _).trans (hHeld.2.2.2.2.2.2.2))))))))))))))⟩ (fun hHeld => ?_)
        clear hK K
        refine pure_ (i := 13) (N := some 5) (v := ?_) (a' := ?_) #[true, true, true, true, true, true, true, true, true, true, true, true, true, true] rfl rfl (any_of HT_.out (by kernel_rfl)) (fun _ _ _ h => h) (Or.inl ⟨by rfl, ?_⟩) ?_ ?_
        rotate_left
        · intro w'
          go_simp
          with_reducible rfl
        rotate_left
        · simp only [Act.put, List.setIfInBounds_toArray, List.set_cons_zero, List.set_cons_succ, i64_w, i32_w]
          rfl
        refine done_ (done_of HT_.out (by kernel_rfl)) ?_
        try go_wp2
        refine bodyPost_ret (results_ct rfl _ _ gb518 69 #[.slice Ao21 t526.length co21, .int .i64 a0_1, .int .i64 a0_2, .int .i64 a0_3, .int .i64 a0_4, .int .i64 a1, .int .i64 (wrap64 (a1 + (wrap64 (a0_6 - a0_5))))] (0, 0) _ rfl (by (with_reducible repeat (first | refine blk_drewN ?_ _ | refine blk_drew ?_ | refine blk_alloc ?_ _)); refine blk_put (cs := #[.slice Ao21 t526.length co21, .int .i64 a0_1, .int .i64 a0_2, .int .i64 a0_3, .int .i64 a0_4, .int .i64 a1, .int .i64 0]) ?_ 6 _ rfl; (with_reducible repeat (first | refine blk_drewN ?_ _ | refine blk_drew ?_ | refine blk_alloc ?_ _)); refine blk_put (cs := #[.slice Ao21 t526.length co21, .int .i64 a0_1, .int .i64 a0_2, .int .i64 a0_3, .int .i64 a0_4, .int .i64 0, .int .i64 0]) ?_ 5 _ rfl; (with_reducible repeat (first | refine blk_drewN ?_ _ | refine blk_drew ?_ | refine blk_alloc ?_ _)); refine blk_put (cs := #[.slice Ao21 t526.length co21, .int .i64 a0_1, .int .i64 a0_2, .int .i64 a0_3, .int .i64 0, .int .i64 0, .int .i64 0]) ?_ 4 _ rfl; (with_reducible repeat (first | refine blk_drewN ?_ _ | refine blk_drew ?_ | refine blk_alloc ?_ _)); refine blk_put (cs := #[.slice Ao21 t526.length co21, .int .i64 a0_1, .int .i64 a0_2, .int .i64 0, .int .i64 0, .int .i64 0, .int .i64 0]) ?_ 3 _ rfl; (with_reducible repeat (first | refine blk_drewN ?_ _ | refine blk_drew ?_ | refine blk_alloc ?_ _)); refine blk_put (cs := #[.slice Ao21 t526.length co21, .int .i64 a0_1, .int .i64 0, .int .i64 0, .int .i64 0, .int .i64 0, .int .i64 0]) ?_ 2 _ rfl; (with_reducible repeat (first | refine blk_drewN ?_ _ | refine blk_drew ?_ | refine blk_alloc ?_ _)); refine blk_put (cs := #[.slice Ao21 t526.length co21, .int .i64 0, .int .i64 0, .int .i64 0, .int .i64 0, .int .i64 0, .int .i64 0]) ?_ 1 _ rfl; (with_reducible repeat (first | refine blk_drewN ?_ _ | refine blk_drew ?_ | refine blk_alloc ?_ _)); refine blk_put (cs := #[.slice none 0 0, .int .i64 0, .int .i64 0, .int .i64 0, .int .i64 0, .int .i64 0, .int .i64 0]) ?_ 0 _ rfl; (with_reducible repeat (first | refine blk_drewN ?_ _ | refine blk_drew ?_ | refine blk_alloc ?_ _)); exact BK518.out) Try.underlying69 rfl (by kernel_rfl)) rfl ?_
        exact ⟨_, by first | rfl | (simp [errW_none, errW_some] <;> rfl) | (simp [*, errW_none, errW_some] <;> rfl), by (with_reducible repeat (first | apply Kd.S_alloc | apply Kd.S_drewN | apply Kd.S_drew)); exact Kd.S_mono (Kd.S_far (p := ⟨gb518, 6, none⟩) (Kd.S_far (p := ⟨gb518, 5, none⟩) (Kd.S_far (p := ⟨gb518, 4, none⟩) (Kd.S_far (p := ⟨gb518, 3, none⟩) (Kd.S_far (p := ⟨gb518, 2, none⟩) (Kd.S_far (p := ⟨gb518, 1, none⟩) (Kd.S_far (p := ⟨gb518, 0, none⟩) (Kd.S_types HO528.out BK518.out (by decide)) (fun _ hk => hk.2) (.slice Ao21 t526.length co21)) (fun _ hk => hk.2) (.int .i64 a0_1)) (fun _ hk => hk.2) (.int .i64 a0_2)) (fun _ hk => hk.2) (.int .i64 a0_3)) (fun _ hk => hk.2) (.int .i64 a0_4)) (fun _ hk => hk.2) (.int .i64 a1)) (fun _ hk => hk.2) (.int .i64 (wrap64 (a1 + (wrap64 (a0_6 - a0_5)))))) (fun _ hk => trivial), by repeat (first | (with_reducible first | exact HB.out | apply below_alloc | apply pw_below_drewN | apply below_drew1 | refine below_set ?_ GE517.out | refine below_set ?_ GE518.out | refine below_set ?_ GE529.out) | exact HB.out)⟩
      · rw [if_neg c7] at H
        exact absurd H (by simp)
    · rw [if_neg c5] at H
      exact absurd H (by simp)
  · rw [if_neg c4] at H
    have c4b0 : decide (a1 ≤ a0_5) = false := decide_eq_false c4
    clear c4
    by_cases c32 : 0 ≤ a0_6
    · rw [if_pos c32] at H
      have c32b0 := eq_true c32
      have c32b1 : decide (0 ≤ a0_6) = true := decide_eq_true c32
      clear c32
      by_cases c33 : a0_6 ≤ (wrap64 (a1 + (wrap64 (a0_6 - a0_5))))
      · rw [if_pos c33] at H
        have c33b0 := eq_true c33
        have c33b1 : decide (a0_6 ≤ (wrap64 (a1 + (wrap64 (a0_6 - a0_5))))) = true := decide_eq_true c33
        by_cases c34 : (wrap64 (a1 + (wrap64 (a0_6 - a0_5)))) ≤ (t519.length : Int)
        · rw [if_pos c34] at H
          have c34b0 := eq_true c34
          have c34b1 : decide ((wrap64 (a1 + (wrap64 (a0_6 - a0_5)))) ≤ (t519.length : Int)) = true := decide_eq_true c34
          obtain ⟨y530, hy530⟩ : ∃ y_ : List Int, y_ = ((t519.take ((wrap64 (a1 + (wrap64 (a0_6 - a0_5)))) : Int).toNat).drop (a0_6 : Int).toNat) := ⟨_, rfl⟩
          replace H : ((spec_l2Write.f k l0_0 a0_1 a0_2 a0_3 a0_4 a0_5 y530).bind fun t534 => (some (t534, a0_1, a0_2, a0_3, a0_4, a1, wrap64 (a1 + (wrap64 (a0_6 - a0_5))), wrap64 (a1 - a0_5)))) = some (r1, r2, r3, r4, r5, r6, r7, r8) := by first | (rw [hy530]; with_reducible exact H) | (have H2_ := (Option.bind_some _ _).symm.trans H; rw [hy530]; with_reducible exact H2_) | (have H2_ := (Option.bind_some _ _).symm.trans H; with_reducible exact H2_) | with_reducible exact H | (rw [hy530]; exact H) | exact H
          have Ny530 := Aside0.mk hy530
          clear hy530
          replace H := Option.bind_eq_some_iff.mp H
          obtain ⟨t534, A350, H⟩ := H
          replace H : (some (t534, a0_1, a0_2, a0_3, a0_4, a1, wrap64 (a1 + (wrap64 (a0_6 - a0_5))), wrap64 (a1 - a0_5))) = some (r1, r2, r3, r4, r5, r6, r7, r8) := H
          have A35 := Aside0.mk A350
          clear A350
          simp only [Option.some.injEq, Prod.mk.injEq] at H
          obtain ⟨rfl, rfl, rfl, rfl, rfl, rfl, rfl, rfl⟩ := H
          go_enter Try.func98, Try.ntmps98
          try go_wp2_with (first | ((with_reducible refine gate_dst (N := 2) rfl ?_); refine box_event ?hg (N := 2) ?hd (cs := #[.slice A0_0 l0_0.length c0_0, .int .i64 a0_1, .int .i64 a0_2, .int .i64 a0_3, .int .i64 a0_4, .int .i64 a0_5, .int .i64 a0_6]) (t := 69) ?hr ?_; (case hd => rfl); (case hg => rfl); (case hr => first | (go_simp; done) | (go_simp; rfl)); intro gb517 hg w36 hbox hb; have n0_ := Aside0.mk (below_step (by repeat (first | (with_reducible first | exact HB.out | apply below_alloc | apply pw_below_drewN | apply below_drew1) | exact HB.out)) hb); have n1_ := Aside0.mk (hbox); have n2_ := Aside0.mk ((by rw [hg]; exact (below_size (by repeat (first | (with_reducible first | exact HB.out | apply below_alloc | apply pw_below_drewN | apply below_drew1) | exact HB.out))) : w.heap.size ≤ gb517)); have n3_ := Aside0.mk ((by rw [hg]; exact (below_size (by repeat (first | (with_reducible first | exact HB.out | apply below_alloc | apply pw_below_drewN | apply below_drew1) | exact HB.out))) : w.heap.size ≤ gb517)); clear HB; have HB := n0_; have BK517 := n1_; have GW517 := n2_; have GE517 := n3_; clear n0_ n1_ n2_ n3_; clear hb hbox hg) | ((with_reducible refine gate_dst (N := 4) rfl ?_); refine box_event ?hg (N := 4) ?hd (cs := #[.slice none 0 0, .int .i64 0, .int .i64 0, .int .i64 0, .int .i64 0, .int .i64 0, .int .i64 0]) (t := 69) ?hr ?_; (case hd => rfl); (case hg => rfl); (case hr => first | (go_simp; done) | (go_simp; rfl)); intro gb518 hg w37 hbox hb; have n0_ := Aside0.mk (blk_below (g := gb517) (o := .cells #[.slice A0_0 l0_0.length c0_0, .int .i64 a0_1, .int .i64 a0_2, .int .i64 a0_3, .int .i64 a0_4, .int .i64 a0_5, .int .i64 a0_6] 69 (0, 0)) (by (with_reducible repeat (first | refine blk_drewN ?_ _ | refine blk_drew ?_ | refine blk_alloc ?_ _)); exact BK517.out) hb); have n1_ := Aside0.mk (below_step (by repeat (first | (with_reducible first | exact HB.out | apply below_alloc | apply pw_below_drewN | apply below_drew1 | refine below_set ?_ GE517.out) | exact HB.out)) hb); have n2_ := Aside0.mk (hbox); have n3_ := Aside0.mk ((by rw [hg]; exact (below_size (by repeat (first | (with_reducible first | exact HB.out | apply below_alloc | apply pw_below_drewN | apply below_drew1 | refine below_set ?_ GE517.out) | exact HB.out))) : w.heap.size ≤ gb518)); have n4_ := Aside0.mk ((by rw [hg]; exact (below_size (by repeat (first | (with_reducible first | exact HB.out | apply below_alloc | apply pw_below_drewN | apply below_drew1 | refine below_set ?_ GE517.out) | exact HB.out))) : w.heap.size ≤ gb518)); have n5_ := Aside0.mk ((by rw [hg]; exact Nat.ne_of_lt (blk_lt (g := gb517) (o := .cells #[.slice A0_0 l0_0.length c0_0, .int .i64 a0_1, .int .i64 a0_2, .int .i64 a0_3, .int .i64 a0_4, .int .i64 a0_5, .int .i64 a0_6] 69 (0, 0)) (by (with_reducible repeat (first | refine blk_drewN ?_ _ | refine blk_drew ?_ | refine blk_alloc ?_ _)); exact BK517.out)) : gb517 ≠ gb518)); have n6_ := Aside0.mk ((by rw [hg]; exact Nat.ne_of_gt (blk_lt (g := gb517) (o := .cells #[.slice A0_0 l0_0.length c0_0, .int .i64 a0_1, .int .i64 a0_2, .int .i64 a0_3, .int .i64 a0_4, .int .i64 a0_5, .int .i64 a0_6] 69 (0, 0)) (by (with_reducible repeat (first | refine blk_drewN ?_ _ | refine blk_drew ?_ | refine blk_alloc ?_ _)); exact BK517.out)) : gb518 ≠ gb517)); clear BK517; clear HB; have BK517 := n0_; have HB := n1_; have BK518 := n2_; have GW518 := n3_; have GE518 := n4_; have NB517_518 := n5_; have NB518_517 := n6_; clear n0_ n1_ n2_ n3_ n4_ n5_ n6_; clear hb hbox hg))
          have n0_ := Aside0.mk (blk_drew BK517.out)
          have n1_ := Aside0.mk (blk_drew BK518.out)
          have n2_ := Aside0.mk (below_drew1 HB.out)
          clear BK517
          clear BK518
          clear HB
          have BK517 := n0_
          have BK518 := n1_
          have HB := n2_
          clear n0_ n1_ n2_
          refine start_ (n := 12) (S := fun w' => w'.cell? ⟨gb517, 0, none⟩ = some (.slice A0_0 l0_0.length c0_0) ∧ w'.cell? ⟨gb517, 1, none⟩ = some (.int .i64 a0_1) ∧ w'.cell? ⟨gb517, 2, none⟩ = some (.int .i64 a0_2) ∧ w'.cell? ⟨gb517, 3, none⟩ = some (.int .i64 a0_3) ∧ w'.cell? ⟨gb517, 4, none⟩ = some (.int .i64 a0_4) ∧ w'.cell? ⟨gb517, 5, none⟩ = some (.int .i64 a0_5) ∧ w'.cell? ⟨gb517, 6, none⟩ = some (.int .i64 a0_6)) (ds := []) #[false, false, false, false, false, false, false, false, false, false, false, false] (by kernel_rfl) rfl rfl ⟨(blk_cell BK517.out 0).trans rfl, (blk_cell BK517.out 1).trans rfl, (blk_cell BK517.out 2).trans rfl, (blk_cell BK517.out 3).trans rfl, (blk_cell BK517.out 4).trans rfl, (blk_cell BK517.out 5).trans rfl, (blk_cell BK517.out 6).trans rfl⟩ (fun hHeld => ?_); refine with_tabW spec_l6Move.tab1 spec_l6Move.bits1 (fun HT_ HW_ => ?_)
          generalize w37.drew = w38 at BK517 BK518 HB hHeld ⊢
          refine pure_ (i := 0) (N := some 10) (v := ?_) (a' := ?_) #[true, false, false, false, false, false, false, false, false, false, false, false] rfl rfl (any_of HT_.out (by kernel_rfl)) (fun _ _ _ h => h) (Or.inl ⟨by rfl, ?_⟩) ?_ ?_
          rotate_left
          · intro w'
            go_simp
            with_reducible rfl
          rotate_left
          · simp only [Act.put, List.setIfInBounds_toArray, List.set_cons_zero, List.set_cons_succ, i64_w, i32_w]
            rfl
          refine pure_ (i := 2) (N := some 12) (v := ?_) (a' := ?_) #[true, false, true, false, false, false, false, false, false, false, false, false] rfl rfl (any_of HT_.out (by kernel_rfl)) (fun _ _ _ h => h) (Or.inl ⟨by rfl, ?_⟩) ?_ ?_
          rotate_left
          · intro w'
            go_simp
            with_reducible rfl
          rotate_left
          · simp only [Act.put, List.setIfInBounds_toArray, List.set_cons_zero, List.set_cons_succ, i64_w, i32_w]
            rfl
          refine pure_ (i := 5) (N := some 15) (v := ?_) (a' := ?_) #[true, false, true, false, false, true, false, false, false, false, false, false] rfl rfl (any_of HT_.out (by kernel_rfl)) (fun _ _ _ h => h) (Or.inl ⟨by rfl, ?_⟩) ?_ ?_
          rotate_left
          · intro w'
            go_simp
            with_reducible rfl
          rotate_left
          · simp only [Act.put, List.setIfInBounds_toArray, List.set_cons_zero, List.set_cons_succ, i64_w, i32_w]
            rfl
          refine pure_ (i := 7) (N := some 17) (v := ?_) (a' := ?_) #[true, false, true, false, false, true, false, true, false, false, false, false] rfl rfl (any_of HT_.out (by kernel_rfl)) (fun _ _ _ h => h) (Or.inl ⟨by rfl, ?_⟩) ?_ ?_
          rotate_left
          · intro w'
            go_simp
            with_reducible rfl
          rotate_left
          · simp only [Act.put, List.setIfInBounds_toArray, List.set_cons_zero, List.set_cons_succ, i64_w, i32_w]
            rfl
          refine take_ (i := 1) (N := some 11) (v := ?_) (a' := ?_) #[true, true, true, false, false, true, false, true, false, false, false, false] rfl rfl (take_ofW HT_.out HW_.out (by kernel_rfl)) (fun _ _ _ h => h) (Or.inl ⟨by rfl, ?_⟩) hHeld ?_ ?_
          rotate_left
          · rintro w' ⟨s0, s1, s2, s3, s4, s5, s6⟩
            go_simp
            with_reducible rfl
          rotate_left
          · simp only [Act.put, List.setIfInBounds_toArray, List.set_cons_zero, List.set_cons_succ, i64_w, i32_w]
            rfl
          refine take_ (i := 3) (N := some 13) (v := ?_) (a' := ?_) #[true, true, true, true, false, true, false, true, false, false, false, false] rfl rfl (take_ofW HT_.out HW_.out (by kernel_rfl)) (fun _ _ _ h => h) (Or.inl ⟨by rfl, ?_⟩) hHeld ?_ ?_
          rotate_left
          · rintro w' ⟨s0, s1, s2, s3, s4, s5, s6⟩
            go_simp
            with_reducible rfl
          rotate_left
          · simp only [Act.put, List.setIfInBounds_toArray, List.set_cons_zero, List.set_cons_succ, i64_w, i32_w]
            rfl
          refine take_ (i := 6) (N := some 16) (v := ?_) (a' := ?_) #[true, true, true, true, false, true, true, true, false, false, false, false] rfl rfl (take_ofW HT_.out HW_.out (by kernel_rfl)) (fun _ _ _ h => h) (Or.inl ⟨by rfl, ?_⟩) hHeld ?_ ?_
          rotate_left
          · rintro w' ⟨s0, s1, s2, s3, s4, s5, s6⟩
            go_simp
            with_reducible rfl
          rotate_left
          · simp only [Act.put, List.setIfInBounds_toArray, List.set_cons_zero, List.set_cons_succ, i64_w, i32_w]
            rfl
          refine take_ (i := 8) (N := some 18) (v := ?_) (a' := ?_) #[true, true, true, true, false, true, true, true, true, false, false, false] rfl rfl (take_ofW HT_.out HW_.out (by kernel_rfl)) (fun _ _ _ h => h) (Or.inl ⟨by rfl, ?_⟩) hHeld ?_ ?_
          rotate_left
          · rintro w' ⟨s0, s1, s2, s3, s4, s5, s6⟩
            go_simp
            with_reducible rfl
          rotate_left
          · simp only [Act.put, List.setIfInBounds_toArray, List.set_cons_zero, List.set_cons_succ, i64_w, i32_w]
            rfl
          refine pure_ (i := 9) (N := some 19) (v := ?_) (a' := ?_) #[true, true, true, true, false, true, true, true, true, true, false, false] rfl rfl (any_of HT_.out (by kernel_rfl)) (fun _ _ _ h => h) (Or.inl ⟨by rfl, ?_⟩) ?_ ?_
          rotate_left
          · intro w'
            go_simp
            with_reducible rfl
          rotate_left
          · simp only [Act.put, List.setIfInBounds_toArray, List.set_cons_zero, List.set_cons_succ, i64_w, i32_w]
            rfl
          refine one_ (i := 4) (N := some 14) #[true, true, true, true, true, true, true, true, true, true, false, false] rfl rfl (one_of HT_.out (by kernel_rfl)) (by decide) (fun K hK => ?_)
          refine goes_ Try.func142 (by kernel_rfl) rfl #[.agg #[.slice A0_0 l0_0.length c0_0], .agg #[.int .i64 a0_1, .int .i64 a0_2, .int .i64 a0_3, .int .i64 a0_4]] (by rfl) rfl rfl (by (try simp only [List.map_toArray, List.map_cons, List.map_nil]); first | done | rfl | (simp only [List.length_drop, List.length_take]; rfl)) ?_
          with_reducible refine (spec_l2Bytes.calls k _ _ l0_0 a0_1 a0_2 a0_3 a0_4 t519 _ ?side1 ?side2 A3.out).mono ?_
          (case side1 => repeat (first | exact (Kd.C_below HR0_0.out HB.out) | (with_reducible refine Kd.C_alloc ?_ _) | (with_reducible refine Kd.C_drewN ?_ _) | (with_reducible refine Kd.C_drew ?_)))
          (case side2 => exact HC0_0.out)
          rintro e w39 ⟨v520, rfl, ho0, hb⟩
          refine ⟨_, rfl, ?_⟩
          have n0_ := Aside0.mk (Kd.R_lower ho0 (below_size (by repeat (first | (with_reducible first | exact HB.out | apply below_alloc | apply pw_below_drewN | apply below_drew1 | refine below_set ?_ GE517.out | refine below_set ?_ GE518.out) | exact HB.out))))
          have n1_ := Aside0.mk (blk_below (g := gb517) (o := .cells #[.slice A0_0 l0_0.length c0_0, .int .i64 a0_1, .int .i64 a0_2, .int .i64 a0_3, .int .i64 a0_4, .int .i64 a0_5, .int .i64 a0_6] 69 (0, 0)) (by (with_reducible repeat (first | refine blk_drewN ?_ _ | refine blk_drew ?_ | refine blk_alloc ?_ _)); exact BK517.out) hb)
          have n2_ := Aside0.mk (blk_below (g := gb518) (o := .cells #[.slice none 0 0, .int .i64 0, .int .i64 0, .int .i64 0, .int .i64 0, .int .i64 0, .int .i64 0] 69 (0, 0)) (by (with_reducible repeat (first | refine blk_drewN ?_ _ | refine blk_drew ?_ | refine blk_alloc ?_ _)); exact BK518.out) hb)
          have n3_ := Aside0.mk (below_step (by repeat (first | (with_reducible first | exact HB.out | apply below_alloc | apply pw_below_drewN | apply below_drew1 | refine below_set ?_ GE517.out | refine below_set ?_ GE518.out) | exact HB.out)) hb)
          clear BK517
          clear BK518
          clear HB
          have HO521 := n0_
          have BK517 := n1_
          have BK518 := n2_
          have HB := n3_
          clear n0_ n1_ n2_ n3_
          (try clear hb)
          (try clear hb2)
          (try clear hk)
          (try clear hi)
          (try clear ho0)
          refine hK.out _ _ ⟨(blk_cell BK517.out 0).trans rfl, (blk_cell BK517.out 1).trans rfl, (blk_cell BK517.out 2).trans rfl, (blk_cell BK517.out 3).trans rfl, (blk_cell BK517.out 4).trans rfl, (blk_cell BK517.out 5).trans rfl, (blk_cell BK517.out 6).trans rfl⟩ (fun hHeld => ?_)
          clear hK K
          refine norm_ (a' := ?_) ?_ ?_
          rotate_left
          · show Act.put _ (some 14) _ = _
            simp only [Act.put, List.setIfInBounds_toArray, List.set_cons_zero, List.set_cons_succ, i64_w, i32_w]
            rfl
          refine pure_ (i := 10) (N := some 6) (v := ?_) (a' := ?_) #[true, true, true, true, true, true, true, true, true, true, true, false] rfl rfl (any_of HT_.out (by kernel_rfl)) (fun _ _ _ h => h) (Or.inl ⟨by rfl, ?_⟩) ?_ ?_
          rotate_left
          · intro w'
            go_simp
            with_reducible rfl
          rotate_left
          · simp only [Act.put, List.setIfInBounds_toArray, List.set_cons_zero, List.set_cons_succ, i64_w, i32_w]
            rfl
          refine pure_ (i := 11) (N := some 7) (v := ?_) (a' := ?_) #[true, true, true, true, true, true, true, true, true, true, true, true] rfl rfl (any_of HT_.out (by kernel_rfl)) (fun _ _ _ h => h) (Or.inl ⟨by rfl, ?_⟩) ?_ ?_
          rotate_left
          · intro w'
            go_simp
            with_reducible rfl
          rotate_left
          · simp only [Act.put, List.setIfInBounds_toArray, List.set_cons_zero, List.set_cons_succ, i64_w, i32_w]
            rfl
          refine done_ (done_of HT_.out (by kernel_rfl)) ?_
          have hnb40 := NB517_518.out
          have hnc40 := NB518_517.out
          have hcz41_0 : w39.cell? ⟨gb517, 0, none⟩ = some (.slice A0_0 l0_0.length c0_0) := (blk_cell BK517.out 0).trans rfl
          have hcz41_1 : w39.cell? ⟨gb517, 1, none⟩ = some (.int .i64 a0_1) := (blk_cell BK517.out 1).trans rfl
          have hcz41_2 : w39.cell? ⟨gb517, 2, none⟩ = some (.int .i64 a0_2) := (blk_cell BK517.out 2).trans rfl
          have hcz41_3 : w39.cell? ⟨gb517, 3, none⟩ = some (.int .i64 a0_3) := (blk_cell BK517.out 3).trans rfl
          have hcz41_4 : w39.cell? ⟨gb517, 4, none⟩ = some (.int .i64 a0_4) := (blk_cell BK517.out 4).trans rfl
          have hcz41_5 : w39.cell? ⟨gb517, 5, none⟩ = some (.int .i64 a0_5) := (blk_cell BK517.out 5).trans rfl
          have hcz41_6 : w39.cell? ⟨gb517, 6, none⟩ = some (.int .i64 a0_6) := (blk_cell BK517.out 6).trans rfl
          have hfz41_0 := blk_frozen BK517.out 0
          have hfz41_1 := blk_frozen BK517.out 1
          have hfz41_2 := blk_frozen BK517.out 2
          have hfz41_3 := blk_frozen BK517.out 3
          have hfz41_4 := blk_frozen BK517.out 4
          have hfz41_5 := blk_frozen BK517.out 5
          have hfz41_6 := blk_frozen BK517.out 6
          try go_wp2
          have n0_ := Aside0.mk (Kd.R_drew HO521.out)
          have n1_ := Aside0.mk (blk_drew BK517.out)
          have n2_ := Aside0.mk (blk_drew BK518.out)
          have n3_ := Aside0.mk (below_drew1 HB.out)
          clear HO521
          clear BK517
          clear BK518
          clear HB
          have HO521 := n0_
          have BK517 := n1_
          have BK518 := n2_
          have HB := n3_
          clear n0_ n1_ n2_ n3_
          obtain ⟨Ao44, co44, eo44⟩ := Kd.R_slice HO521.out
          (first | subst eo44 | (injection eo44 with f1_ f2_ f3_; have f4_ := f1_.symm; have f5_ := f3_.symm; clear f1_ f2_ f3_; subst f4_; subst f5_))
          have q43 : ((wrap64 (a1 + (wrap64 (a0_6 - a0_5)))) : Int) ≤ ((t519.length : Int) : Int) := of_decide_eq_true (by first | (with_reducible assumption) | assumption)
          obtain ⟨i043, hi043, _, hsz43, _⟩ := info_parts info5
          have hroom43 : t519.length ≤ co44 := (Kd.R_reads' HO521.out).2.1
          have hC43 : Kd.C (Kd.int .u8) _ Ao44 t519.length t519 := (Kd.R_reads' HO521.out).2.2
          have ql43 : (a0_6 : Int) ≤ ((wrap64 (a1 + (wrap64 (a0_6 - a0_5)))) : Int) := of_decide_eq_true (by first | (with_reducible assumption) | assumption)
          have q043 : (0 : Int) ≤ (a0_6 : Int) := of_decide_eq_true (by first | (with_reducible assumption) | assumption)
          have hcut43 := cut_mid (P := Try.prog) 119 5 .i64 .i64 Try.underlying119 hi043 1 hsz43 Ao44 t519.length co44 a0_6 (wrap64 (a1 + (wrap64 (a0_6 - a0_5)))) q043 ql43 q43 hroom43
          have hr43 := Kd.C_mid (lo := (a0_6 : Int).toNat) (hi := ((wrap64 (a1 + (wrap64 (a0_6 - a0_5)))) : Int).toNat) (c := co44) hC43 (by omega) (by omega) hroom43
          obtain ⟨A43, hA43⟩ : ∃ A1, A1 = (if co44 = (a0_6 : Int).toNat then Ao44 else (Ao44 : Option Addr).map (·.add ((a0_6 : Int).toNat * 1))) := ⟨_, rfl⟩
          obtain ⟨c43, hc43⟩ : ∃ c1, c1 = co44 - (a0_6 : Int).toNat := ⟨_, rfl⟩
          have hy43 : y530.length = ((wrap64 (a1 + (wrap64 (a0_6 - a0_5)))) : Int).toNat - (a0_6 : Int).toNat := (by rw [Ny530.out, List.length_drop, List.length_take] <;> omega)
          rw [show ((t519).take ((wrap64 (a1 + (wrap64 (a0_6 - a0_5)))) : Int).toNat).drop (a0_6 : Int).toNat = y530 from Ny530.out.symm] at hr43
          replace hr43 : Kd.C (Kd.int .u8) _ A43 y530.length y530 := (by rw [hA43]; exact hr43)
          rw [← hy43, ← hA43, ← hc43] at hcut43
          have HR533 := Aside0.mk hr43
          have HC533 := Aside0.mk (show y530.length ≤ c43 from by rw [hy43, hc43]; exact Nat.sub_le_sub_right (Nat.le_trans (by omega) hroom43) _)
          clear hr43 hC43 hroom43 hi043 hsz43 hc43
          have KY43 := Aside0.mk hy43
          have KA43 := Aside0.mk hA43
          clear hy43 hA43
          have KL43 := Aside0.mk (show ((wrap64 (a1 + (wrap64 (a0_6 - a0_5)))) : Int).toNat ≤ t519.length from by omega)
          have KM43 := Aside0.mk (show (a0_6 : Int).toNat ≤ ((wrap64 (a1 + (wrap64 (a0_6 - a0_5)))) : Int).toNat from by omega)
          replace q43 := eq_true q43
          refine start_ (n := 16) (S := fun w' => w'.cell? ⟨gb517, 0, none⟩ = some (.slice A0_0 l0_0.length c0_0) ∧ w'.cell? ⟨gb517, 1, none⟩ = some (.int .i64 a0_1) ∧ w'.cell? ⟨gb517, 2, none⟩ = some (.int .i64 a0_2) ∧ w'.cell? ⟨gb517, 3, none⟩ = some (.int .i64 a0_3) ∧ w'.cell? ⟨gb517, 4, none⟩ = some (.int .i64 a0_4) ∧ w'.cell? ⟨gb517, 5, none⟩ = some (.int .i64 a0_5) ∧ w'.cell? ⟨gb517, 6, none⟩ = some (.int .i64 a0_6)) (ds := []) #[false, false, false, false, false, false, false, false, false, false, false, false, false, false, false, false] (by kernel_rfl) rfl rfl ⟨(blk_cell BK517.out 0).trans rfl, (blk_cell BK517.out 1).trans rfl, (blk_cell BK517.out 2).trans rfl, (blk_cell BK517.out 3).trans rfl, (blk_cell BK517.out 4).trans rfl, (blk_cell BK517.out 5).trans rfl, (blk_cell BK517.out 6).trans rfl⟩ (fun hHeld => ?_); refine with_tabW spec_l6Move.tab5 spec_l6Move.bits5 (fun HT_ HW_ => ?_)
          generalize w39.drew = w42 at HO521 BK517 BK518 HB HR533 hHeld ⊢
          refine pure_ (i := 0) (N := some 49) (v := ?_) (a' := ?_) #[true, false, false, false, false, false, false, false, false, false, false, false, false, false, false, false] rfl rfl (any_of HT_.out (by kernel_rfl)) (fun _ _ _ h => h) (Or.inl ⟨by rfl, ?_⟩) ?_ ?_
          rotate_left
          · intro w'
            go_simp
            with_reducible rfl
          rotate_left
          · simp only [Act.put, List.setIfInBounds_toArray, List.set_cons_zero, List.set_cons_succ, i64_w, i32_w]
            rfl
          refine pure_ (i := 2) (N := some 51) (v := ?_) (a' := ?_) #[true, false, true, false, false, false, false, false, false, false, false, false, false, false, false, false] rfl rfl (any_of HT_.out (by kernel_rfl)) (fun _ _ _ h => h) (Or.inl ⟨by rfl, ?_⟩) ?_ ?_
          rotate_left
          · intro w'
            go_simp
            with_reducible rfl
          rotate_left
          · simp only [Act.put, List.setIfInBounds_toArray, List.set_cons_zero, List.set_cons_succ, i64_w, i32_w]
            rfl
          refine pure_ (i := 4) (N := some 53) (v := ?_) (a' := ?_) #[true, false, true, false, true, false, false, false, false, false, false, false, false, false, false, false] rfl rfl (any_of HT_.out (by kernel_rfl)) (fun _ _ _ h => h) (Or.inl ⟨by rfl, ?_⟩) ?_ ?_
          rotate_left
          · intro w'
            go_simp
            with_reducible rfl
          rotate_left
          · simp only [Act.put, List.setIfInBounds_toArray, List.set_cons_zero, List.set_cons_succ, i64_w, i32_w]
            rfl
          refine pure_ (i := 6) (N := some 55) (v := ?_) (a' := ?_) #[true, false, true, false, true, false, true, false, false, false, false, false, false, false, false, false] rfl rfl (any_of HT_.out (by kernel_rfl)) (fun _ _ _ h => h) (Or.inl ⟨by rfl, ?_⟩) ?_ ?_
          rotate_left
          · intro w'
            go_simp
            with_reducible rfl
          rotate_left
          · simp only [Act.put, List.setIfInBounds_toArray, List.set_cons_zero, List.set_cons_succ, i64_w, i32_w]
            rfl
          refine pure_ (i := 7) (N := some 56) (v := ?_) (a' := ?_) #[true, false, true, false, true, false, true, true, false, false, false, false, false, false, false, false] rfl rfl (any_of HT_.out (by kernel_rfl)) (fun _ _ _ h => h) (Or.inl ⟨by rfl, ?_⟩) ?_ ?_
          rotate_left
          · intro w'
            go_simp
            with_reducible rfl
          rotate_left
          · simp only [Act.put, List.setIfInBounds_toArray, List.set_cons_zero, List.set_cons_succ, i64_w, i32_w]
            rfl
          refine pure_ (i := 9) (N := some 58) (v := ?_) (a' := ?_) #[true, false, true, false, true, false, true, true, false, true, false, false, false, false, false, false] rfl rfl (any_of HT_.out (by kernel_rfl)) (fun _ _ _ h => h) (Or.inl ⟨by rfl, ?_⟩) ?_ ?_
          rotate_left
          · intro w'
            go_simp
            with_reducible rfl
          rotate_left
          · simp only [Act.put, List.setIfInBounds_toArray, List.set_cons_zero, List.set_cons_succ, i64_w, i32_w]
            rfl
          refine pure_ (i := 10) (N := some 59) (v := ?_) (a' := ?_) #[true, false, true, false, true, false, true, true, false, true, true, false, false, false, false, false] rfl rfl (any_of HT_.out (by kernel_rfl)) (fun _ _ _ h => h) (Or.inl ⟨by rfl, ?_⟩) ?_ ?_
          rotate_left
          · intro w'
            go_simp
            with_reducible rfl
          rotate_left
          · simp only [Act.put, List.setIfInBounds_toArray, List.set_cons_zero, List.set_cons_succ, i64_w, i32_w]
            rfl
          refine pure_ (i := 11) (N := some 60) (v := ?_) (a' := ?_) #[true, false, true, false, true, false, true, true, false, true, true, true, false, false, false, false] rfl rfl (any_of HT_.out (by kernel_rfl)) (fun _ _ _ h => h) (Or.inl ⟨by rfl, ?_⟩) ?_ ?_
          rotate_left
          · intro w'
            go_simp
            with_reducible rfl
          rotate_left
          · simp only [Act.put, List.setIfInBounds_toArray, List.set_cons_zero, List.set_cons_succ, i64_w, i32_w]
            rfl
          refine take_ (i := 1) (N := some 50) (v := ?_) (a' := ?_) #[true, true, true, false, true, false, true, true, false, true, true, true, false, false, false, false] rfl rfl (take_ofW HT_.out HW_.out (by kernel_rfl)) (fun _ _ _ h => h) (Or.inl ⟨by rfl, ?_⟩) hHeld ?_ ?_
          rotate_left
          · rintro w' ⟨s0, s1, s2, s3, s4, s5, s6⟩
            go_simp
            with_reducible rfl
          rotate_left
          · simp only [Act.put, List.setIfInBounds_toArray, List.set_cons_zero, List.set_cons_succ, i64_w, i32_w]
            rfl
          refine take_ (i := 3) (N := some 52) (v := ?_) (a' := ?_) #[true, true, true, true, true, false, true, true, false, true, true, true, false, false, false, false] rfl rfl (take_ofW HT_.out HW_.out (by kernel_rfl)) (fun _ _ _ h => h) (Or.inl ⟨by rfl, ?_⟩) hHeld ?_ ?_
          rotate_left
          · rintro w' ⟨s0, s1, s2, s3, s4, s5, s6⟩
            go_simp
            with_reducible rfl
          rotate_left
          · simp only [Act.put, List.setIfInBounds_toArray, List.set_cons_zero, List.set_cons_succ, i64_w, i32_w]
            rfl
          refine take_ (i := 5) (N := some 54) (v := ?_) (a' := ?_) #[true, true, true, true, true, true, true, true, false, true, true, true, false, false, false, false] rfl rfl (take_ofW HT_.out HW_.out (by kernel_rfl)) (fun _ _ _ h => h) (Or.inl ⟨by rfl, ?_⟩) hHeld ?_ ?_
          rotate_left
          · rintro w' ⟨s0, s1, s2, s3, s4, s5, s6⟩
            go_simp
            with_reducible rfl
          rotate_left
          · simp only [Act.put, List.setIfInBounds_toArray, List.set_cons_zero, List.set_cons_succ, i64_w, i32_w]
            rfl
          refine take_ (i := 8) (N := some 57) (v := ?_) (a' := ?_) #[true, true, true, true, true, true, true, true, true, true, true, true, false, false, false, false] rfl rfl (take_ofW HT_.out HW_.out (by kernel_rfl)) (fun _ _ _ h => h) (Or.inl ⟨by rfl, ?_⟩) hHeld ?_ ?_
          rotate_left
          · rintro w' ⟨s0, s1, s2, s3, s4, s5, s6⟩
            go_simp
            with_reducible rfl
          rotate_left
          · simp only [Act.put, List.setIfInBounds_toArray, List.set_cons_zero, List.set_cons_succ, i64_w, i32_w]
            rfl
          refine pure_ (i := 12) (N := some 61) (v := ?_) (a' := ?_) #[true, true, true, true, true, true, true, true, true, true, true, true, true, false, false, false] rfl rfl (any_of HT_.out (by kernel_rfl)) (fun _ _ _ h => h) (Or.inl ⟨by rfl, ?_⟩) ?_ ?_
          rotate_left
          · intro w'
            go_simp
            with_reducible rfl
          rotate_left
          · simp only [Act.put, List.setIfInBounds_toArray, List.set_cons_zero, List.set_cons_succ, i64_w, i32_w]
            rfl
          refine join_ (σ := Value × Nat) 1 #[true, true, true, true, true, true, true, true, true, true, true, true, true, true, true, false] (fun s_ => [(62, .agg #[s_.1]), (9, .pointer (some ⟨s_.2, 0, none⟩))]) (fun s_ w' => (w'.cell? ⟨gb517, 0, none⟩ = some (.slice A0_0 l0_0.length c0_0) ∧ w'.cell? ⟨gb517, 1, none⟩ = some (.int .i64 a0_1) ∧ w'.cell? ⟨gb517, 2, none⟩ = some (.int .i64 a0_2) ∧ w'.cell? ⟨gb517, 3, none⟩ = some (.int .i64 a0_3) ∧ w'.cell? ⟨gb517, 4, none⟩ = some (.int .i64 a0_4) ∧ w'.cell? ⟨gb517, 5, none⟩ = some (.int .i64 a0_5) ∧ w'.cell? ⟨gb517, 6, none⟩ = some (.int .i64 a0_6)) ∧ (Kd.R (Kd.int .u8) 5 w' w.heap.size (fun _ => True) (.slice Ao44 t519.length co44) t519) ∧ (Kd.S (Kd.slice 5 (Kd.int .u8)) 119 w' w.heap.size (fun k_ => some k_ ≠ (.slice Ao44 t519.length co44 : Value).ownBlock) s_.1 t534) ∧ (w'.heap[gb517]? = some (.cells #[.slice A0_0 l0_0.length c0_0, .int .i64 a0_1, .int .i64 a0_2, .int .i64 a0_3, .int .i64 a0_4, .int .i64 a0_5, .int .i64 a0_6] 69 (0, 0))) ∧ (w'.heap[gb518]? = some (.cells #[.slice none 0 0, .int .i64 0, .int .i64 0, .int .i64 0, .int .i64 0, .int .i64 0, .int .i64 0] 69 (0, 0))) ∧ (w'.heap[s_.2]? = some (.cells #[.slice none 0 0] 26 (0, 0))) ∧ (w.heap.size ≤ s_.2) ∧ (w.heap.size ≤ s_.2) ∧ (gb517 ≠ s_.2) ∧ (s_.2 ≠ gb517) ∧ (gb518 ≠ s_.2) ∧ (s_.2 ≠ gb518) ∧ (Below w.heap.size w w')) ?_ ?_
          rotate_left
          · intro hCont
            refine two_ (i := 13) (j := 14) (Ni := some 62) (Nj := some 9) #[true, true, true, true, true, true, true, true, true, true, true, true, true, true, false, false] #[true, true, true, true, true, true, true, true, true, true, true, true, true, false, true, false] rfl rfl rfl rfl (two_of HT_.out (by kernel_rfl)) (by decide) (by decide) (fun K hK => ?_) (fun K hK => ?_)
            · skip
              refine goes_ Try.func143 (by kernel_rfl) rfl #[.agg #[.slice A0_0 l0_0.length c0_0], .agg #[.int .i64 a0_1, .int .i64 a0_2, .int .i64 a0_3, .int .i64 a0_4], .int .i64 a0_5, .slice A43 y530.length c43] (by rfl) rfl rfl (by (try simp only [List.map_toArray, List.map_cons, List.map_nil]); first | done | rfl | (simp only [List.length_drop, List.length_take]; rfl)) ?_
              with_reducible refine (spec_l2Write.calls k _ _ l0_0 a0_1 a0_2 a0_3 a0_4 a0_5 _ _ y530 t534 _ ?side1 ?side2 ?side3 ?side4 A35.out).mono ?_
              (case side1 => repeat (first | exact (Kd.C_below HR0_0.out HB.out) | (with_reducible refine Kd.C_alloc ?_ _) | (with_reducible refine Kd.C_drewN ?_ _) | (with_reducible refine Kd.C_drew ?_)))
              (case side2 => exact HC0_0.out)
              (case side3 => repeat (first | exact (by repeat (first | (with_reducible exact HR533.out) | (with_reducible refine Kd.C_alloc ?_ _) | (with_reducible refine Kd.C_drewN ?_ _) | (with_reducible refine Kd.C_drew ?_) | exact HR533.out)) | (with_reducible refine Kd.C_alloc ?_ _) | (with_reducible refine Kd.C_drewN ?_ _) | (with_reducible refine Kd.C_drew ?_)))
              (case side4 => exact HC533.out)
              rintro e w45 ⟨v535, rfl, ho0, hb⟩
              refine ⟨_, rfl, ?_⟩
              have n0_ := Aside0.mk (Kd.R_below (by (with_reducible repeat (first | apply Kd.R_alloc | apply Kd.R_drewN | apply Kd.R_drew)); exact HO521.out) hb)
              have n1_ := Aside0.mk (Kd.S_lower (Kd.S_new' ho0 (Kd.R_lt (by (with_reducible repeat (first | apply Kd.R_alloc | apply Kd.R_drewN | apply Kd.R_drew)); exact HO521.out))) (below_size (by repeat (first | (with_reducible first | exact HB.out | apply below_alloc | apply pw_below_drewN | apply below_drew1 | refine below_set ?_ GE517.out | refine below_set ?_ GE518.out) | exact HB.out))))
              have n2_ := Aside0.mk (blk_below (g := gb517) (o := .cells #[.slice A0_0 l0_0.length c0_0, .int .i64 a0_1, .int .i64 a0_2, .int .i64 a0_3, .int .i64 a0_4, .int .i64 a0_5, .int .i64 a0_6] 69 (0, 0)) (by (with_reducible repeat (first | refine blk_drewN ?_ _ | refine blk_drew ?_ | refine blk_alloc ?_ _)); exact BK517.out) hb)
              have n3_ := Aside0.mk (blk_below (g := gb518) (o := .cells #[.slice none 0 0, .int .i64 0, .int .i64 0, .int .i64 0, .int .i64 0, .int .i64 0, .int .i64 0] 69 (0, 0)) (by (with_reducible repeat (first | refine blk_drewN ?_ _ | refine blk_drew ?_ | refine blk_alloc ?_ _)); exact BK518.out) hb)
              have n4_ := Aside0.mk (Kd.C_below (by repeat (first | (with_reducible exact HR533.out) | (with_reducible refine Kd.C_alloc ?_ _) | (with_reducible refine Kd.C_drewN ?_ _) | (with_reducible refine Kd.C_drew ?_) | exact HR533.out)) hb)
              have n5_ := Aside0.mk (below_step (by repeat (first | (with_reducible first | exact HB.out | apply below_alloc | apply pw_below_drewN | apply below_drew1 | refine below_set ?_ GE517.out | refine below_set ?_ GE518.out) | exact HB.out)) hb)
              clear HO521
              clear BK517
              clear BK518
              clear HR533
              clear HB
              have HO521 := n0_
              have HO536 := n1_
              have BK517 := n2_
              have BK518 := n3_
              have HR533 := n4_
              have HB := n5_
              clear n0_ n1_ n2_ n3_ n4_ n5_
              (try clear hb)
              (try clear hb2)
              (try clear hk)
              (try clear hi)
              (try clear ho0)
              refine hK.out _ _ ⟨(blk_cell BK517.out 0).trans rfl, (blk_cell BK517.out 1).trans rfl, (blk_cell BK517.out 2).trans rfl, (blk_cell BK517.out 3).trans rfl, (blk_cell BK517.out 4).trans rfl, (blk_cell BK517.out 5).trans rfl, (blk_cell BK517.out 6).trans rfl⟩ (fun hHeld => ?_)
              clear hK K
              refine norm_ (a' := ?_) ?_ ?_
              rotate_left
              · show Act.put _ (some 62) _ = _
                simp only [Act.put, List.setIfInBounds_toArray, List.set_cons_zero, List.set_cons_succ, i64_w, i32_w]
                rfl
              refine one_ (i := 14) (N := some 9) #[true, true, true, true, true, true, true, true, true, true, true, true, true, true, true, false] rfl rfl (one_of HT_.out (by kernel_rfl)) (by decide) (fun K hK => ?_)
              refine box_step ?hg (N := 9) ?hd (cs := #[.slice none 0 0]) (t := 26) ?hr ?_; (case hd => rfl); (case hg => rfl); (case hr => first | (go_simp; done) | (go_simp; rfl))
              intro gb537 hg w46 hbox hb
              have n0_ := Aside0.mk (Kd.R_below (by (with_reducible repeat (first | apply Kd.R_alloc | apply Kd.R_drewN | apply Kd.R_drew)); exact HO521.out) hb)
              have n1_ := Aside0.mk (Kd.S_below (by (with_reducible repeat (first | apply Kd.S_alloc | apply Kd.S_drewN | apply Kd.S_drew)); exact HO536.out) hb)
              have n2_ := Aside0.mk (blk_below (g := gb517) (o := .cells #[.slice A0_0 l0_0.length c0_0, .int .i64 a0_1, .int .i64 a0_2, .int .i64 a0_3, .int .i64 a0_4, .int .i64 a0_5, .int .i64 a0_6] 69 (0, 0)) (by (with_reducible repeat (first | refine blk_drewN ?_ _ | refine blk_drew ?_ | refine blk_alloc ?_ _)); exact BK517.out) hb)
              have n3_ := Aside0.mk (blk_below (g := gb518) (o := .cells #[.slice none 0 0, .int .i64 0, .int .i64 0, .int .i64 0, .int .i64 0, .int .i64 0, .int .i64 0] 69 (0, 0)) (by (with_reducible repeat (first | refine blk_drewN ?_ _ | refine blk_drew ?_ | refine blk_alloc ?_ _)); exact BK518.out) hb)
              have n4_ := Aside0.mk (Kd.C_below (by repeat (first | (with_reducible exact HR533.out) | (with_reducible refine Kd.C_alloc ?_ _) | (with_reducible refine Kd.C_drewN ?_ _) | (with_reducible refine Kd.C_drew ?_) | exact HR533.out)) hb)
              have n5_ := Aside0.mk (below_step (by repeat (first | (with_reducible first | exact HB.out | apply below_alloc | apply pw_below_drewN | apply below_drew1 | refine below_set ?_ GE517.out | refine below_set ?_ GE518.out) | exact HB.out)) hb)
              have n6_ := Aside0.mk (hbox)
              have n7_ := Aside0.mk ((by rw [hg]; exact (below_size (by repeat (first | (with_reducible first | exact HB.out | apply below_alloc | apply pw_below_drewN | apply below_drew1 | refine below_set ?_ GE517.out | refine below_set ?_ GE518.out) | exact HB.out))) : w.heap.size ≤ gb537))
              have n8_ := Aside0.mk ((by rw [hg]; exact (below_size (by repeat (first | (with_reducible first | exact HB.out | apply below_alloc | apply pw_below_drewN | apply below_drew1 | refine below_set ?_ GE517.out | refine below_set ?_ GE518.out) | exact HB.out))) : w.heap.size ≤ gb537))
              have n9_ := Aside0.mk ((by rw [hg]; exact Nat.ne_of_lt (blk_lt (g := gb517) (o := .cells #[.slice A0_0 l0_0.length c0_0, .int .i64 a0_1, .int .i64 a0_2, .int .i64 a0_3, .int .i64 a0_4, .int .i64 a0_5, .int .i64 a0_6] 69 (0, 0)) (by (with_reducible repeat (first | refine blk_drewN ?_ _ | refine blk_drew ?_ | refine blk_alloc ?_ _)); exact BK517.out)) : gb517 ≠ gb537))
              have n10_ := Aside0.mk ((by rw [hg]; exact Nat.ne_of_gt (blk_lt (g := gb517) (o := .cells #[.slice A0_0 l0_0.length c0_0, .int .i64 a0_1, .int .i64 a0_2, .int .i64 a0_3, .int .i64 a0_4, .int .i64 a0_5, .int .i64 a0_6] 69 (0, 0)) (by (with_reducible repeat (first | refine blk_drewN ?_ _ | refine blk_drew ?_ | refine blk_alloc ?_ _)); exact BK517.out)) : gb537 ≠ gb517))
              have n11_ := Aside0.mk ((by rw [hg]; exact Nat.ne_of_lt (blk_lt (g := gb518) (o := .cells #[.slice none 0 0, .int .i64 0, .int .i64 0, .int .i64 0, .int .i64 0, .int .i64 0, .int .i64 0] 69 (0, 0)) (by (with_reducible repeat (first | refine blk_drewN ?_ _ | refine blk_drew ?_ | refine blk_alloc ?_ _)); exact BK518.out)) : gb518 ≠ gb537))
              have n12_ := Aside0.mk ((by rw [hg]; exact Nat.ne_of_gt (blk_lt (g := gb518) (o := .cells #[.slice none 0 0, .int .i64 0, .int .i64 0, .int .i64 0, .int .i64 0, .int .i64 0, .int .i64 0] 69 (0, 0)) (by (with_reducible repeat (first | refine blk_drewN ?_ _ | refine blk_drew ?_ | refine blk_alloc ?_ _)); exact BK518.out)) : gb537 ≠ gb518))
              clear HO521
              clear HO536
              clear BK517
              clear BK518
              clear HR533
              clear HB
              have HO521 := n0_
              have HO536 := n1_
              have BK517 := n2_
              have BK518 := n3_
              have HR533 := n4_
              have HB := n5_
              have BK537 := n6_
              have GW537 := n7_
              have GE537 := n8_
              have NB517_537 := n9_
              have NB537_517 := n10_
              have NB518_537 := n11_
              have NB537_518 := n12_
              clear n0_ n1_ n2_ n3_ n4_ n5_ n6_ n7_ n8_ n9_ n10_ n11_ n12_
              clear hb hbox hg
              refine hK.out _ _ ⟨(blk_cell BK517.out 0).trans rfl, (blk_cell BK517.out 1).trans rfl, (blk_cell BK517.out 2).trans rfl, (blk_cell BK517.out 3).trans rfl, (blk_cell BK517.out 4).trans rfl, (blk_cell BK517.out 5).trans rfl, (blk_cell BK517.out 6).trans rfl⟩ (fun hHeld => ?_)
              clear hK K
              refine norm_ (a' := ?_) ?_ ?_
              rotate_left
              · show Act.put _ (some 9) _ = _
                simp only [Act.put, List.setIfInBounds_toArray, List.set_cons_zero, List.set_cons_succ, i64_w, i32_w]
                rfl
              exact norm_ (by simp only [putAll, Act.put, List.setIfInBounds_toArray, List.set_cons_zero, List.set_cons_succ]) (hCont (v535, gb537) _ ⟨hHeld, (by (with_reducible repeat (first | apply Kd.R_alloc | apply Kd.R_drewN | apply Kd.R_drew)); exact HO521.out), (by (with_reducible repeat (first | apply Kd.S_alloc | apply Kd.S_drewN | apply Kd.S_drew)); exact Kd.S_mono HO536.out (fun _ hk => hk.2)), (by (with_reducible repeat (first | refine blk_drewN ?_ _ | refine blk_drew ?_ | refine blk_alloc ?_ _)); exact BK517.out), (by (with_reducible repeat (first | refine blk_drewN ?_ _ | refine blk_drew ?_ | refine blk_alloc ?_ _)); exact BK518.out), (by (with_reducible repeat (first | refine blk_drewN ?_ _ | refine blk_drew ?_ | refine blk_alloc ?_ _)); exact BK537.out), GW537.out, GE537.out, NB517_537.out, NB537_517.out, NB518_537.out, NB537_518.out, (by repeat (first | (with_reducible first | exact HB.out | apply below_alloc | apply pw_below_drewN | apply below_drew1 | refine below_set ?_ GE517.out | refine below_set ?_ GE518.out | refine below_set ?_ GE537.out) | exact HB.out))⟩)
            · skip
              refine box_step ?hg (N := 9) ?hd (cs := #[.slice none 0 0]) (t := 26) ?hr ?_; (case hd => rfl); (case hg => rfl); (case hr => first | (go_simp; done) | (go_simp; rfl))
              intro gb537 hg w45 hbox hb
              have n0_ := Aside0.mk (Kd.R_below (by (with_reducible repeat (first | apply Kd.R_alloc | apply Kd.R_drewN | apply Kd.R_drew)); exact HO521.out) hb)
              have n1_ := Aside0.mk (blk_below (g := gb517) (o := .cells #[.slice A0_0 l0_0.length c0_0, .int .i64 a0_1, .int .i64 a0_2, .int .i64 a0_3, .int .i64 a0_4, .int .i64 a0_5, .int .i64 a0_6] 69 (0, 0)) (by (with_reducible repeat (first | refine blk_drewN ?_ _ | refine blk_drew ?_ | refine blk_alloc ?_ _)); exact BK517.out) hb)
              have n2_ := Aside0.mk (blk_below (g := gb518) (o := .cells #[.slice none 0 0, .int .i64 0, .int .i64 0, .int .i64 0, .int .i64 0, .int .i64 0, .int .i64 0] 69 (0, 0)) (by (with_reducible repeat (first | refine blk_drewN ?_ _ | refine blk_drew ?_ | refine blk_alloc ?_ _)); exact BK518.out) hb)
              have n3_ := Aside0.mk (Kd.C_below (by repeat (first | (with_reducible exact HR533.out) | (with_reducible refine Kd.C_alloc ?_ _) | (with_reducible refine Kd.C_drewN ?_ _) | (with_reducible refine Kd.C_drew ?_) | exact HR533.out)) hb)
              have n4_ := Aside0.mk (below_step (by repeat (first | (with_reducible first | exact HB.out | apply below_alloc | apply pw_below_drewN | apply below_drew1 | refine below_set ?_ GE517.out | refine below_set ?_ GE518.out) | exact HB.out)) hb)
              have n5_ := Aside0.mk (hbox)
              have n6_ := Aside0.mk ((by rw [hg]; exact (below_size (by repeat (first | (with_reducible first | exact HB.out | apply below_alloc | apply pw_below_drewN | apply below_drew1 | refine below_set ?_ GE517.out | refine below_set ?_ GE518.out) | exact HB.out))) : w.heap.size ≤ gb537))
              have n7_ := Aside0.mk ((by rw [hg]; exact (below_size (by repeat (first | (with_reducible first | exact HB.out | apply below_alloc | apply pw_below_drewN | apply below_drew1 | refine below_set ?_ GE517.out | refine below_set ?_ GE518.out) | exact HB.out))) : w.heap.size ≤ gb537))
              have n8_ := Aside0.mk ((by rw [hg]; exact Nat.ne_of_lt (blk_lt (g := gb517) (o := .cells #[.slice A0_0 l0_0.length c0_0, .int .i64 a0_1, .int .i64 a0_2, .int .i64 a0_3, .int .i64 a0_4, .int .i64 a0_5, .int .i64 a0_6] 69 (0, 0)) (by (with_reducible repeat (first | refine blk_drewN ?_ _ | refine blk_drew ?_ | refine blk_alloc ?_ _)); exact BK517.out)) : gb517 ≠ gb537))
              have n9_ := Aside0.mk ((by rw [hg]; exact Nat.ne_of_gt (blk_lt (g := gb517) (o := .cells #[.slice A0_0 l0_0.length c0_0, .int .i64 a0_1, .int .i64 a0_2, .int .i64 a0_3, .int .i64 a0_4, .int .i64 a0_5, .int .i64 a0_6] 69 (0, 0)) (by (with_reducible repeat (first | refine blk_drewN ?_ _ | refine blk_drew ?_ | refine blk_alloc ?_ _)); exact BK517.out)) : gb537 ≠ gb517))
              have n10_ := Aside0.mk ((by rw [hg]; exact Nat.ne_of_lt (blk_lt (g := gb518) (o := .cells #[.slice none 0 0, .int .i64 0, .int .i64 0, .int .i64 0, .int .i64 0, .int .i64 0, .int .i64 0] 69 (0, 0)) (by (with_reducible repeat (first | refine blk_drewN ?_ _ | refine blk_drew ?_ | refine blk_alloc ?_ _)); exact BK518.out)) : gb518 ≠ gb537))
              have n11_ := Aside0.mk ((by rw [hg]; exact Nat.ne_of_gt (blk_lt (g := gb518) (o := .cells #[.slice none 0 0, .int .i64 0, .int .i64 0, .int .i64 0, .int .i64 0, .int .i64 0, .int .i64 0] 69 (0, 0)) (by (with_reducible repeat (first | refine blk_drewN ?_ _ | refine blk_drew ?_ | refine blk_alloc ?_ _)); exact BK518.out)) : gb537 ≠ gb518))
              clear HO521
              clear BK517
              clear BK518
              clear HR533
              clear HB
              have HO521 := n0_
              have BK517 := n1_
              have BK518 := n2_
              have HR533 := n3_
              have HB := n4_
              have BK537 := n5_
              have GW537 := n6_
              have GE537 := n7_
              have NB517_537 := n8_
              have NB537_517 := n9_
              have NB518_537 := n10_
              have NB537_518 := n11_
              clear n0_ n1_ n2_ n3_ n4_ n5_ n6_ n7_ n8_ n9_ n10_ n11_
              clear hb hbox hg
              refine hK.out _ _ ⟨(blk_cell BK517.out 0).trans rfl, (blk_cell BK517.out 1).trans rfl, (blk_cell BK517.out 2).trans rfl, (blk_cell BK517.out 3).trans rfl, (blk_cell BK517.out 4).trans rfl, (blk_cell BK517.out 5).trans rfl, (blk_cell BK517.out 6).trans rfl⟩ (fun hHeld => ?_)
              clear hK K
              refine norm_ (a' := ?_) ?_ ?_
              rotate_left
              · show Act.put _ (some 9) _ = _
                simp only [Act.put, List.setIfInBounds_toArray, List.set_cons_zero, List.set_cons_succ, i64_w, i32_w]
                rfl
              refine one_ (i := 13) (N := some 62) #[true, true, true, true, true, true, true, true, true, true, true, true, true, true, true, false] rfl rfl (one_of HT_.out (by kernel_rfl)) (by decide) (fun K hK => ?_)
              refine goes_ Try.func143 (by kernel_rfl) rfl #[.agg #[.slice A0_0 l0_0.length c0_0], .agg #[.int .i64 a0_1, .int .i64 a0_2, .int .i64 a0_3, .int .i64 a0_4], .int .i64 a0_5, .slice A43 y530.length c43] (by rfl) rfl rfl (by (try simp only [List.map_toArray, List.map_cons, List.map_nil]); first | done | rfl | (simp only [List.length_drop, List.length_take]; rfl)) ?_
              with_reducible refine (spec_l2Write.calls k _ _ l0_0 a0_1 a0_2 a0_3 a0_4 a0_5 _ _ y530 t534 _ ?side1 ?side2 ?side3 ?side4 A35.out).mono ?_
              (case side1 => repeat (first | exact (Kd.C_below HR0_0.out HB.out) | (with_reducible refine Kd.C_alloc ?_ _) | (with_reducible refine Kd.C_drewN ?_ _) | (with_reducible refine Kd.C_drew ?_)))
              (case side2 => exact HC0_0.out)
              (case side3 => repeat (first | exact (by repeat (first | (with_reducible exact HR533.out) | (with_reducible refine Kd.C_alloc ?_ _) | (with_reducible refine Kd.C_drewN ?_ _) | (with_reducible refine Kd.C_drew ?_) | exact HR533.out)) | (with_reducible refine Kd.C_alloc ?_ _) | (with_reducible refine Kd.C_drewN ?_ _) | (with_reducible refine Kd.C_drew ?_)))
              (case side4 => exact HC533.out)
              rintro e w46 ⟨v535, rfl, ho0, hb⟩
              refine ⟨_, rfl, ?_⟩
              have n0_ := Aside0.mk (Kd.R_below (by (with_reducible repeat (first | apply Kd.R_alloc | apply Kd.R_drewN | apply Kd.R_drew)); exact HO521.out) hb)
              have n1_ := Aside0.mk (Kd.S_lower (Kd.S_new' ho0 (Kd.R_lt (by (with_reducible repeat (first | apply Kd.R_alloc | apply Kd.R_drewN | apply Kd.R_drew)); exact HO521.out))) (below_size (by repeat (first | (with_reducible first | exact HB.out | apply below_alloc | apply pw_below_drewN | apply below_drew1 | refine below_set ?_ GE517.out | refine below_set ?_ GE518.out | refine below_set ?_ GE537.out) | exact HB.out))))
              have n2_ := Aside0.mk (blk_below (g := gb517) (o := .cells #[.slice A0_0 l0_0.length c0_0, .int .i64 a0_1, .int .i64 a0_2, .int .i64 a0_3, .int .i64 a0_4, .int .i64 a0_5, .int .i64 a0_6] 69 (0, 0)) (by (with_reducible repeat (first | refine blk_drewN ?_ _ | refine blk_drew ?_ | refine blk_alloc ?_ _)); exact BK517.out) hb)
              have n3_ := Aside0.mk (blk_below (g := gb518) (o := .cells #[.slice none 0 0, .int .i64 0, .int .i64 0, .int .i64 0, .int .i64 0, .int .i64 0, .int .i64 0] 69 (0, 0)) (by (with_reducible repeat (first | refine blk_drewN ?_ _ | refine blk_drew ?_ | refine blk_alloc ?_ _)); exact BK518.out) hb)
              have n4_ := Aside0.mk (Kd.C_below (by repeat (first | (with_reducible exact HR533.out) | (with_reducible refine Kd.C_alloc ?_ _) | (with_reducible refine Kd.C_drewN ?_ _) | (with_reducible refine Kd.C_drew ?_) | exact HR533.out)) hb)
              have n5_ := Aside0.mk (blk_below (g := gb537) (o := .cells #[.slice none 0 0] 26 (0, 0)) (by (with_reducible repeat (first | refine blk_drewN ?_ _ | refine blk_drew ?_ | refine blk_alloc ?_ _)); exact BK537.out) hb)
              have n6_ := Aside0.mk (below_step (by repeat (first | (with_reducible first | exact HB.out | apply below_alloc | apply pw_below_drewN | apply below_drew1 | refine below_set ?_ GE517.out | refine below_set ?_ GE518.out | refine below_set ?_ GE537.out) | exact HB.out)) hb)
              clear HO521
              clear BK517
              clear BK518
              clear HR533
              clear BK537
              clear HB
              have HO521 := n0_
              have HO536 := n1_
              have BK517 := n2_
              have BK518 := n3_
              have HR533 := n4_
              have BK537 := n5_
              have HB := n6_
              clear n0_ n1_ n2_ n3_ n4_ n5_ n6_
              (try clear hb)
              (try clear hb2)
              (try clear hk)
              (try clear hi)
              (try clear ho0)
              refine hK.out _ _ ⟨(blk_cell BK517.out 0).trans rfl, (blk_cell BK517.out 1).trans rfl, (blk_cell BK517.out 2).trans rfl, (blk_cell BK517.out 3).trans rfl, (blk_cell BK517.out 4).trans rfl, (blk_cell BK517.out 5).trans rfl, (blk_cell BK517.out 6).trans rfl⟩ (fun hHeld => ?_)
              clear hK K
              refine norm_ (a' := ?_) ?_ ?_
              rotate_left
              · show Act.put _ (some 62) _ = _
                simp only [Act.put, List.setIfInBounds_toArray, List.set_cons_zero, List.set_cons_succ, i64_w, i32_w]
                rfl
              exact norm_ (by simp only [putAll, Act.put, List.setIfInBounds_toArray, List.set_cons_zero, List.set_cons_succ]) (hCont (v535, gb537) _ ⟨hHeld, (by (with_reducible repeat (first | apply Kd.R_alloc | apply Kd.R_drewN | apply Kd.R_drew)); exact HO521.out), (by (with_reducible repeat (first | apply Kd.S_alloc | apply Kd.S_drewN | apply Kd.S_drew)); exact Kd.S_mono HO536.out (fun _ hk => hk.2)), (by (with_reducible repeat (first | refine blk_drewN ?_ _ | refine blk_drew ?_ | refine blk_alloc ?_ _)); exact BK517.out), (by (with_reducible repeat (first | refine blk_drewN ?_ _ | refine blk_drew ?_ | refine blk_alloc ?_ _)); exact BK518.out), (by (with_reducible repeat (first | refine blk_drewN ?_ _ | refine blk_drew ?_ | refine blk_alloc ?_ _)); exact BK537.out), GW537.out, GE537.out, NB517_537.out, NB537_517.out, NB518_537.out, NB537_518.out, (by repeat (first | (with_reducible first | exact HB.out | apply below_alloc | apply pw_below_drewN | apply below_drew1 | refine below_set ?_ GE517.out | refine below_set ?_ GE518.out | refine below_set ?_ GE537.out) | exact HB.out))⟩)
          rintro ⟨v535, gb537⟩ w47 ⟨hS_, h0_, h1_, h2_, h3_, h4_, h5_, h6_, h7_, h8_, h9_, h10_, h11_⟩
          have n0_ : Aside0 (Kd.R (Kd.int .u8) 5 w47 w.heap.size (fun _ => True) (.slice Ao44 t519.length co44) t519) := ⟨h0_⟩
          have n1_ : Aside0 (Kd.S (Kd.slice 5 (Kd.int .u8)) 119 w47 w.heap.size (fun k_ => some k_ ≠ (.slice Ao44 t519.length co44 : Value).ownBlock) v535 t534) := ⟨h1_⟩
          have n2_ : Aside0 (w47.heap[gb517]? = some (.cells #[.slice A0_0 l0_0.length c0_0, .int .i64 a0_1, .int .i64 a0_2, .int .i64 a0_3, .int .i64 a0_4, .int .i64 a0_5, .int .i64 a0_6] 69 (0, 0))) := ⟨h2_⟩
          have n3_ : Aside0 (w47.heap[gb518]? = some (.cells #[.slice none 0 0, .int .i64 0, .int .i64 0, .int .i64 0, .int .i64 0, .int .i64 0, .int .i64 0] 69 (0, 0))) := ⟨h3_⟩
          have n4_ : Aside0 (w47.heap[gb537]? = some (.cells #[.slice none 0 0] 26 (0, 0))) := ⟨h4_⟩
          have n5_ : Aside0 (w.heap.size ≤ gb537) := ⟨h5_⟩
          have n6_ : Aside0 (w.heap.size ≤ gb537) := ⟨h6_⟩
          have n7_ : Aside0 (gb517 ≠ gb537) := ⟨h7_⟩
          have n8_ : Aside0 (gb537 ≠ gb517) := ⟨h8_⟩
          have n9_ : Aside0 (gb518 ≠ gb537) := ⟨h9_⟩
          have n10_ : Aside0 (gb537 ≠ gb518) := ⟨h10_⟩
          have n11_ : Aside0 (Below w.heap.size w w47) := ⟨h11_⟩
          clear HO521
          clear BK517
          clear BK518
          clear HB
          clear h0_ h1_ h2_ h3_ h4_ h5_ h6_ h7_ h8_ h9_ h10_ h11_
          have HO521 := n0_
          have HO536 := n1_
          have BK517 := n2_
          have BK518 := n3_
          have BK537 := n4_
          have GW537 := n5_
          have GE537 := n6_
          have NB517_537 := n7_
          have NB537_517 := n8_
          have NB518_537 := n9_
          have NB537_518 := n10_
          have HB := n11_
          clear n0_ n1_ n2_ n3_ n4_ n5_ n6_ n7_ n8_ n9_ n10_ n11_
          have hHeld : w47.cell? ⟨gb517, 0, none⟩ = some (.slice A0_0 l0_0.length c0_0) ∧ w47.cell? ⟨gb517, 1, none⟩ = some (.int .i64 a0_1) ∧ w47.cell? ⟨gb517, 2, none⟩ = some (.int .i64 a0_2) ∧ w47.cell? ⟨gb517, 3, none⟩ = some (.int .i64 a0_3) ∧ w47.cell? ⟨gb517, 4, none⟩ = some (.int .i64 a0_4) ∧ w47.cell? ⟨gb517, 5, none⟩ = some (.int .i64 a0_5) ∧ w47.cell? ⟨gb517, 6, none⟩ = some (.int .i64 a0_6) := hS_
          obtain ⟨Ao48, co48, eo48⟩ := Kd.S_slice HO536.out
          (first | subst eo48 | (injection eo48 with f1_ f2_ f3_; have f4_ := f1_.symm; have f5_ := f3_.symm; clear f1_ f2_ f3_; subst f4_; subst f5_))
          refine norm_ (a' := ?_) ?_ ?_
          rotate_left
          · simp only [putAll, Act.put, List.setIfInBounds_toArray, List.set_cons_zero, List.set_cons_succ]
            rfl
          refine one_ (i := 15) (N := none) #[true, true, true, true, true, true, true, true, true, true, true, true, true, true, true, true] rfl rfl (one_of HT_.out (by kernel_rfl)) (by decide) (fun K hK => ?_)
          have hs49 : w47.cell? ⟨gb537, 0, none⟩ = some (.slice none 0 0) := (blk_cell BK537.out 0).trans rfl
          have hfs49 := blk_frozen BK537.out 0
          have hns49_0 := NB517_537.out
          have hns49_1 := NB518_537.out
          have hms49_0 := NB537_517.out
          have hms49_1 := NB537_518.out
          refine skip_ (w1 := ?_) (by rfl) rfl ?_ ?_
          rotate_left
          · go_simp
            rfl
          refine hK.out _ _ ⟨((cell_far (p := ⟨gb537, _, none⟩) NB517_537.out _).trans (hHeld.1)), ((cell_far (p := ⟨gb537, _, none⟩) NB517_537.out _).trans (hHeld.2.1)), ((cell_far (p := ⟨gb537, _, none⟩) NB517_537.out _).trans (hHeld.2.2.1)), ((cell_far (p := ⟨gb537, _, none⟩) NB517_537.out _).trans (hHeld.2.2.2.1)), ((cell_far (p := ⟨gb537, _, none⟩) NB517_537.out _).trans (hHeld.2.2.2.2.1)), ((cell_far (p := ⟨gb537, _, none⟩) NB517_537.out _).trans (hHeld.2.2.2.2.2.1)), ((cell_far (p := ⟨gb537, _, none⟩) NB517_537.out _).trans (hHeld.2.2.2.2.2.2))⟩ (fun hHeld => ?_)
          clear hK K
          refine done_ (done_of HT_.out (by kernel_rfl)) ?_
          try go_wp2
          have n0_ : Aside0 (Kd.R (Kd.int .u8) 5 (w47.setCell ⟨gb537, 0, none⟩ (.slice Ao48 t534.length co48)) w.heap.size (fun _ => True) (.slice Ao44 t519.length co44) t519) := ⟨by (with_reducible repeat (first | apply Kd.R_alloc | apply Kd.R_drewN | apply Kd.R_drew)); exact Kd.R_mono (Kd.R_far (p := ⟨gb537, 0, none⟩) (Kd.R_types HO521.out BK537.out (by decide)) (fun _ hk => hk.2) (.slice Ao48 t534.length co48)) (fun _ hk => trivial)⟩
          have n1_ : Aside0 (Kd.S (Kd.slice 5 (Kd.int .u8)) 119 (w47.setCell ⟨gb537, 0, none⟩ (.slice Ao48 t534.length co48)) w.heap.size (fun k_ => some k_ ≠ (.slice Ao44 t519.length co44 : Value).ownBlock) (.slice Ao48 t534.length co48) t534) := ⟨by (with_reducible repeat (first | apply Kd.S_alloc | apply Kd.S_drewN | apply Kd.S_drew)); exact Kd.S_mono (Kd.S_far (p := ⟨gb537, 0, none⟩) (Kd.S_types HO536.out BK537.out (by decide)) (fun _ hk => hk.2) (.slice Ao48 t534.length co48)) (fun _ hk => hk.1)⟩
          have n2_ : Aside0 ((w47.setCell ⟨gb537, 0, none⟩ (.slice Ao48 t534.length co48)).heap[gb517]? = some (.cells #[.slice A0_0 l0_0.length c0_0, .int .i64 a0_1, .int .i64 a0_2, .int .i64 a0_3, .int .i64 a0_4, .int .i64 a0_5, .int .i64 a0_6] 69 (0, 0))) := ⟨by (with_reducible repeat (first | refine blk_drewN ?_ _ | refine blk_drew ?_ | refine blk_alloc ?_ _)); refine blk_far ?_ NB517_537.out _; (with_reducible repeat (first | refine blk_drewN ?_ _ | refine blk_drew ?_ | refine blk_alloc ?_ _)); exact BK517.out⟩
          have n3_ : Aside0 ((w47.setCell ⟨gb537, 0, none⟩ (.slice Ao48 t534.length co48)).heap[gb518]? = some (.cells #[.slice none 0 0, .int .i64 0, .int .i64 0, .int .i64 0, .int .i64 0, .int .i64 0, .int .i64 0] 69 (0, 0))) := ⟨by (with_reducible repeat (first | refine blk_drewN ?_ _ | refine blk_drew ?_ | refine blk_alloc ?_ _)); refine blk_far ?_ NB518_537.out _; (with_reducible repeat (first | refine blk_drewN ?_ _ | refine blk_drew ?_ | refine blk_alloc ?_ _)); exact BK518.out⟩
          have n4_ : Aside0 ((w47.setCell ⟨gb537, 0, none⟩ (.slice Ao48 t534.length co48)).heap[gb537]? = some (.cells #[.slice Ao48 t534.length co48] 26 (0, 0))) := ⟨by (with_reducible repeat (first | refine blk_drewN ?_ _ | refine blk_drew ?_ | refine blk_alloc ?_ _)); refine blk_put (cs := #[.slice none 0 0]) ?_ 0 _ rfl; (with_reducible repeat (first | refine blk_drewN ?_ _ | refine blk_drew ?_ | refine blk_alloc ?_ _)); exact BK537.out⟩
          have n5_ : Aside0 (Below w.heap.size w (w47.setCell ⟨gb537, 0, none⟩ (.slice Ao48 t534.length co48))) := ⟨by repeat (first | (with_reducible first | exact HB.out | apply below_alloc | apply pw_below_drewN | apply below_drew1 | refine below_set ?_ GE517.out | refine below_set ?_ GE518.out | refine below_set ?_ GE537.out) | exact HB.out)⟩
          (try clear HO521)
          (try clear HO536)
          (try clear BK517)
          (try clear BK518)
          (try clear BK537)
          (try clear HB)
          generalize (w47.setCell ⟨gb537, 0, none⟩ (.slice Ao48 t534.length co48)) = w50 at n0_ n1_ n2_ n3_ n4_ n5_ ⊢
          have HO521 := n0_
          have HO536 := n1_
          have BK517 := n2_
          have BK518 := n3_
          have BK537 := n4_
          have HB := n5_
          clear n0_ n1_ n2_ n3_ n4_ n5_
          have n0_ := Aside0.mk (Kd.R_drew HO521.out)
          have n1_ := Aside0.mk (Kd.S_drew HO536.out)
          have n2_ := Aside0.mk (blk_drew BK517.out)
          have n3_ := Aside0.mk (blk_drew BK518.out)
          have n4_ := Aside0.mk (blk_drew BK537.out)
          have n5_ := Aside0.mk (below_drew1 HB.out)
          clear HO521
          clear HO536
          clear BK517
          clear BK518
          clear BK537
          clear HB
          have HO521 := n0_
          have HO536 := n1_
          have BK517 := n2_
          have BK518 := n3_
          have BK537 := n4_
          have HB := n5_
          clear n0_ n1_ n2_ n3_ n4_ n5_
          refine start_ (n := 14) (S := fun w' => w'.cell? ⟨gb537, 0, none⟩ = some (.slice Ao48 t534.length co48) ∧ w'.cell? ⟨gb517, 0, none⟩ = some (.slice A0_0 l0_0.length c0_0) ∧ w'.cell? ⟨gb517, 1, none⟩ = some (.int .i64 a0_1) ∧ w'.cell? ⟨gb517, 2, none⟩ = some (.int .i64 a0_2) ∧ w'.cell? ⟨gb517, 3, none⟩ = some (.int .i64 a0_3) ∧ w'.cell? ⟨gb517, 4, none⟩ = some (.int .i64 a0_4) ∧ w'.cell? ⟨gb517, 5, none⟩ = some (.int .i64 a0_5) ∧ w'.cell? ⟨gb517, 6, none⟩ = some (.int .i64 a0_6)) (ds := []) #[false, false, false, false, false, false, false, false, false, false, false, false, false, false] (by kernel_rfl) rfl rfl ⟨(blk_cell BK537.out 0).trans rfl, (blk_cell BK517.out 0).trans rfl, (blk_cell BK517.out 1).trans rfl, (blk_cell BK517.out 2).trans rfl, (blk_cell BK517.out 3).trans rfl, (blk_cell BK517.out 4).trans rfl, (blk_cell BK517.out 5).trans rfl, (blk_cell BK517.out 6).trans rfl⟩ (fun hHeld => ?_); refine with_tabW spec_l6Move.tab6 spec_l6Move.bits6 (fun HT_ HW_ => ?_)
          generalize w50.drew = w51 at HO521 HO536 BK517 BK518 BK537 HB hHeld ⊢
          refine pure_ (i := 1) (N := some 64) (v := ?_) (a' := ?_) #[false, true, false, false, false, false, false, false, false, false, false, false, false, false] rfl rfl (any_of HT_.out (by kernel_rfl)) (fun _ _ _ h => h) (Or.inl ⟨by rfl, ?_⟩) ?_ ?_
          rotate_left
          · intro w'
            go_simp
            with_reducible rfl
          rotate_left
          · simp only [Act.put, List.setIfInBounds_toArray, List.set_cons_zero, List.set_cons_succ, i64_w, i32_w]
            rfl
          refine pure_ (i := 3) (N := some 66) (v := ?_) (a' := ?_) #[false, true, false, true, false, false, false, false, false, false, false, false, false, false] rfl rfl (any_of HT_.out (by kernel_rfl)) (fun _ _ _ h => h) (Or.inl ⟨by rfl, ?_⟩) ?_ ?_
          rotate_left
          · intro w'
            go_simp
            with_reducible rfl
          rotate_left
          · simp only [Act.put, List.setIfInBounds_toArray, List.set_cons_zero, List.set_cons_succ, i64_w, i32_w]
            rfl
          refine pure_ (i := 4) (N := some 67) (v := ?_) (a' := ?_) #[false, true, false, true, true, false, false, false, false, false, false, false, false, false] rfl rfl (any_of HT_.out (by kernel_rfl)) (fun _ _ _ h => h) (Or.inl ⟨by rfl, ?_⟩) ?_ ?_
          rotate_left
          · intro w'
            go_simp
            with_reducible rfl
          rotate_left
          · simp only [Act.put, List.setIfInBounds_toArray, List.set_cons_zero, List.set_cons_succ, i64_w, i32_w]
            rfl
          refine pure_ (i := 5) (N := some 68) (v := ?_) (a' := ?_) #[false, true, false, true, true, true, false, false, false, false, false, false, false, false] rfl rfl (any_of HT_.out (by kernel_rfl)) (fun _ _ _ h => h) (Or.inl ⟨by rfl, ?_⟩) ?_ ?_
          rotate_left
          · intro w'
            go_simp
            with_reducible rfl
          rotate_left
          · simp only [Act.put, List.setIfInBounds_toArray, List.set_cons_zero, List.set_cons_succ, i64_w, i32_w]
            rfl
          refine pure_ (i := 6) (N := some 69) (v := ?_) (a' := ?_) #[false, true, false, true, true, true, true, false, false, false, false, false, false, false] rfl rfl (any_of HT_.out (by kernel_rfl)) (fun _ _ _ h => h) (Or.inl ⟨by rfl, ?_⟩) ?_ ?_
          rotate_left
          · intro w'
            go_simp
            with_reducible rfl
          rotate_left
          · simp only [Act.put, List.setIfInBounds_toArray, List.set_cons_zero, List.set_cons_succ, i64_w, i32_w]
            rfl
          refine pure_ (i := 8) (N := some 71) (v := ?_) (a' := ?_) #[false, true, false, true, true, true, true, false, true, false, false, false, false, false] rfl rfl (any_of HT_.out (by kernel_rfl)) (fun _ _ _ h => h) (Or.inl ⟨by rfl, ?_⟩) ?_ ?_
          rotate_left
          · intro w'
            go_simp
            with_reducible rfl
          rotate_left
          · simp only [Act.put, List.setIfInBounds_toArray, List.set_cons_zero, List.set_cons_succ, i64_w, i32_w]
            rfl
          refine pure_ (i := 9) (N := some 72) (v := ?_) (a' := ?_) #[false, true, false, true, true, true, true, false, true, true, false, false, false, false] rfl rfl (any_of HT_.out (by kernel_rfl)) (fun _ _ _ h => h) (Or.inl ⟨by rfl, ?_⟩) ?_ ?_
          rotate_left
          · intro w'
            go_simp
            with_reducible rfl
          rotate_left
          · simp only [Act.put, List.setIfInBounds_toArray, List.set_cons_zero, List.set_cons_succ, i64_w, i32_w]
            rfl
          refine take_ (i := 0) (N := some 63) (v := ?_) (a' := ?_) #[true, true, false, true, true, true, true, false, true, true, false, false, false, false] rfl rfl (take_ofW HT_.out HW_.out (by kernel_rfl)) (fun _ _ _ h => h) (Or.inl ⟨by rfl, ?_⟩) hHeld ?_ ?_
          rotate_left
          · rintro w' ⟨s0, s1, s2, s3, s4, s5, s6, s7⟩
            go_simp
            with_reducible rfl
          rotate_left
          · simp only [Act.put, List.setIfInBounds_toArray, List.set_cons_zero, List.set_cons_succ, i64_w, i32_w]
            rfl
          refine take_ (i := 2) (N := some 65) (v := ?_) (a' := ?_) #[true, true, true, true, true, true, true, false, true, true, false, false, false, false] rfl rfl (take_ofW HT_.out HW_.out (by kernel_rfl)) (fun _ _ _ h => h) (Or.inl ⟨by rfl, ?_⟩) hHeld ?_ ?_
          rotate_left
          · rintro w' ⟨s0, s1, s2, s3, s4, s5, s6, s7⟩
            go_simp
            with_reducible rfl
          rotate_left
          · simp only [Act.put, List.setIfInBounds_toArray, List.set_cons_zero, List.set_cons_succ, i64_w, i32_w]
            rfl
          refine pure_ (i := 7) (N := some 70) (v := ?_) (a' := ?_) #[true, true, true, true, true, true, true, true, true, true, false, false, false, false] rfl rfl (any_of HT_.out (by kernel_rfl)) (fun _ _ _ h => h) (Or.inl ⟨by rfl, ?_⟩) ?_ ?_
          rotate_left
          · intro w'
            go_simp
            with_reducible rfl
          rotate_left
          · simp only [Act.put, List.setIfInBounds_toArray, List.set_cons_zero, List.set_cons_succ, i64_w, i32_w]
            rfl
          refine take_ (i := 10) (N := some 73) (v := ?_) (a' := ?_) #[true, true, true, true, true, true, true, true, true, true, true, false, false, false] rfl rfl (take_ofW HT_.out HW_.out (by kernel_rfl)) (fun _ _ _ h => h) (Or.inl ⟨by rfl, ?_⟩) hHeld ?_ ?_
          rotate_left
          · rintro w' ⟨s0, s1, s2, s3, s4, s5, s6, s7⟩
            go_simp
            with_reducible rfl
          rotate_left
          · simp only [Act.put, List.setIfInBounds_toArray, List.set_cons_zero, List.set_cons_succ, i64_w, i32_w]
            rfl
          refine pure_ (i := 11) (N := some 74) (v := ?_) (a' := ?_) #[true, true, true, true, true, true, true, true, true, true, true, true, false, false] rfl rfl (any_of HT_.out (by kernel_rfl)) (fun _ _ _ h => h) (Or.inl ⟨by rfl, ?_⟩) ?_ ?_
          rotate_left
          · intro w'
            go_simp
            with_reducible rfl
          rotate_left
          · simp only [Act.put, List.setIfInBounds_toArray, List.set_cons_zero, List.set_cons_succ, i64_w, i32_w]
            rfl
          refine one_ (i := 12) (N := none) #[true, true, true, true, true, true, true, true, true, true, true, true, true, false] rfl rfl (one_of HT_.out (by kernel_rfl)) (by decide) (fun K hK => ?_)
          have hs52 : w51.cell? ⟨gb518, 0, none⟩ = some (.slice none 0 0) := (blk_cell BK518.out 0).trans rfl
          have hfs52 := blk_frozen BK518.out 0
          have hns52_0 := NB517_518.out
          have hns52_2 := NB537_518.out
          have hms52_0 := NB518_517.out
          have hms52_2 := NB518_537.out
          have hs53 : w51.cell? ⟨gb518, 1, none⟩ = some (.int .i64 0) := (blk_cell BK518.out 1).trans rfl
          have hfs53 := blk_frozen BK518.out 1
          have hns53_0 := NB517_518.out
          have hns53_2 := NB537_518.out
          have hms53_0 := NB518_517.out
          have hms53_2 := NB518_537.out
          have hs54 : w51.cell? ⟨gb518, 2, none⟩ = some (.int .i64 0) := (blk_cell BK518.out 2).trans rfl
          have hfs54 := blk_frozen BK518.out 2
          have hns54_0 := NB517_518.out
          have hns54_2 := NB537_518.out
          have hms54_0 := NB518_517.out
          have hms54_2 := NB518_537.out
          have hs55 : w51.cell? ⟨gb518, 3, none⟩ = some (.int .i64 0) := (blk_cell BK518.out 3).trans rfl
          have hfs55 := blk_frozen BK518.out 3
          have hns55_0 := NB517_518.out
          have hns55_2 := NB537_518.out
          have hms55_0 := NB518_517.out
          have hms55_2 := NB518_537.out
          have hs56 : w51.cell? ⟨gb518, 4, none⟩ = some (.int .i64 0) := (blk_cell BK518.out 4).trans rfl
          have hfs56 := blk_frozen BK518.out 4
          have hns56_0 := NB517_518.out
          have hns56_2 := NB537_518.out
          have hms56_0 := NB518_517.out
          have hms56_2 := NB518_537.out
          have hs57 : w51.cell? ⟨gb518, 5, none⟩ = some (.int .i64 0) := (blk_cell BK518.out 5).trans rfl
          have hfs57 := blk_frozen BK518.out 5
          have hns57_0 := NB517_518.out
          have hns57_2 := NB537_518.out
          have hms57_0 := NB518_517.out
          have hms57_2 := NB518_537.out
          have hs58 : w51.cell? ⟨gb518, 6, none⟩ = some (.int .i64 0) := (blk_cell BK518.out 6).trans rfl
          have hfs58 := blk_frozen BK518.out 6
          have hns58_0 := NB517_518.out
          have hns58_2 := NB537_518.out
          have hms58_0 := NB518_517.out
          have hms58_2 := NB518_537.out
          refine skip_ (w1 := ?_) (by rfl) rfl ?_ ?_
          rotate_left
          · go_simp
            rfl
          refine hK.out _ _ ⟨((cell_far (p := ⟨gb518, _, none⟩) NB537_518.out _).trans (((cell_far (p := ⟨gb518, _, none⟩) NB537_518.out _).trans (((cell_far (p := ⟨gb518, _, none⟩) NB537_518.out _).trans (((cell_far (p := ⟨gb518, _, none⟩) NB537_518.out _).trans (((cell_far (p := ⟨gb518, _, none⟩) NB537_518.out _).trans (((cell_far (p := ⟨gb518, _, none⟩) NB537_518.out _).trans (((cell_far (p := ⟨gb518, _, none⟩) NB537_518.out _).trans (hHeld.1)))))))))))))), ((cell_far (p := ⟨gb518, _, none⟩) NB517_518.out _).trans (((cell_far (p := ⟨gb518, _, none⟩) NB517_518.out _).trans (((cell_far (p := ⟨gb518, _, none⟩) NB517_518.out _).trans (((cell_far (p := ⟨gb518, _, none⟩) NB517_518.out _).trans (((cell_far (p := ⟨gb518, _, none⟩) NB517_518.out _).trans (((cell_far (p := ⟨gb518, _, none⟩) NB517_518.out _).trans (((cell_far (p := ⟨gb518, _, none⟩) NB517_518.out _).trans (hHeld.2.1)))))))))))))), ((cell_far (p := ⟨gb518, _, none⟩) NB517_518.out _).trans (((cell_far (p := ⟨gb518, _, none⟩) NB517_518.out _).trans (((cell_far (p := ⟨gb518, _, none⟩) NB517_518.out _).trans (((cell_far (p := ⟨gb518, _, none⟩) NB517_518.out _).trans (((cell_far (p := ⟨gb518, _, none⟩) NB517_518.out _).trans (((cell_far (p := ⟨gb518, _, none⟩) NB517_518.out _).trans (((cell_far (p := ⟨gb518, _, none⟩) NB517_518.out _).trans (hHeld.2.2.1)))))))))))))), ((cell_far (p := ⟨gb518, _, none⟩) NB517_518.out _).trans (((cell_far (p := ⟨gb518, _, none⟩) NB517_518.out _).trans (((cell_far (p := ⟨gb518, _, none⟩) NB517_518.out _).trans (((cell_far (p := ⟨gb518, _, none⟩) NB517_518.out _).trans (((cell_far (p := ⟨gb518, _, none⟩) NB517_518.out _).trans (((cell_far (p := ⟨gb518, _, none⟩) NB517_518.out _).trans (((cell_far (p := ⟨gb518, _, none⟩) NB517_518.out _).trans (hHeld.2.2.2.1)))))))))))))), ((cell_far (p := ⟨gb518, _, none⟩) NB517_518.out _).trans (((cell_far (p := ⟨gb518, _, none⟩) NB517_518.out _).trans (((cell_far (p := ⟨gb518, _, none⟩) NB517_518.out _).trans (((cell_far (p := ⟨gb518, _, none⟩) NB517_518.out _).trans (((cell_far (p := ⟨gb518, _, none⟩) NB517_518.out _).trans (((cell_far (p := ⟨gb518, _, none⟩) NB517_518.out _).trans (((cell_far (p := ⟨gb518, _, none⟩) NB517_518.out _).trans (hHeld.2.2.2.2.1)))))))))))))), ((cell_far (p := ⟨gb518, _, none⟩) NB517_518.out _).trans (((cell_far (p := ⟨gb518, _, none⟩) NB517_518.out _).trans (((cell_far (p := ⟨gb518, _, none⟩) NB517_518.out _).trans (((cell_far (p := ⟨gb518, _, none⟩) NB517_518.out _).trans (((cell_far (p := ⟨gb518, _, none⟩) NB517_518.out _).trans (((cell_far (p := ⟨gb518, _, none⟩) NB517_518.out _).trans (((cell_far (p := ⟨gb518, _, none⟩) NB517_518.out _).trans (hHeld.2.2.2.2.2.1)))))))))))))), ((cell_far (p := ⟨gb518, _, none⟩) NB517_518.out _).trans (((cell_far (p := ⟨gb518, _, none⟩) NB517_518.out _).trans (((cell_far (p := ⟨gb518, _, none⟩) NB517_518.out _).trans (((cell_far (p := ⟨gb518, _, none⟩) NB517_518.out _).trans (((cell_far (p := ⟨gb518, _, none⟩) NB517_518.out _).trans (((cell_far (p := ⟨gb518, _, none⟩) NB517_518.out _).trans (((cell_far (p := ⟨gb518, _, none⟩) NB517_518.out _).trans (hHeld.2.2.2.2.2.2.1)))))))))))))), ((cell_far (p := ⟨gb518, _, none⟩) NB517_518.out _).trans (((cell_far (p := ⟨gb518, _, none⟩) NB517_518.out _).trans (((cell_far (p := ⟨gb518, _, none⟩) NB517_518.out _).trans (((cell_far (p := ⟨gb518, _, none⟩) NB517_518.out _).trans (((cell_far (p := ⟨gb518, _, none⟩) NB517_518.out _).trans (((cell_far (p := ⟨gb518, _, none⟩) NB517_518.out _).trans (((cell_far (p := ⟨gb518, _, none⟩) NB517_518.out _).trans (hHeld.2.2.2.2.2.2.2))))))))))))))⟩ (fun hHeld => ?_)
          clear hK K
          refine pure_ (i := 13) (N := some 5) (v := ?_) (a' := ?_) #[true, true, true, true, true, true, true, true, true, true, true, true, true, true] rfl rfl (any_of HT_.out (by kernel_rfl)) (fun _ _ _ h => h) (Or.inl ⟨by rfl, ?_⟩) ?_ ?_
          rotate_left
          · intro w'
            go_simp
            with_reducible rfl
          rotate_left
          · simp only [Act.put, List.setIfInBounds_toArray, List.set_cons_zero, List.set_cons_succ, i64_w, i32_w]
            rfl
          refine done_ (done_of HT_.out (by kernel_rfl)) ?_
          try go_wp2
          refine bodyPost_ret (results_ct rfl _ _ gb518 69 #[.slice Ao48 t534.length co48, .int .i64 a0_1, .int .i64 a0_2, .int .i64 a0_3, .int .i64 a0_4, .int .i64 a1, .int .i64 (wrap64 (a1 + (wrap64 (a0_6 - a0_5))))] (0, 0) _ rfl (by (with_reducible repeat (first | refine blk_drewN ?_ _ | refine blk_drew ?_ | refine blk_alloc ?_ _)); refine blk_put (cs := #[.slice Ao48 t534.length co48, .int .i64 a0_1, .int .i64 a0_2, .int .i64 a0_3, .int .i64 a0_4, .int .i64 a1, .int .i64 0]) ?_ 6 _ rfl; (with_reducible repeat (first | refine blk_drewN ?_ _ | refine blk_drew ?_ | refine blk_alloc ?_ _)); refine blk_put (cs := #[.slice Ao48 t534.length co48, .int .i64 a0_1, .int .i64 a0_2, .int .i64 a0_3, .int .i64 a0_4, .int .i64 0, .int .i64 0]) ?_ 5 _ rfl; (with_reducible repeat (first | refine blk_drewN ?_ _ | refine blk_drew ?_ | refine blk_alloc ?_ _)); refine blk_put (cs := #[.slice Ao48 t534.length co48, .int .i64 a0_1, .int .i64 a0_2, .int .i64 a0_3, .int .i64 0, .int .i64 0, .int .i64 0]) ?_ 4 _ rfl; (with_reducible repeat (first | refine blk_drewN ?_ _ | refine blk_drew ?_ | refine blk_alloc ?_ _)); refine blk_put (cs := #[.slice Ao48 t534.length co48, .int .i64 a0_1, .int .i64 a0_2, .int .i64 0, .int .i64 0, .int .i64 0, .int .i64 0]) ?_ 3 _ rfl; (with_reducible repeat (first | refine blk_drewN ?_ _ | refine blk_drew ?_ | refine blk_alloc ?_ _)); refine blk_put (cs := #[.slice Ao48 t534.length co48, .int .i64 a0_1, .int .i64 0, .int .i64 0, .int .i64 0, .int .i64 0, .int .i64 0]) ?_ 2 _ rfl; (with_reducible repeat (first | refine blk_drewN ?_ _ | refine blk_drew ?_ | refine blk_alloc ?_ _)); refine blk_put (cs := #[.slice Ao48 t534.length co48, .int .i64 0, .int .i64 0, .int .i64 0, .int .i64 0, .int .i64 0, .int .i64 0]) ?_ 1 _ rfl; (with_reducible repeat (first | refine blk_drewN ?_ _ | refine blk_drew ?_ | refine blk_alloc ?_ _)); refine blk_put (cs := #[.slice none 0 0, .int .i64 0, .int .i64 0, .int .i64 0, .int .i64 0, .int .i64 0, .int .i64 0]) ?_ 0 _ rfl; (with_reducible repeat (first | refine blk_drewN ?_ _ | refine blk_drew ?_ | refine blk_alloc ?_ _)); exact BK518.out) Try.underlying69 rfl (by kernel_rfl)) rfl ?_
          exact ⟨_, by first | rfl | (simp [errW_none, errW_some] <;> rfl) | (simp [*, errW_none, errW_some] <;> rfl), by (with_reducible repeat (first | apply Kd.S_alloc | apply Kd.S_drewN | apply Kd.S_drew)); exact Kd.S_mono (Kd.S_far (p := ⟨gb518, 6, none⟩) (Kd.S_far (p := ⟨gb518, 5, none⟩) (Kd.S_far (p := ⟨gb518, 4, none⟩) (Kd.S_far (p := ⟨gb518, 3, none⟩) (Kd.S_far (p := ⟨gb518, 2, none⟩) (Kd.S_far (p := ⟨gb518, 1, none⟩) (Kd.S_far (p := ⟨gb518, 0, none⟩) (Kd.S_types HO536.out BK518.out (by decide)) (fun _ hk => hk.2) (.slice Ao48 t534.length co48)) (fun _ hk => hk.2) (.int .i64 a0_1)) (fun _ hk => hk.2) (.int .i64 a0_2)) (fun _ hk => hk.2) (.int .i64 a0_3)) (fun _ hk => hk.2) (.int .i64 a0_4)) (fun _ hk => hk.2) (.int .i64 a1)) (fun _ hk => hk.2) (.int .i64 (wrap64 (a1 + (wrap64 (a0_6 - a0_5)))))) (fun _ hk => trivial), by repeat (first | (with_reducible first | exact HB.out | apply below_alloc | apply pw_below_drewN | apply below_drew1 | refine below_set ?_ GE517.out | refine below_set ?_ GE518.out | refine below_set ?_ GE537.out) | exact HB.out)⟩
        · rw [if_neg c34] at H
          exact absurd H (by simp)
      · rw [if_neg c33] at H
        exact absurd H (by simp)
    · rw [if_neg c32] at H
      exact absurd H (by simp)

end Go.Proofs.Ytoomjghabiojkaa.P


/- Moving a gap's hole: the reference's. -/
namespace Go.Proofs.Ytoomjghabiojkaa.P
open Go.RowKit Go.Proofs.YtoomjghabiojkaaW.PrintWords Go.Proofs.YtoomjghabiojkaaW.PrintMore
set_option linter.unusedVariables false
set_option linter.unusedSimpArgs false
theorem gapB_of {m : List (List Int)} {a s n c f t : Int} (h : gapB m a s n c f t = true) : memB m = true ∧ WinOk m a s n c ∧ 0 ≤ f ∧ f ≤ t ∧ t ≤ n := by
  unfold gapB at h
  simp only [Bool.and_eq_true, decide_eq_true_eq] at h
  exact ⟨h.1.1, WinOk.of h.1.1 h.1.2, h.2.2.1, h.2.2.2, h.2.1.2⟩
theorem long_eq {m : List (List Int)} {a s n c f t : Int} (h : WinOk m a s n c) (hf : 0 ≤ f) (hft : f ≤ t) (htn : t ≤ n) : wrap64 (n - wrap64 (t - f)) = n - (t - f) := by
  have := h.n1; have := h.c1
  rw [wrap_ok (x := t - f) (by omega) (by omega), wrap_ok (by omega) (by omega)]
theorem cut_cut (row : List Int) (s n i j k : Nat) (hij : i ≤ j) (hjn : j ≤ n) (hk : j - i ≤ k) : (((row.drop s).take n).take j).drop i = ((row.drop (s + i)).take (j - i)).take k := by
  rw [List.take_take, Nat.min_eq_left hjn, List.drop_take, List.drop_drop, List.take_take, Nat.min_eq_right hk]
theorem l6Move_f (m : List (List Int)) (a s n c f t x : Int) (h : okM m) (hw : WinOk m a s n c) (hf : 0 ≤ f) (hft : f ≤ t) (htn : t ≤ n) (hx : 0 ≤ x) (hx2 : x + (t - f) ≤ n) : Ev (fun k => spec_l6Move.f k m a s n c f t x) (putRow m a (moveRow (rowB m a) s n f t x), a, s, n, c, x, t + (x - f), moveCost f x) := by
  have h1 := hw.s0; have h2 := hw.n0; have h3 := hw.s1; have h4 := hw.n1; have h5 := hw.c1
  have hsl := seeB_length hw
  have hse : seeB m a s n = ((rowB m a).drop s.toNat).take n.toNat := rfl
  refine Ev.bind (l2Bytes_f hw) ?_
  simp only [wrap_ok (x := t - f) (by omega) (by omega), wrap_ok (x := x + (t - f)) (by omega) (by omega), wrap_ok (x := f - x) (by omega) (by omega), wrap_ok (x := x - f) (by omega) (by omega)]
  have hcost : moveCost f x = if x ≤ f then f - x else x - f := by
    unfold moveCost
    rw [wrap_ok (by omega) (by omega)]
    unfold mx
    split <;> split <;> omega
  rw [show t + (x - f) = x + (t - f) by omega, hcost]
  by_cases hxf : x ≤ f
  · simp only [if_pos hxf, if_pos hx, if_pos (show f ≤ ((seeB m a s n).length : Int) by omega)]
    have hd : ((seeB m a s n).take f.toNat).drop x.toNat = (((rowB m a).drop (s.toNat + x.toNat)).take (f.toNat - x.toNat)).take (n.toNat - (t + (x - f)).toNat) := by
      rw [hse]
      exact cut_cut _ _ _ _ _ _ (by omega) (by omega) (by omega)
    have hm : moveRow (rowB m a) s n f t x = spl (rowB m a) (s.toNat + (x + (t - f)).toNat) (((seeB m a s n).take f.toNat).drop x.toNat) := by
      unfold moveRow
      by_cases hlt : x < f
      · rw [if_pos hlt, hd, show t + (x - f) = x + (t - f) by omega]
      · obtain rfl : x = f := by omega
        rw [if_neg hlt]
        have e1 : ((seeB m a s n).take x.toNat).drop x.toNat = [] := List.drop_eq_nil_of_le (by simp; omega)
        have e2 : (t + (x - x)).toNat - t.toNat = 0 := by omega
        rw [e1, e2, List.take_zero, List.take_nil, spl_nil, spl_nil]
    rw [hm]
    refine Ev.bind (l2Write_f m a s n c (x + (t - f)) _ h hw (by omega) (by simp; omega)) ?_
    exact Ev.now _
  · simp only [if_neg hxf, if_pos (show 0 ≤ t by omega), if_pos (show t ≤ x + (t - f) by omega), if_pos (show x + (t - f) ≤ ((seeB m a s n).length : Int) by omega)]
    have hd : ((seeB m a s n).take (x + (t - f)).toNat).drop t.toNat = (((rowB m a).drop (s.toNat + t.toNat)).take ((x + (t - f)).toNat - t.toNat)).take (n.toNat - f.toNat) := by
      rw [hse]
      exact cut_cut _ _ _ _ _ _ (by omega) (by omega) (by omega)
    have hm : moveRow (rowB m a) s n f t x = spl (rowB m a) (s.toNat + f.toNat) (((seeB m a s n).take (x + (t - f)).toNat).drop t.toNat) := by
      unfold moveRow
      rw [if_neg (by omega), hd, show t + (x - f) = x + (t - f) by omega]
    rw [hm]
    refine Ev.bind (l2Write_f m a s n c f _ h hw hf (by simp; omega)) ?_
    exact Ev.now _
end Go.Proofs.Ytoomjghabiojkaa.P


namespace Go.Proofs.Ytoomjghabiojkaa.P
open Go.RowKit Go.Proofs.YtoomjghabiojkaaW.PrintWords Go.Proofs.YtoomjghabiojkaaW.PrintLast Go.Proofs.YtoomjghabiojkaaW.PrintMore
attribute [local go_sem] max2_int min2_int max_two min_two max_three min_three max_four min_four   -- for this text's walks alone
set_option linter.unusedVariables false
set_option linter.unusedSimpArgs false

def impl_Gap_length.f (l0_0 : List (List Int)) (a0_1 : Int) (a0_2 : Int) (a0_3 : Int) (a0_4 : Int) (a0_5 : Int) (a0_6 : Int) : Option (Int) := some (wrap64 (a0_3 - (wrap64 (a0_6 - a0_5))))
set_option maxHeartbeats 8000000 in
set_option maxRecDepth 100000 in
theorem impl_Gap_length.calls (A0_0 : Option Addr) (c0_0 : Nat) (l0_0 : List (List Int)) (a0_1 : Int) (a0_2 : Int) (a0_3 : Int) (a0_4 : Int) (a0_5 : Int) (a0_6 : Int) (r : Int) (w : World) (hr0_0 : Kd.C (Kd.slice 5 (Kd.int .u8)) w A0_0 l0_0.length l0_0) (hc0_0 : l0_0.length ≤ c0_0) (h : impl_Gap_length.f l0_0 a0_1 a0_2 a0_3 a0_4 a0_5 a0_6 = some r) :
    Calls Try.prog 104 #[.agg #[.slice A0_0 l0_0.length c0_0, .int .i64 a0_1, .int .i64 a0_2, .int .i64 a0_3, .int .i64 a0_4, .int .i64 a0_5, .int .i64 a0_6]] w fun e w' => e = .returned (.int .i64 r) ∧ Below w.heap.size w w' := by
  have hu69 := Try.underlying69
  have HR0_0 := Aside0.mk hr0_0
  have HC0_0 := Aside0.mk hc0_0
  clear hr0_0 hc0_0
  have HB := Aside0.mk (Below.refl w.heap.size w)
  have H : (some (wrap64 (a0_3 - (wrap64 (a0_6 - a0_5))))) = some r := h
  clear h
  obtain rfl := Option.some.inj H
  go_enter Try.func104, Try.ntmps104
  go_wp2_with (first | ((with_reducible refine gate_dst (N := 1) rfl ?_); refine box_event ?hg (N := 1) ?hd (cs := #[.slice A0_0 l0_0.length c0_0, .int .i64 a0_1, .int .i64 a0_2, .int .i64 a0_3, .int .i64 a0_4, .int .i64 a0_5, .int .i64 a0_6]) (t := 69) ?hr ?_; (case hd => rfl); (case hg => rfl); (case hr => first | (go_simp; done) | (go_simp; rfl)); intro gb584 hg w2 hbox hb; have n0_ := Aside0.mk (below_step (by repeat (first | (with_reducible first | exact HB.out | apply below_alloc | apply pw_below_drewN | apply below_drew1) | exact HB.out)) hb); have n1_ := Aside0.mk (hbox); have n2_ := Aside0.mk ((by rw [hg]; exact (below_size (by repeat (first | (with_reducible first | exact HB.out | apply below_alloc | apply pw_below_drewN | apply below_drew1) | exact HB.out))) : w.heap.size ≤ gb584)); have n3_ := Aside0.mk ((by rw [hg]; exact (below_size (by repeat (first | (with_reducible first | exact HB.out | apply below_alloc | apply pw_below_drewN | apply below_drew1) | exact HB.out))) : w.heap.size ≤ gb584)); clear HB; have HB := n0_; have BK584 := n1_; have GW584 := n2_; have GE584 := n3_; clear n0_ n1_ n2_ n3_; clear hb hbox hg; have hcz3_0 : w2.cell? ⟨gb584, 0, none⟩ = some (.slice A0_0 l0_0.length c0_0) := (blk_cell BK584.out 0).trans rfl; have hcz3_1 : w2.cell? ⟨gb584, 1, none⟩ = some (.int .i64 a0_1) := (blk_cell BK584.out 1).trans rfl; have hcz3_2 : w2.cell? ⟨gb584, 2, none⟩ = some (.int .i64 a0_2) := (blk_cell BK584.out 2).trans rfl; have hcz3_3 : w2.cell? ⟨gb584, 3, none⟩ = some (.int .i64 a0_3) := (blk_cell BK584.out 3).trans rfl; have hcz3_4 : w2.cell? ⟨gb584, 4, none⟩ = some (.int .i64 a0_4) := (blk_cell BK584.out 4).trans rfl; have hcz3_5 : w2.cell? ⟨gb584, 5, none⟩ = some (.int .i64 a0_5) := (blk_cell BK584.out 5).trans rfl; have hcz3_6 : w2.cell? ⟨gb584, 6, none⟩ = some (.int .i64 a0_6) := (blk_cell BK584.out 6).trans rfl; have hfz3_0 := blk_frozen BK584.out 0; have hfz3_1 := blk_frozen BK584.out 1; have hfz3_2 := blk_frozen BK584.out 2; have hfz3_3 := blk_frozen BK584.out 3; have hfz3_4 := blk_frozen BK584.out 4; have hfz3_5 := blk_frozen BK584.out 5; have hfz3_6 := blk_frozen BK584.out 6))
  go_ret
  exact ⟨by first | rfl | (simp [errW_none, errW_some] <;> rfl) | (simp [*, errW_none, errW_some] <;> rfl), by repeat (first | (with_reducible first | exact HB.out | apply below_alloc | apply pw_below_drewN | apply below_drew1 | refine below_set ?_ GE584.out) | exact HB.out)⟩

end Go.Proofs.Ytoomjghabiojkaa.P


-- written by wip/gen_fn.py
namespace Go.Proofs.Ytoomjghabiojkaa.P
open Go.RowKit Go.Proofs.YtoomjghabiojkaaW.PrintWords Go.Proofs.YtoomjghabiojkaaW.PrintLast Go.Proofs.YtoomjghabiojkaaW.PrintMore Go.Proofs.YtoomjghabiojkaaW.Mine
open List (setIfInBounds_toArray set_cons_zero set_cons_succ)
attribute [local go_sem] max2_int min2_int max_two min_two max_three min_three max_four min_four
set_option linter.unusedVariables false
set_option linter.unusedSimpArgs false
set_option maxHeartbeats 8000000 in
set_option maxRecDepth 100000 in
theorem impl_CloseGap_w0 (A0_0 : Option Addr) (c0_0 : Nat) (l0_0 : List (List Int)) (a0_1 : Int) (a0_2 : Int) (a0_3 : Int) (a0_4 : Int) (a0_5 : Int) (a0_6 : Int) (w : World) (hr0_0 : Kd.C (Kd.slice 5 (Kd.int .u8)) w A0_0 l0_0.length l0_0) (hc0_0 : l0_0.length ≤ c0_0) (H1 : impl_IsGap.f l0_0 a0_1 a0_2 a0_3 a0_4 a0_5 a0_6 = some false) :
    Calls Try.prog 41 #[.agg #[.slice A0_0 l0_0.length c0_0, .int .i64 a0_1, .int .i64 a0_2, .int .i64 a0_3, .int .i64 a0_4, .int .i64 a0_5, .int .i64 a0_6]] w fun e w' => ∃ v0_ : Value, e = .returned (.tuple #[.agg #[v0_, .int .i64 0, .int .i64 0, .int .i64 0, .int .i64 0, .int .i64 0, .int .i64 0], .agg #[.int .i64 0, .int .i64 0, .int .i64 0, .int .i64 0], .bool false]) ∧ Kd.S (Kd.slice 5 (Kd.int .u8)) 119 w' w.heap.size (fun _ => True) v0_ [] ∧ Below w.heap.size w w' := by
  have HR0_0 := Aside0.mk hr0_0; have HC0_0 := Aside0.mk hc0_0; clear hr0_0 hc0_0
  have H1_ := Aside0.mk H1; clear H1; have H1 := H1_; clear H1_
  have HS0 : Aside0 (Stk w [] w) := ⟨Stk.nil w⟩
  go_enter Try.func41, Try.ntmps41
  refine reg (aF := ?_) (nw := ?_) [evB 0 1 [] 69 (fun s => #[.slice A0_0 l0_0.length c0_0, .int .i64 a0_1, .int .i64 a0_2, .int .i64 a0_3, .int .i64 a0_4, .int .i64 a0_5, .int .i64 a0_6]) 9999 [] (fun s => #[.slice A0_0 l0_0.length c0_0, .int .i64 a0_1, .int .i64 a0_2, .int .i64 a0_3, .int .i64 a0_4, .int .i64 a0_5, .int .i64 a0_6]), evB 1 2 [] 69 (fun s => #[.slice none 0 0, .int .i64 0, .int .i64 0, .int .i64 0, .int .i64 0, .int .i64 0, .int .i64 0]) 9999 [] (fun s => #[.slice none 0 0, .int .i64 0, .int .i64 0, .int .i64 0, .int .i64 0, .int .i64 0, .int .i64 0]), evB 2 3 [] 48 (fun s => #[.int .i64 0, .int .i64 0, .int .i64 0, .int .i64 0]) 9999 [] (fun s => #[.int .i64 0, .int .i64 0, .int .i64 0, .int .i64 0]), evP 3 4 [] (fun s => .bool false)] [] [] false 4 rfl rfl (by kernel_rfl) rfl (mf0) ?aF ?nw HS0.out ?hs ?_
  rotate_left 2
  case aF => intro s; simp only [putE, EvT.val, Act.put, setIfInBounds_toArray, set_cons_zero, set_cons_succ]; rfl
  case nw => intro s; simp only [thA, bsA, List.nil_append, List.cons_append, List.append_nil, if_true, if_false, Nat.reduceLT, set_cons_zero, set_cons_succ]; rfl
  case hs => exact ⟨bv rfl (fun s w => by go_simp; try rfl), bv rfl (fun s w => by go_simp; try rfl), bv rfl (fun s w => by go_simp; try rfl), pu rfl, trivial⟩
  intro s1 w1 h; have HS1 := Aside0.mk h; clear h HS0
  refine tl0 ?_
  refine wp_seq ?_
  refine reg0 (aF := ?_) [evL 0 6 [] (fun s => .agg #[.slice A0_0 l0_0.length c0_0, .int .i64 a0_1, .int .i64 a0_2, .int .i64 a0_3, .int .i64 a0_4, .int .i64 a0_5, .int .i64 a0_6]), evC 1 (some 7) [] (fun s x => .bool false) (fun s x => []), evP 2 8 [] (fun s => .bool true)] [] false 3 rfl rfl (by kernel_rfl) rfl (fun _ => rfl) ?aF HS1.out ?hs ?_
  rotate_left 1
  case aF => intro s; simp only [putE, EvT.val, Act.put, setIfInBounds_toArray, set_cons_zero, set_cons_succ]; rfl
  case hs => exact ⟨ld rfl 0 (fun s => rfl) (fun s w h => by have h0 := h 0 _ rfl; have h1 := h 1 _ rfl; have h2 := h 2 _ rfl; have h3 := h 3 _ rfl; have h4 := h 4 _ rfl; have h5 := h 5 _ rfl; have h6 := h 6 _ rfl; clear h; go_simp; try rfl), cl rfl (fun s => #[.agg #[.slice A0_0 l0_0.length c0_0, .int .i64 a0_1, .int .i64 a0_2, .int .i64 a0_3, .int .i64 a0_4, .int .i64 a0_5, .int .i64 a0_6]]) Try.func101 (fun s w1 h => (impl_IsGap.calls _ _ _ _ _ _ _ _ _ _ _ (Kd.C_below HR0_0.out h.hb) HC0_0.out H1.out).mono (by rintro e w2 ⟨rfl, hb⟩; exact fin0 hb)), pu rfl, trivial⟩
  intro s2 w2 h; have HS2 := Aside0.mk h; clear h HS1
  refine tl0 ?_
  refine wp_cond_true rfl ?_
  refine reg (aF := ?_) (nw := ?_) [evP 0 9 [] (fun s => .agg #[.slice none 0 0, .int .i64 0, .int .i64 0, .int .i64 0, .int .i64 0, .int .i64 0, .int .i64 0]), evP 1 10 [] (fun s => .agg #[.int .i64 0, .int .i64 0, .int .i64 0, .int .i64 0]), evS 2, evS 3] [4] [⟨1, 2, [], fun s => boxT (s1 1).lo #[.slice none 0 0, .int .i64 0, .int .i64 0, .int .i64 0, .int .i64 0, .int .i64 0, .int .i64 0] 69⟩, ⟨2, 3, [], fun s => boxT (s1 2).lo #[.int .i64 0, .int .i64 0, .int .i64 0, .int .i64 0] 48⟩] false 5 rfl rfl (by kernel_rfl) rfl ((mf1 (mf1 mf0))) ?aF ?nw HS2.out ?hs ?_
  rotate_left 2
  case aF => intro s; simp only [putE, EvT.val, Act.put, setIfInBounds_toArray, set_cons_zero, set_cons_succ]; rfl
  case nw => intro s; simp only [thA, bsA, List.nil_append, List.cons_append, List.append_nil, if_true, if_false, Nat.reduceLT, set_cons_zero, set_cons_succ]; rfl
  case hs => exact ⟨pu rfl (hr := fun s w => by go_simp; try rfl), pu rfl (hr := fun s w => by go_simp; try rfl), sb rfl 0 1 0 (fun s => [.slice none 0 0, .int .i64 0, .int .i64 0, .int .i64 0, .int .i64 0, .int .i64 0, .int .i64 0]) rfl rfl (fun s w h hf => by have h0 := h 0 _ rfl; have f0 := hf 0; have h1 := h 1 _ rfl; have f1 := hf 1; have h2 := h 2 _ rfl; have f2 := hf 2; have h3 := h 3 _ rfl; have f3 := hf 3; have h4 := h 4 _ rfl; have f4 := hf 4; have h5 := h 5 _ rfl; have f5 := hf 5; have h6 := h 6 _ rfl; have f6 := hf 6; clear h hf; go_simp; try rfl), sb rfl 1 2 0 (fun s => [.int .i64 0, .int .i64 0, .int .i64 0, .int .i64 0]) rfl rfl (fun s w h hf => by have h0 := h 0 _ rfl; have f0 := hf 0; have h1 := h 1 _ rfl; have f1 := hf 1; have h2 := h 2 _ rfl; have f2 := hf 2; have h3 := h 3 _ rfl; have f3 := hf 3; clear h hf; go_simp; try rfl), trivial⟩
  intro s3 w3 h; have HS3 := Aside0.mk h; clear h HS2
  refine tlP (v := .bool false) 4 rfl ?_
  simp only [Act.put, setIfInBounds_toArray, set_cons_zero, set_cons_succ]
  refine tl0 ?_
  refine wp_ret ?_
  try simp only [Exit.inBlock, Exit.then]
  refine bodyPost_ret (results_list (rs := [.cell 2 69, .cell 3 48, .tmp 4]) rfl (by simp) (.cell (s1 1).lo 69 #[.slice none 0 0, .int .i64 0, .int .i64 0, .int .i64 0, .int .i64 0, .int .i64 0, .int .i64 0] (0, 0) _ rfl (show bx (s1 1).lo #[.slice none 0 0, .int .i64 0, .int .i64 0, .int .i64 0, .int .i64 0, .int .i64 0, .int .i64 0] 69 _ from HS3.out.get 1 rfl) Try.underlying69 rfl (by kernel_rfl) (.cell (s1 2).lo 48 #[.int .i64 0, .int .i64 0, .int .i64 0, .int .i64 0] (0, 0) _ rfl (show bx (s1 2).lo #[.int .i64 0, .int .i64 0, .int .i64 0, .int .i64 0] 48 _ from HS3.out.get 2 rfl) Try.underlying48 rfl (by kernel_rfl) (.tmp .nil)))) rfl ?_
  exact ⟨_, by first | rfl | simp, Kd.S_nil _ _ _ _ _, HS3.out.hb⟩
set_option maxHeartbeats 8000000 in
set_option maxRecDepth 100000 in
theorem impl_CloseGap_w1 (A0_0 : Option Addr) (c0_0 : Nat) (l0_0 : List (List Int)) (a0_1 : Int) (a0_2 : Int) (a0_3 : Int) (a0_4 : Int) (a0_5 : Int) (a0_6 : Int) (r2_0 : List (List Int)) (r2_1 : Int) (r2_2 : Int) (r2_3 : Int) (r2_4 : Int) (r2_5 : Int) (r2_6 : Int) (r3_0 : Int) (w : World) (hr0_0 : Kd.C (Kd.slice 5 (Kd.int .u8)) w A0_0 l0_0.length l0_0) (hc0_0 : l0_0.length ≤ c0_0) (H1 : impl_IsGap.f l0_0 a0_1 a0_2 a0_3 a0_4 a0_5 a0_6 = some true) (H2 : ∃ k, impl_Gap_own.f k l0_0 a0_1 a0_2 a0_3 a0_4 a0_5 a0_6 = some (r2_0, r2_1, r2_2, r2_3, r2_4, r2_5, r2_6)) (H3 : impl_Gap_length.f l0_0 a0_1 a0_2 a0_3 a0_4 a0_5 a0_6 = some r3_0) (HWO0 : WinOk r2_0 r2_1 r2_2 r2_3 r2_4) (F0 : 0 ≤ r2_5) (F1 : r2_5 ≤ r2_6) (F2 : r2_6 ≤ r2_3) (F3 : 0 ≤ r3_0) (F4 : r3_0 + (r2_6 - r2_5) ≤ r2_3) :
    Calls Try.prog 41 #[.agg #[.slice A0_0 l0_0.length c0_0, .int .i64 a0_1, .int .i64 a0_2, .int .i64 a0_3, .int .i64 a0_4, .int .i64 a0_5, .int .i64 a0_6]] w fun e w' => ∃ v0_ : Value, e = .returned (.tuple #[.agg #[v0_, .int .i64 r2_1, .int .i64 r2_2, .int .i64 r2_3, .int .i64 r2_4, .int .i64 r3_0, .int .i64 (r2_6 + (r3_0 - r2_5))], .agg #[.int .i64 a0_1, .int .i64 a0_2, .int .i64 r3_0, .int .i64 a0_4], .bool true]) ∧ Kd.S (Kd.slice 5 (Kd.int .u8)) 119 w' w.heap.size (fun _ => True) v0_ (putRow r2_0 r2_1 (moveRow (rowB r2_0 r2_1) r2_2 r2_3 r2_5 r2_6 r3_0)) ∧ Below w.heap.size w w' := by
  have HR0_0 := Aside0.mk hr0_0; have HC0_0 := Aside0.mk hc0_0; clear hr0_0 hc0_0
  have H1_ := Aside0.mk H1; clear H1; have H1 := H1_; clear H1_
  obtain ⟨k, H2_⟩ := H2; have H2 := Aside0.mk H2_; clear H2_
  have H3_ := Aside0.mk H3; clear H3; have H3 := H3_; clear H3_
  have HWO := Aside0.mk HWO0; clear HWO0
  have HS0 : Aside0 (Stk w [] w) := ⟨Stk.nil w⟩
  go_enter Try.func41, Try.ntmps41
  refine reg (aF := ?_) (nw := ?_) [evB 0 1 [] 69 (fun s => #[.slice A0_0 l0_0.length c0_0, .int .i64 a0_1, .int .i64 a0_2, .int .i64 a0_3, .int .i64 a0_4, .int .i64 a0_5, .int .i64 a0_6]) 9999 [] (fun s => #[.slice A0_0 l0_0.length c0_0, .int .i64 a0_1, .int .i64 a0_2, .int .i64 a0_3, .int .i64 a0_4, .int .i64 a0_5, .int .i64 a0_6]), evB 1 2 [] 69 (fun s => #[.slice none 0 0, .int .i64 0, .int .i64 0, .int .i64 0, .int .i64 0, .int .i64 0, .int .i64 0]) 9999 [] (fun s => #[.slice none 0 0, .int .i64 0, .int .i64 0, .int .i64 0, .int .i64 0, .int .i64 0, .int .i64 0]), evB 2 3 [] 48 (fun s => #[.int .i64 0, .int .i64 0, .int .i64 0, .int .i64 0]) 9999 [] (fun s => #[.int .i64 0, .int .i64 0, .int .i64 0, .int .i64 0]), evP 3 4 [] (fun s => .bool false)] [] [] false 4 rfl rfl (by kernel_rfl) rfl (mf0) ?aF ?nw HS0.out ?hs ?_
  rotate_left 2
  case aF => intro s; simp only [putE, EvT.val, Act.put, setIfInBounds_toArray, set_cons_zero, set_cons_succ]; rfl
  case nw => intro s; simp only [thA, bsA, List.nil_append, List.cons_append, List.append_nil, if_true, if_false, Nat.reduceLT, set_cons_zero, set_cons_succ]; rfl
  case hs => exact ⟨bv rfl (fun s w => by go_simp; try rfl), bv rfl (fun s w => by go_simp; try rfl), bv rfl (fun s w => by go_simp; try rfl), pu rfl, trivial⟩
  intro s1 w1 h; have HS1 := Aside0.mk h; clear h HS0
  refine tl0 ?_
  refine wp_seq ?_
  refine reg0 (aF := ?_) [evL 0 6 [] (fun s => .agg #[.slice A0_0 l0_0.length c0_0, .int .i64 a0_1, .int .i64 a0_2, .int .i64 a0_3, .int .i64 a0_4, .int .i64 a0_5, .int .i64 a0_6]), evC 1 (some 7) [] (fun s x => .bool true) (fun s x => []), evP 2 8 [] (fun s => .bool false)] [] false 3 rfl rfl (by kernel_rfl) rfl (fun _ => rfl) ?aF HS1.out ?hs ?_
  rotate_left 1
  case aF => intro s; simp only [putE, EvT.val, Act.put, setIfInBounds_toArray, set_cons_zero, set_cons_succ]; rfl
  case hs => exact ⟨ld rfl 0 (fun s => rfl) (fun s w h => by have h0 := h 0 _ rfl; have h1 := h 1 _ rfl; have h2 := h 2 _ rfl; have h3 := h 3 _ rfl; have h4 := h 4 _ rfl; have h5 := h 5 _ rfl; have h6 := h 6 _ rfl; clear h; go_simp; try rfl), cl rfl (fun s => #[.agg #[.slice A0_0 l0_0.length c0_0, .int .i64 a0_1, .int .i64 a0_2, .int .i64 a0_3, .int .i64 a0_4, .int .i64 a0_5, .int .i64 a0_6]]) Try.func101 (fun s w1 h => (impl_IsGap.calls _ _ _ _ _ _ _ _ _ _ _ (Kd.C_below HR0_0.out h.hb) HC0_0.out H1.out).mono (by rintro e w2 ⟨rfl, hb⟩; exact fin0 hb)), pu rfl, trivial⟩
  intro s2 w2 h; have HS2 := Aside0.mk h; clear h HS1
  refine tl0 ?_
  refine wp_cond_false rfl ?_
  refine wp_skip ?_
  refine thN ?_
  refine reg (aF := ?_) (nw := ?_) [evL 0 11 [] (fun s => .agg #[.slice A0_0 l0_0.length c0_0, .int .i64 a0_1, .int .i64 a0_2, .int .i64 a0_3, .int .i64 a0_4, .int .i64 a0_5, .int .i64 a0_6]), evC 1 (some 12) [] (fun s x => .agg #[.slice x.A r2_0.length x.c, .int .i64 r2_1, .int .i64 r2_2, .int .i64 r2_3, .int .i64 r2_4, .int .i64 r2_5, .int .i64 r2_6]) (fun s x => [rowS (Kd.slice 5 (Kd.int .u8)) 119 w x.lo x.hi x.A x.c r2_0]), evB 2 5 [] 69 (fun s => #[.slice none 0 0, .int .i64 0, .int .i64 0, .int .i64 0, .int .i64 0, .int .i64 0, .int .i64 0]) 3 [1] (fun s => #[.slice (s 1).A r2_0.length (s 1).c, .int .i64 r2_1, .int .i64 r2_2, .int .i64 r2_3, .int .i64 r2_4, .int .i64 r2_5, .int .i64 r2_6]), evS 3] [] [] false 4 rfl rfl (by kernel_rfl) rfl (mf0) ?aF ?nw HS2.out ?hs ?_
  rotate_left 2
  case aF => intro s; simp only [putE, EvT.val, Act.put, setIfInBounds_toArray, set_cons_zero, set_cons_succ]; rfl
  case nw => intro s; simp only [thA, bsA, List.nil_append, List.cons_append, List.append_nil, if_true, if_false, Nat.reduceLT, set_cons_zero, set_cons_succ]; rfl
  case hs => exact ⟨ld rfl 0 (fun s => rfl) (fun s w h => by have h0 := h 0 _ rfl; have h1 := h 1 _ rfl; have h2 := h 2 _ rfl; have h3 := h 3 _ rfl; have h4 := h 4 _ rfl; have h5 := h 5 _ rfl; have h6 := h 6 _ rfl; clear h; go_simp; try rfl), cl rfl (fun s => #[.agg #[.slice A0_0 l0_0.length c0_0, .int .i64 a0_1, .int .i64 a0_2, .int .i64 a0_3, .int .i64 a0_4, .int .i64 a0_5, .int .i64 a0_6]]) Try.func102 (fun s w1 h => (impl_Gap_own.calls _ _ _ _ _ _ _ _ _ _ _ _ _ _ _ _ _ _ (Kd.C_below HR0_0.out h.hb) HC0_0.out H2.out).mono (by rintro e w2 ⟨v0_, rfl, ho0, hb⟩; obtain ⟨x, rfl, hx⟩ := fin_S ho0 hb h.hb.size; exact ⟨x, rfl, hx⟩)), bv rfl (fun s w => by go_simp; try rfl), st rfl 2 0 (fun s => [.slice (s 1).A r2_0.length (s 1).c, .int .i64 r2_1, .int .i64 r2_2, .int .i64 r2_3, .int .i64 r2_4, .int .i64 r2_5, .int .i64 r2_6]) rfl (fun s w h hf => by have h0 := h 0 _ rfl; have f0 := hf 0; have h1 := h 1 _ rfl; have f1 := hf 1; have h2 := h 2 _ rfl; have f2 := hf 2; have h3 := h 3 _ rfl; have f3 := hf 3; have h4 := h 4 _ rfl; have f4 := hf 4; have h5 := h 5 _ rfl; have f5 := hf 5; have h6 := h 6 _ rfl; have f6 := hf 6; clear h hf; go_simp; try rfl), trivial⟩
  intro s3 w3 h; have HS3 := Aside0.mk h; clear h HS2
  refine tl0 ?_
  refine reg0 (aF := ?_) [evL 0 13 [] (fun s => .agg #[.slice A0_0 l0_0.length c0_0, .int .i64 a0_1, .int .i64 a0_2, .int .i64 a0_3, .int .i64 a0_4, .int .i64 a0_5, .int .i64 a0_6]), evC 1 (some 14) [] (fun s x => .int .i64 r3_0) (fun s x => [])] [2] false 3 rfl rfl (by kernel_rfl) rfl (fun _ => rfl) ?aF HS3.out ?hs ?_
  rotate_left 1
  case aF => intro s; simp only [putE, EvT.val, Act.put, setIfInBounds_toArray, set_cons_zero, set_cons_succ]; rfl
  case hs => exact ⟨ld rfl 2 (fun s => rfl) (fun s w h => by have h0 := h 0 _ rfl; have h1 := h 1 _ rfl; have h2 := h 2 _ rfl; have h3 := h 3 _ rfl; have h4 := h 4 _ rfl; have h5 := h 5 _ rfl; have h6 := h 6 _ rfl; clear h; go_simp; try rfl), cl rfl (fun s => #[.agg #[.slice A0_0 l0_0.length c0_0, .int .i64 a0_1, .int .i64 a0_2, .int .i64 a0_3, .int .i64 a0_4, .int .i64 a0_5, .int .i64 a0_6]]) Try.func104 (fun s w1 h => (impl_Gap_length.calls _ _ _ _ _ _ _ _ _ _ _ (Kd.C_below HR0_0.out h.hb) HC0_0.out H3.out).mono (by rintro e w2 ⟨rfl, hb⟩; exact fin0 hb)), trivial⟩
  intro s4 w4 h; have HS4 := Aside0.mk h; clear h HS3
  have hbx_ := HS4.out.get 1 rfl; have hS_ := HS4.out.get 0 rfl; have hap_ := HS4.out.apartOf 1 0 (by decide) rfl rfl
  refine tlCall (some 15) rfl #[.pointer (some ⟨(s3 2).lo, 0, none⟩), .int .i64 r3_0] Try.func103 (impl_Gap_move_c (x := r3_0) hbx_ hS_ (fun k hk e_ => by subst e_; rcases hap_ with h_ | h_ <;> (have h1_ := hk.1; have h2_ := hk.2; simp only [boxT, rowS] at h_; omega)) HWO.out (by omega) (by omega) (by omega) (by omega) (by omega)) (fun e_ wq1 hR => ?_)
  obtain ⟨rfl, hos_, hK_, hbx2_, hS2_⟩ := hR; refine ⟨_, rfl, ?_⟩; have h := HS4.out.step2 1 0 (by decide) rfl rfl hos_ hK_ hbx2_ (fun w'' ha => S_again hS2_ ha); simp only [set_cons_zero, set_cons_succ] at h; have HQ1 := Aside0.mk h; clear h hbx_ hS_ hap_ hos_ hK_ hbx2_ hS2_ HS4
  simp only [Act.put, setIfInBounds_toArray, set_cons_zero, set_cons_succ]
  refine tl0 ?_
  refine reg (aF := ?_) (nw := ?_) [evR 0 16 1 (fun s => .agg #[.slice (s3 1).A r2_0.length (s3 1).c, .int .i64 r2_1, .int .i64 r2_2, .int .i64 r2_3, .int .i64 r2_4, .int .i64 r3_0, .int .i64 (r2_6 + (r3_0 - r2_5))]), evP 1 17 [] (fun s => .pointer (some ⟨(s1 0).lo, 1, none⟩)), evP 2 18 [] (fun s => .pointer (some ⟨(s1 0).lo, 1, none⟩)), evR 3 19 2 (fun s => .int .i64 a0_1), evP 4 20 [] (fun s => .pointer (some ⟨(s1 0).lo, 1, none⟩)), evP 5 21 [] (fun s => .pointer (some ⟨(s1 0).lo, 2, none⟩)), evR 6 22 2 (fun s => .int .i64 a0_2), evL 7 23 [] (fun s => .agg #[.slice A0_0 l0_0.length c0_0, .int .i64 a0_1, .int .i64 a0_2, .int .i64 a0_3, .int .i64 a0_4, .int .i64 a0_5, .int .i64 a0_6]), evC 8 (some 24) [] (fun s x => .int .i64 r3_0) (fun s x => []), evP 9 25 [] (fun s => .pointer (some ⟨(s1 0).lo, 1, none⟩)), evP 10 26 [] (fun s => .pointer (some ⟨(s1 0).lo, 4, none⟩)), evR 11 27 2 (fun s => .int .i64 a0_4), evP 12 28 [] (fun s => .agg #[.int .i64 a0_1, .int .i64 a0_2, .int .i64 r3_0, .int .i64 a0_4]), evS 13, evS 14] [15] [⟨3, 13, [], fun s => boxT (s1 1).lo #[.slice (s3 1).A r2_0.length (s3 1).c, .int .i64 r2_1, .int .i64 r2_2, .int .i64 r2_3, .int .i64 r2_4, .int .i64 r3_0, .int .i64 (r2_6 + (r3_0 - r2_5))] 69⟩, ⟨4, 14, [], fun s => boxT (s1 2).lo #[.int .i64 a0_1, .int .i64 a0_2, .int .i64 r3_0, .int .i64 a0_4] 48⟩] true 16 rfl rfl (by kernel_rfl) rfl ((mf1 (mf1 mf0))) ?aF ?nw HQ1.out ?hs ?_
  rotate_left 2
  case aF => intro s; simp only [putE, EvT.val, Act.put, setIfInBounds_toArray, set_cons_zero, set_cons_succ]; rfl
  case nw => intro s; simp only [thA, bsA, List.nil_append, List.cons_append, List.append_nil, if_true, if_false, Nat.reduceLT, set_cons_zero, set_cons_succ]; rfl
  case hs => exact ⟨lr rfl 1 rfl (fun s w h => by have h0 := h 0 _ rfl; have h1 := h 1 _ rfl; have h2 := h 2 _ rfl; have h3 := h 3 _ rfl; have h4 := h 4 _ rfl; have h5 := h 5 _ rfl; have h6 := h 6 _ rfl; clear h; go_simp; try rfl), pu rfl (hr := fun s w => by go_simp; try rfl), pu rfl (hr := fun s w => by go_simp; try rfl), lr rfl 2 rfl (fun s w h => by have h0 := h 0 _ rfl; have h1 := h 1 _ rfl; have h2 := h 2 _ rfl; have h3 := h 3 _ rfl; have h4 := h 4 _ rfl; have h5 := h 5 _ rfl; have h6 := h 6 _ rfl; clear h; go_simp; try rfl), pu rfl (hr := fun s w => by go_simp; try rfl), pu rfl (hr := fun s w => by go_simp; try rfl), lr rfl 2 rfl (fun s w h => by have h0 := h 0 _ rfl; have h1 := h 1 _ rfl; have h2 := h 2 _ rfl; have h3 := h 3 _ rfl; have h4 := h 4 _ rfl; have h5 := h 5 _ rfl; have h6 := h 6 _ rfl; clear h; go_simp; try rfl), ld rfl 2 (fun s => rfl) (fun s w h => by have h0 := h 0 _ rfl; have h1 := h 1 _ rfl; have h2 := h 2 _ rfl; have h3 := h 3 _ rfl; have h4 := h 4 _ rfl; have h5 := h 5 _ rfl; have h6 := h 6 _ rfl; clear h; go_simp; try rfl), cl rfl (fun s => #[.agg #[.slice A0_0 l0_0.length c0_0, .int .i64 a0_1, .int .i64 a0_2, .int .i64 a0_3, .int .i64 a0_4, .int .i64 a0_5, .int .i64 a0_6]]) Try.func104 (fun s w1 h => (impl_Gap_length.calls _ _ _ _ _ _ _ _ _ _ _ (Kd.C_below HR0_0.out h.hb) HC0_0.out H3.out).mono (by rintro e w2 ⟨rfl, hb⟩; exact fin0 hb)), pu rfl (hr := fun s w => by go_simp; try rfl), pu rfl (hr := fun s w => by go_simp; try rfl), lr rfl 2 rfl (fun s w h => by have h0 := h 0 _ rfl; have h1 := h 1 _ rfl; have h2 := h 2 _ rfl; have h3 := h 3 _ rfl; have h4 := h 4 _ rfl; have h5 := h 5 _ rfl; have h6 := h 6 _ rfl; clear h; go_simp; try rfl), pu rfl (hr := fun s w => by go_simp; try rfl), sb rfl 0 3 0 (fun s => [.slice (s3 1).A r2_0.length (s3 1).c, .int .i64 r2_1, .int .i64 r2_2, .int .i64 r2_3, .int .i64 r2_4, .int .i64 r3_0, .int .i64 (r2_6 + (r3_0 - r2_5))]) rfl rfl (fun s w h hf => by have h0 := h 0 _ rfl; have f0 := hf 0; have h1 := h 1 _ rfl; have f1 := hf 1; have h2 := h 2 _ rfl; have f2 := hf 2; have h3 := h 3 _ rfl; have f3 := hf 3; have h4 := h 4 _ rfl; have f4 := hf 4; have h5 := h 5 _ rfl; have f5 := hf 5; have h6 := h 6 _ rfl; have f6 := hf 6; clear h hf; go_simp; try rfl), sb rfl 1 4 0 (fun s => [.int .i64 a0_1, .int .i64 a0_2, .int .i64 r3_0, .int .i64 a0_4]) rfl rfl (fun s w h hf => by have h0 := h 0 _ rfl; have f0 := hf 0; have h1 := h 1 _ rfl; have f1 := hf 1; have h2 := h 2 _ rfl; have f2 := hf 2; have h3 := h 3 _ rfl; have f3 := hf 3; clear h hf; go_simp; try rfl), trivial⟩
  intro s5 w5 h; have HS5 := Aside0.mk h; clear h HQ1
  refine tlP (v := .bool true) 4 rfl ?_
  simp only [Act.put, setIfInBounds_toArray, set_cons_zero, set_cons_succ]
  refine tl0 ?_
  refine wp_ret ?_
  try simp only [Exit.inBlock, Exit.then]
  refine bodyPost_ret (results_list (rs := [.cell 2 69, .cell 3 48, .tmp 4]) rfl (by simp) (.cell (s1 1).lo 69 #[.slice (s3 1).A r2_0.length (s3 1).c, .int .i64 r2_1, .int .i64 r2_2, .int .i64 r2_3, .int .i64 r2_4, .int .i64 r3_0, .int .i64 (r2_6 + (r3_0 - r2_5))] (0, 0) _ rfl (show bx (s1 1).lo #[.slice (s3 1).A r2_0.length (s3 1).c, .int .i64 r2_1, .int .i64 r2_2, .int .i64 r2_3, .int .i64 r2_4, .int .i64 r3_0, .int .i64 (r2_6 + (r3_0 - r2_5))] 69 _ from HS5.out.get 3 rfl) Try.underlying69 rfl (by kernel_rfl) (.cell (s1 2).lo 48 #[.int .i64 a0_1, .int .i64 a0_2, .int .i64 r3_0, .int .i64 a0_4] (0, 0) _ rfl (show bx (s1 2).lo #[.int .i64 a0_1, .int .i64 a0_2, .int .i64 r3_0, .int .i64 a0_4] 48 _ from HS5.out.get 4 rfl) Try.underlying48 rfl (by kernel_rfl) (.tmp .nil)))) rfl ?_
  exact ⟨_, by first | rfl | simp, Kd.S_mono (HS5.out.get 0 rfl) (fun _ _ => trivial), HS5.out.hb⟩
end Go.Proofs.Ytoomjghabiojkaa.P


namespace Go.Proofs.Ytoomjghabiojkaa.P
open Go.RowKit Go.Proofs.YtoomjghabiojkaaW.PrintWords Go.Proofs.YtoomjghabiojkaaW.PrintLast Go.Proofs.YtoomjghabiojkaaW.PrintMore
attribute [local go_sem] max2_int min2_int max_two min_two max_three min_three max_four min_four   -- for this text's walks alone
set_option linter.unusedVariables false
set_option linter.unusedSimpArgs false

def spec_l2Slice.f (a0_0 : Int) (a0_1 : Int) (a0_2 : Int) (a0_3 : Int) (a1 : Int) (a2 : Int) (a3 : Int) : Option (Int × Int × Int × Int) := some (a0_0, wrap64 (a0_1 + a1), wrap64 (a2 - a1), wrap64 (a3 - a1))
set_option maxHeartbeats 8000000 in
set_option maxRecDepth 100000 in
theorem spec_l2Slice.calls (a0_0 : Int) (a0_1 : Int) (a0_2 : Int) (a0_3 : Int) (a1 : Int) (a2 : Int) (a3 : Int) (r1 : Int) (r2 : Int) (r3 : Int) (r4 : Int) (w : World) (h : spec_l2Slice.f a0_0 a0_1 a0_2 a0_3 a1 a2 a3 = some (r1, r2, r3, r4)) :
    Calls Try.prog 100 #[.agg #[.int .i64 a0_0, .int .i64 a0_1, .int .i64 a0_2, .int .i64 a0_3], .int .i64 a1, .int .i64 a2, .int .i64 a3] w fun e w' => e = .returned (.agg #[.int .i64 r1, .int .i64 r2, .int .i64 r3, .int .i64 r4]) ∧ Below w.heap.size w w' := by
  have hu48 := Try.underlying48
  have HB := Aside0.mk (Below.refl w.heap.size w)
  have H : (some (a0_0, wrap64 (a0_1 + a1), wrap64 (a2 - a1), wrap64 (a3 - a1))) = some (r1, r2, r3, r4) := h
  clear h
  simp only [Option.some.injEq, Prod.mk.injEq] at H
  obtain ⟨rfl, rfl, rfl, rfl⟩ := H
  go_enter Try.func100, Try.ntmps100
  go_wp2_with (first | ((with_reducible refine gate_dst (N := 4) rfl ?_); refine box_event ?hg (N := 4) ?hd (cs := #[.int .i64 a0_0, .int .i64 a0_1, .int .i64 a0_2, .int .i64 a0_3]) (t := 48) ?hr ?_; (case hd => rfl); (case hg => rfl); (case hr => first | (go_simp; done) | (go_simp; rfl)); intro gb539 hg w5 hbox hb; have n0_ := Aside0.mk (below_step (by repeat (first | (with_reducible first | exact HB.out | apply below_alloc | apply pw_below_drewN | apply below_drew1) | exact HB.out)) hb); have n1_ := Aside0.mk (hbox); have n2_ := Aside0.mk ((by rw [hg]; exact (below_size (by repeat (first | (with_reducible first | exact HB.out | apply below_alloc | apply pw_below_drewN | apply below_drew1) | exact HB.out))) : w.heap.size ≤ gb539)); have n3_ := Aside0.mk ((by rw [hg]; exact (below_size (by repeat (first | (with_reducible first | exact HB.out | apply below_alloc | apply pw_below_drewN | apply below_drew1) | exact HB.out))) : w.heap.size ≤ gb539)); clear HB; have HB := n0_; have BK539 := n1_; have GW539 := n2_; have GE539 := n3_; clear n0_ n1_ n2_ n3_; clear hb hbox hg) | ((with_reducible refine gate_dst (N := 8) rfl ?_); refine box_event ?hg (N := 8) ?hd (cs := #[.int .i64 0, .int .i64 0, .int .i64 0, .int .i64 0]) (t := 48) ?hr ?_; (case hd => rfl); (case hg => rfl); (case hr => first | (go_simp; done) | (go_simp; rfl)); intro gb540 hg w6 hbox hb; have n0_ := Aside0.mk (blk_below (g := gb539) (o := .cells #[.int .i64 a0_0, .int .i64 a0_1, .int .i64 a0_2, .int .i64 a0_3] 48 (0, 0)) (by (with_reducible repeat (first | refine blk_drewN ?_ _ | refine blk_drew ?_ | refine blk_alloc ?_ _)); exact BK539.out) hb); have n1_ := Aside0.mk (below_step (by repeat (first | (with_reducible first | exact HB.out | apply below_alloc | apply pw_below_drewN | apply below_drew1 | refine below_set ?_ GE539.out) | exact HB.out)) hb); have n2_ := Aside0.mk (hbox); have n3_ := Aside0.mk ((by rw [hg]; exact (below_size (by repeat (first | (with_reducible first | exact HB.out | apply below_alloc | apply pw_below_drewN | apply below_drew1 | refine below_set ?_ GE539.out) | exact HB.out))) : w.heap.size ≤ gb540)); have n4_ := Aside0.mk ((by rw [hg]; exact (below_size (by repeat (first | (with_reducible first | exact HB.out | apply below_alloc | apply pw_below_drewN | apply below_drew1 | refine below_set ?_ GE539.out) | exact HB.out))) : w.heap.size ≤ gb540)); have n5_ := Aside0.mk ((by rw [hg]; exact Nat.ne_of_lt (blk_lt (g := gb539) (o := .cells #[.int .i64 a0_0, .int .i64 a0_1, .int .i64 a0_2, .int .i64 a0_3] 48 (0, 0)) (by (with_reducible repeat (first | refine blk_drewN ?_ _ | refine blk_drew ?_ | refine blk_alloc ?_ _)); exact BK539.out)) : gb539 ≠ gb540)); have n6_ := Aside0.mk ((by rw [hg]; exact Nat.ne_of_gt (blk_lt (g := gb539) (o := .cells #[.int .i64 a0_0, .int .i64 a0_1, .int .i64 a0_2, .int .i64 a0_3] 48 (0, 0)) (by (with_reducible repeat (first | refine blk_drewN ?_ _ | refine blk_drew ?_ | refine blk_alloc ?_ _)); exact BK539.out)) : gb540 ≠ gb539)); clear BK539; clear HB; have BK539 := n0_; have HB := n1_; have BK540 := n2_; have GW540 := n3_; have GE540 := n4_; have NB539_540 := n5_; have NB540_539 := n6_; clear n0_ n1_ n2_ n3_ n4_ n5_ n6_; clear hb hbox hg; have hnb7 := NB539_540.out; have hnc7 := NB540_539.out; have hcz8_0 : w6.cell? ⟨gb539, 0, none⟩ = some (.int .i64 a0_0) := (blk_cell BK539.out 0).trans rfl; have hcz8_1 : w6.cell? ⟨gb539, 1, none⟩ = some (.int .i64 a0_1) := (blk_cell BK539.out 1).trans rfl; have hcz8_2 : w6.cell? ⟨gb539, 2, none⟩ = some (.int .i64 a0_2) := (blk_cell BK539.out 2).trans rfl; have hcz8_3 : w6.cell? ⟨gb539, 3, none⟩ = some (.int .i64 a0_3) := (blk_cell BK539.out 3).trans rfl; have hfz8_0 := blk_frozen BK539.out 0; have hfz8_1 := blk_frozen BK539.out 1; have hfz8_2 := blk_frozen BK539.out 2; have hfz8_3 := blk_frozen BK539.out 3; have hcz9_0 : w6.cell? ⟨gb540, 0, none⟩ = some (.int .i64 0) := (blk_cell BK540.out 0).trans rfl; have hcz9_1 : w6.cell? ⟨gb540, 1, none⟩ = some (.int .i64 0) := (blk_cell BK540.out 1).trans rfl; have hcz9_2 : w6.cell? ⟨gb540, 2, none⟩ = some (.int .i64 0) := (blk_cell BK540.out 2).trans rfl; have hcz9_3 : w6.cell? ⟨gb540, 3, none⟩ = some (.int .i64 0) := (blk_cell BK540.out 3).trans rfl; have hfz9_0 := blk_frozen BK540.out 0; have hfz9_1 := blk_frozen BK540.out 1; have hfz9_2 := blk_frozen BK540.out 2; have hfz9_3 := blk_frozen BK540.out 3))
  refine bodyPost_ret (results_cell_row rfl _ _ gb540 48 #[.int .i64 a0_0, .int .i64 (wrap64 (a0_1 + a1)), .int .i64 (wrap64 (a2 - a1)), .int .i64 (wrap64 (a3 - a1))] (0, 0) _ rfl (by (with_reducible repeat (first | refine blk_drewN ?_ _ | refine blk_drew ?_ | refine blk_alloc ?_ _)); refine blk_put (cs := #[.int .i64 a0_0, .int .i64 (wrap64 (a0_1 + a1)), .int .i64 (wrap64 (a2 - a1)), .int .i64 0]) ?_ 3 _ rfl; (with_reducible repeat (first | refine blk_drewN ?_ _ | refine blk_drew ?_ | refine blk_alloc ?_ _)); refine blk_put (cs := #[.int .i64 a0_0, .int .i64 (wrap64 (a0_1 + a1)), .int .i64 0, .int .i64 0]) ?_ 2 _ rfl; (with_reducible repeat (first | refine blk_drewN ?_ _ | refine blk_drew ?_ | refine blk_alloc ?_ _)); refine blk_put (cs := #[.int .i64 a0_0, .int .i64 0, .int .i64 0, .int .i64 0]) ?_ 1 _ rfl; (with_reducible repeat (first | refine blk_drewN ?_ _ | refine blk_drew ?_ | refine blk_alloc ?_ _)); refine blk_put (cs := #[.int .i64 0, .int .i64 0, .int .i64 0, .int .i64 0]) ?_ 0 _ rfl; (with_reducible repeat (first | refine blk_drewN ?_ _ | refine blk_drew ?_ | refine blk_alloc ?_ _)); exact BK540.out) Try.underlying48 rfl (by kernel_rfl)) rfl ?_
  exact ⟨by first | rfl | (simp [errW_none, errW_some] <;> rfl) | (simp [*, errW_none, errW_some] <;> rfl), by repeat (first | (with_reducible first | exact HB.out | apply below_alloc | apply pw_below_drewN | apply below_drew1 | refine below_set ?_ GE539.out | refine below_set ?_ GE540.out) | exact HB.out)⟩

end Go.Proofs.Ytoomjghabiojkaa.P


namespace Go.Proofs.Ytoomjghabiojkaa.P
open Go.RowKit Go.Proofs.YtoomjghabiojkaaW.PrintWords Go.Proofs.YtoomjghabiojkaaW.PrintLast Go.Proofs.YtoomjghabiojkaaW.PrintMore
attribute [local go_sem] max2_int min2_int max_two min_two max_three min_three max_four min_four   -- for this text's walks alone
set_option linter.unusedVariables false
set_option linter.unusedSimpArgs false

def spec_l6Long.f (l0_0 : List (List Int)) (a0_1 : Int) (a0_2 : Int) (a0_3 : Int) (a0_4 : Int) (a0_5 : Int) (a0_6 : Int) : Option (Int) := some (wrap64 (a0_3 - (wrap64 (a0_6 - a0_5))))
set_option maxHeartbeats 8000000 in
set_option maxRecDepth 100000 in
theorem spec_l6Long.calls (A0_0 : Option Addr) (c0_0 : Nat) (l0_0 : List (List Int)) (a0_1 : Int) (a0_2 : Int) (a0_3 : Int) (a0_4 : Int) (a0_5 : Int) (a0_6 : Int) (r : Int) (w : World) (hr0_0 : Kd.C (Kd.slice 5 (Kd.int .u8)) w A0_0 l0_0.length l0_0) (hc0_0 : l0_0.length ≤ c0_0) (h : spec_l6Long.f l0_0 a0_1 a0_2 a0_3 a0_4 a0_5 a0_6 = some r) :
    Calls Try.prog 99 #[.agg #[.slice A0_0 l0_0.length c0_0, .int .i64 a0_1, .int .i64 a0_2, .int .i64 a0_3, .int .i64 a0_4, .int .i64 a0_5, .int .i64 a0_6]] w fun e w' => e = .returned (.int .i64 r) ∧ Below w.heap.size w w' := by
  have hu69 := Try.underlying69
  have HR0_0 := Aside0.mk hr0_0
  have HC0_0 := Aside0.mk hc0_0
  clear hr0_0 hc0_0
  have HB := Aside0.mk (Below.refl w.heap.size w)
  have H : (some (wrap64 (a0_3 - (wrap64 (a0_6 - a0_5))))) = some r := h
  clear h
  obtain rfl := Option.some.inj H
  go_enter Try.func99, Try.ntmps99
  go_wp2_with (first | ((with_reducible refine gate_dst (N := 1) rfl ?_); refine box_event ?hg (N := 1) ?hd (cs := #[.slice A0_0 l0_0.length c0_0, .int .i64 a0_1, .int .i64 a0_2, .int .i64 a0_3, .int .i64 a0_4, .int .i64 a0_5, .int .i64 a0_6]) (t := 69) ?hr ?_; (case hd => rfl); (case hg => rfl); (case hr => first | (go_simp; done) | (go_simp; rfl)); intro gb538 hg w2 hbox hb; have n0_ := Aside0.mk (below_step (by repeat (first | (with_reducible first | exact HB.out | apply below_alloc | apply pw_below_drewN | apply below_drew1) | exact HB.out)) hb); have n1_ := Aside0.mk (hbox); have n2_ := Aside0.mk ((by rw [hg]; exact (below_size (by repeat (first | (with_reducible first | exact HB.out | apply below_alloc | apply pw_below_drewN | apply below_drew1) | exact HB.out))) : w.heap.size ≤ gb538)); have n3_ := Aside0.mk ((by rw [hg]; exact (below_size (by repeat (first | (with_reducible first | exact HB.out | apply below_alloc | apply pw_below_drewN | apply below_drew1) | exact HB.out))) : w.heap.size ≤ gb538)); clear HB; have HB := n0_; have BK538 := n1_; have GW538 := n2_; have GE538 := n3_; clear n0_ n1_ n2_ n3_; clear hb hbox hg; have hcz3_0 : w2.cell? ⟨gb538, 0, none⟩ = some (.slice A0_0 l0_0.length c0_0) := (blk_cell BK538.out 0).trans rfl; have hcz3_1 : w2.cell? ⟨gb538, 1, none⟩ = some (.int .i64 a0_1) := (blk_cell BK538.out 1).trans rfl; have hcz3_2 : w2.cell? ⟨gb538, 2, none⟩ = some (.int .i64 a0_2) := (blk_cell BK538.out 2).trans rfl; have hcz3_3 : w2.cell? ⟨gb538, 3, none⟩ = some (.int .i64 a0_3) := (blk_cell BK538.out 3).trans rfl; have hcz3_4 : w2.cell? ⟨gb538, 4, none⟩ = some (.int .i64 a0_4) := (blk_cell BK538.out 4).trans rfl; have hcz3_5 : w2.cell? ⟨gb538, 5, none⟩ = some (.int .i64 a0_5) := (blk_cell BK538.out 5).trans rfl; have hcz3_6 : w2.cell? ⟨gb538, 6, none⟩ = some (.int .i64 a0_6) := (blk_cell BK538.out 6).trans rfl; have hfz3_0 := blk_frozen BK538.out 0; have hfz3_1 := blk_frozen BK538.out 1; have hfz3_2 := blk_frozen BK538.out 2; have hfz3_3 := blk_frozen BK538.out 3; have hfz3_4 := blk_frozen BK538.out 4; have hfz3_5 := blk_frozen BK538.out 5; have hfz3_6 := blk_frozen BK538.out 6))
  go_ret
  exact ⟨by first | rfl | (simp [errW_none, errW_some] <;> rfl) | (simp [*, errW_none, errW_some] <;> rfl), by repeat (first | (with_reducible first | exact HB.out | apply below_alloc | apply pw_below_drewN | apply below_drew1 | refine below_set ?_ GE538.out) | exact HB.out)⟩

end Go.Proofs.Ytoomjghabiojkaa.P


-- written by wip/gen_fn.py
namespace Go.Proofs.Ytoomjghabiojkaa.P
open Go.RowKit Go.Proofs.YtoomjghabiojkaaW.PrintWords Go.Proofs.YtoomjghabiojkaaW.PrintLast Go.Proofs.YtoomjghabiojkaaW.PrintMore Go.Proofs.YtoomjghabiojkaaW.Mine
open List (setIfInBounds_toArray set_cons_zero set_cons_succ)
attribute [local go_sem] max2_int min2_int max_two min_two max_three min_three max_four min_four
set_option linter.unusedVariables false
set_option linter.unusedSimpArgs false
set_option maxHeartbeats 8000000 in
set_option maxRecDepth 100000 in
theorem spec_CloseGap_w0 (A0_0 : Option Addr) (c0_0 : Nat) (l0_0 : List (List Int)) (a0_1 : Int) (a0_2 : Int) (a0_3 : Int) (a0_4 : Int) (a0_5 : Int) (a0_6 : Int) (w : World) (hr0_0 : Kd.C (Kd.slice 5 (Kd.int .u8)) w A0_0 l0_0.length l0_0) (hc0_0 : l0_0.length ≤ c0_0) (H1 : ∃ k, spec_l6Gap.f k l0_0 a0_1 a0_2 a0_3 a0_4 a0_5 a0_6 = some false) :
    Calls Try.prog 39 #[.agg #[.slice A0_0 l0_0.length c0_0, .int .i64 a0_1, .int .i64 a0_2, .int .i64 a0_3, .int .i64 a0_4, .int .i64 a0_5, .int .i64 a0_6]] w fun e w' => ∃ v0_ : Value, e = .returned (.tuple #[.agg #[v0_, .int .i64 0, .int .i64 0, .int .i64 0, .int .i64 0, .int .i64 0, .int .i64 0], .agg #[.int .i64 0, .int .i64 0, .int .i64 0, .int .i64 0], .bool false]) ∧ Kd.S (Kd.slice 5 (Kd.int .u8)) 119 w' w.heap.size (fun _ => True) v0_ [] ∧ Below w.heap.size w w' := by
  have HR0_0 := Aside0.mk hr0_0; have HC0_0 := Aside0.mk hc0_0; clear hr0_0 hc0_0
  obtain ⟨k, H1_⟩ := H1; have H1 := Aside0.mk H1_; clear H1_
  have HS0 : Aside0 (Stk w [] w) := ⟨Stk.nil w⟩
  go_enter Try.func39, Try.ntmps39
  refine reg (aF := ?_) (nw := ?_) [evB 0 1 [] 69 (fun s => #[.slice A0_0 l0_0.length c0_0, .int .i64 a0_1, .int .i64 a0_2, .int .i64 a0_3, .int .i64 a0_4, .int .i64 a0_5, .int .i64 a0_6]) 9999 [] (fun s => #[.slice A0_0 l0_0.length c0_0, .int .i64 a0_1, .int .i64 a0_2, .int .i64 a0_3, .int .i64 a0_4, .int .i64 a0_5, .int .i64 a0_6]), evB 1 2 [] 69 (fun s => #[.slice none 0 0, .int .i64 0, .int .i64 0, .int .i64 0, .int .i64 0, .int .i64 0, .int .i64 0]) 9999 [] (fun s => #[.slice none 0 0, .int .i64 0, .int .i64 0, .int .i64 0, .int .i64 0, .int .i64 0, .int .i64 0]), evB 2 3 [] 48 (fun s => #[.int .i64 0, .int .i64 0, .int .i64 0, .int .i64 0]) 9999 [] (fun s => #[.int .i64 0, .int .i64 0, .int .i64 0, .int .i64 0]), evP 3 4 [] (fun s => .bool false)] [] [] false 4 rfl rfl (by kernel_rfl) rfl (mf0) ?aF ?nw HS0.out ?hs ?_
  rotate_left 2
  case aF => intro s; simp only [putE, EvT.val, Act.put, setIfInBounds_toArray, set_cons_zero, set_cons_succ]; rfl
  case nw => intro s; simp only [thA, bsA, List.nil_append, List.cons_append, List.append_nil, if_true, if_false, Nat.reduceLT, set_cons_zero, set_cons_succ]; rfl
  case hs => exact ⟨bv rfl (fun s w => by go_simp; try rfl), bv rfl (fun s w => by go_simp; try rfl), bv rfl (fun s w => by go_simp; try rfl), pu rfl, trivial⟩
  intro s1 w1 h; have HS1 := Aside0.mk h; clear h HS0
  refine tl0 ?_
  refine wp_seq ?_
  refine reg0 (aF := ?_) [evL 0 7 [] (fun s => .agg #[.slice A0_0 l0_0.length c0_0, .int .i64 a0_1, .int .i64 a0_2, .int .i64 a0_3, .int .i64 a0_4, .int .i64 a0_5, .int .i64 a0_6]), evC 1 (some 8) [] (fun s x => .bool false) (fun s x => []), evP 2 9 [] (fun s => .bool true)] [] false 3 rfl rfl (by kernel_rfl) rfl (fun _ => rfl) ?aF HS1.out ?hs ?_
  rotate_left 1
  case aF => intro s; simp only [putE, EvT.val, Act.put, setIfInBounds_toArray, set_cons_zero, set_cons_succ]; rfl
  case hs => exact ⟨ld rfl 0 (fun s => rfl) (fun s w h => by have h0 := h 0 _ rfl; have h1 := h 1 _ rfl; have h2 := h 2 _ rfl; have h3 := h 3 _ rfl; have h4 := h 4 _ rfl; have h5 := h 5 _ rfl; have h6 := h 6 _ rfl; clear h; go_simp; try rfl), cl rfl (fun s => #[.agg #[.slice A0_0 l0_0.length c0_0, .int .i64 a0_1, .int .i64 a0_2, .int .i64 a0_3, .int .i64 a0_4, .int .i64 a0_5, .int .i64 a0_6]]) Try.func97 (fun s w1 h => (spec_l6Gap.calls _ _ _ _ _ _ _ _ _ _ _ _ (Kd.C_below HR0_0.out h.hb) HC0_0.out H1.out).mono (by rintro e w2 ⟨rfl, hb⟩; exact fin0 hb)), pu rfl, trivial⟩
  intro s2 w2 h; have HS2 := Aside0.mk h; clear h HS1
  refine tl0 ?_
  refine wp_cond_true rfl ?_
  refine reg (aF := ?_) (nw := ?_) [evP 0 10 [] (fun s => .agg #[.slice none 0 0, .int .i64 0, .int .i64 0, .int .i64 0, .int .i64 0, .int .i64 0, .int .i64 0]), evP 1 11 [] (fun s => .agg #[.int .i64 0, .int .i64 0, .int .i64 0, .int .i64 0]), evS 2, evS 3] [4] [⟨1, 2, [], fun s => boxT (s1 1).lo #[.slice none 0 0, .int .i64 0, .int .i64 0, .int .i64 0, .int .i64 0, .int .i64 0, .int .i64 0] 69⟩, ⟨2, 3, [], fun s => boxT (s1 2).lo #[.int .i64 0, .int .i64 0, .int .i64 0, .int .i64 0] 48⟩] false 5 rfl rfl (by kernel_rfl) rfl ((mf1 (mf1 mf0))) ?aF ?nw HS2.out ?hs ?_
  rotate_left 2
  case aF => intro s; simp only [putE, EvT.val, Act.put, setIfInBounds_toArray, set_cons_zero, set_cons_succ]; rfl
  case nw => intro s; simp only [thA, bsA, List.nil_append, List.cons_append, List.append_nil, if_true, if_false, Nat.reduceLT, set_cons_zero, set_cons_succ]; rfl
  case hs => exact ⟨pu rfl (hr := fun s w => by go_simp; try rfl), pu rfl (hr := fun s w => by go_simp; try rfl), sb rfl 0 1 0 (fun s => [.slice none 0 0, .int .i64 0, .int .i64 0, .int .i64 0, .int .i64 0, .int .i64 0, .int .i64 0]) rfl rfl (fun s w h hf => by have h0 := h 0 _ rfl; have f0 := hf 0; have h1 := h 1 _ rfl; have f1 := hf 1; have h2 := h 2 _ rfl; have f2 := hf 2; have h3 := h 3 _ rfl; have f3 := hf 3; have h4 := h 4 _ rfl; have f4 := hf 4; have h5 := h 5 _ rfl; have f5 := hf 5; have h6 := h 6 _ rfl; have f6 := hf 6; clear h hf; go_simp; try rfl), sb rfl 1 2 0 (fun s => [.int .i64 0, .int .i64 0, .int .i64 0, .int .i64 0]) rfl rfl (fun s w h hf => by have h0 := h 0 _ rfl; have f0 := hf 0; have h1 := h 1 _ rfl; have f1 := hf 1; have h2 := h 2 _ rfl; have f2 := hf 2; have h3 := h 3 _ rfl; have f3 := hf 3; clear h hf; go_simp; try rfl), trivial⟩
  intro s3 w3 h; have HS3 := Aside0.mk h; clear h HS2
  refine tlP (v := .bool false) 4 rfl ?_
  simp only [Act.put, setIfInBounds_toArray, set_cons_zero, set_cons_succ]
  refine tl0 ?_
  refine wp_ret ?_
  try simp only [Exit.inBlock, Exit.then]
  refine bodyPost_ret (results_list (rs := [.cell 2 69, .cell 3 48, .tmp 4]) rfl (by simp) (.cell (s1 1).lo 69 #[.slice none 0 0, .int .i64 0, .int .i64 0, .int .i64 0, .int .i64 0, .int .i64 0, .int .i64 0] (0, 0) _ rfl (show bx (s1 1).lo #[.slice none 0 0, .int .i64 0, .int .i64 0, .int .i64 0, .int .i64 0, .int .i64 0, .int .i64 0] 69 _ from HS3.out.get 1 rfl) Try.underlying69 rfl (by kernel_rfl) (.cell (s1 2).lo 48 #[.int .i64 0, .int .i64 0, .int .i64 0, .int .i64 0] (0, 0) _ rfl (show bx (s1 2).lo #[.int .i64 0, .int .i64 0, .int .i64 0, .int .i64 0] 48 _ from HS3.out.get 2 rfl) Try.underlying48 rfl (by kernel_rfl) (.tmp .nil)))) rfl ?_
  exact ⟨_, by first | rfl | simp, Kd.S_nil _ _ _ _ _, HS3.out.hb⟩
set_option maxHeartbeats 8000000 in
set_option maxRecDepth 100000 in
theorem spec_CloseGap_w1 (A0_0 : Option Addr) (c0_0 : Nat) (l0_0 : List (List Int)) (a0_1 : Int) (a0_2 : Int) (a0_3 : Int) (a0_4 : Int) (a0_5 : Int) (a0_6 : Int) (r2_0 : Int) (r3_0 : List (List Int)) (r3_1 : Int) (r3_2 : Int) (r3_3 : Int) (r3_4 : Int) (r3_5 : Int) (r3_6 : Int) (r3_7 : Int) (r4_0 : Int) (r4_1 : Int) (r4_2 : Int) (r4_3 : Int) (w : World) (hr0_0 : Kd.C (Kd.slice 5 (Kd.int .u8)) w A0_0 l0_0.length l0_0) (hc0_0 : l0_0.length ≤ c0_0) (H1 : ∃ k, spec_l6Gap.f k l0_0 a0_1 a0_2 a0_3 a0_4 a0_5 a0_6 = some true) (H2 : spec_l6Long.f l0_0 a0_1 a0_2 a0_3 a0_4 a0_5 a0_6 = some r2_0) (H3 : ∃ k, spec_l6Move.f k l0_0 a0_1 a0_2 a0_3 a0_4 a0_5 a0_6 r2_0 = some (r3_0, r3_1, r3_2, r3_3, r3_4, r3_5, r3_6, r3_7)) (H4 : spec_l2Slice.f r3_1 r3_2 r3_3 r3_4 0 r3_5 r3_4 = some (r4_0, r4_1, r4_2, r4_3)) :
    Calls Try.prog 39 #[.agg #[.slice A0_0 l0_0.length c0_0, .int .i64 a0_1, .int .i64 a0_2, .int .i64 a0_3, .int .i64 a0_4, .int .i64 a0_5, .int .i64 a0_6]] w fun e w' => ∃ v0_ : Value, e = .returned (.tuple #[.agg #[v0_, .int .i64 r3_1, .int .i64 r3_2, .int .i64 r3_3, .int .i64 r3_4, .int .i64 r3_5, .int .i64 r3_6], .agg #[.int .i64 r4_0, .int .i64 r4_1, .int .i64 r4_2, .int .i64 r4_3], .bool true]) ∧ Kd.S (Kd.slice 5 (Kd.int .u8)) 119 w' w.heap.size (fun _ => True) v0_ r3_0 ∧ Below w.heap.size w w' := by
  have HR0_0 := Aside0.mk hr0_0; have HC0_0 := Aside0.mk hc0_0; clear hr0_0 hc0_0
  obtain ⟨k, H1_⟩ := H1; have H1 := Aside0.mk H1_; clear H1_
  have H2_ := Aside0.mk H2; clear H2; have H2 := H2_; clear H2_
  obtain ⟨k, H3_⟩ := H3; have H3 := Aside0.mk H3_; clear H3_
  have H4_ := Aside0.mk H4; clear H4; have H4 := H4_; clear H4_
  have HS0 : Aside0 (Stk w [] w) := ⟨Stk.nil w⟩
  go_enter Try.func39, Try.ntmps39
  refine reg (aF := ?_) (nw := ?_) [evB 0 1 [] 69 (fun s => #[.slice A0_0 l0_0.length c0_0, .int .i64 a0_1, .int .i64 a0_2, .int .i64 a0_3, .int .i64 a0_4, .int .i64 a0_5, .int .i64 a0_6]) 9999 [] (fun s => #[.slice A0_0 l0_0.length c0_0, .int .i64 a0_1, .int .i64 a0_2, .int .i64 a0_3, .int .i64 a0_4, .int .i64 a0_5, .int .i64 a0_6]), evB 1 2 [] 69 (fun s => #[.slice none 0 0, .int .i64 0, .int .i64 0, .int .i64 0, .int .i64 0, .int .i64 0, .int .i64 0]) 9999 [] (fun s => #[.slice none 0 0, .int .i64 0, .int .i64 0, .int .i64 0, .int .i64 0, .int .i64 0, .int .i64 0]), evB 2 3 [] 48 (fun s => #[.int .i64 0, .int .i64 0, .int .i64 0, .int .i64 0]) 9999 [] (fun s => #[.int .i64 0, .int .i64 0, .int .i64 0, .int .i64 0]), evP 3 4 [] (fun s => .bool false)] [] [] false 4 rfl rfl (by kernel_rfl) rfl (mf0) ?aF ?nw HS0.out ?hs ?_
  rotate_left 2
  case aF => intro s; simp only [putE, EvT.val, Act.put, setIfInBounds_toArray, set_cons_zero, set_cons_succ]; rfl
  case nw => intro s; simp only [thA, bsA, List.nil_append, List.cons_append, List.append_nil, if_true, if_false, Nat.reduceLT, set_cons_zero, set_cons_succ]; rfl
  case hs => exact ⟨bv rfl (fun s w => by go_simp; try rfl), bv rfl (fun s w => by go_simp; try rfl), bv rfl (fun s w => by go_simp; try rfl), pu rfl, trivial⟩
  intro s1 w1 h; have HS1 := Aside0.mk h; clear h HS0
  refine tl0 ?_
  refine wp_seq ?_
  refine reg0 (aF := ?_) [evL 0 7 [] (fun s => .agg #[.slice A0_0 l0_0.length c0_0, .int .i64 a0_1, .int .i64 a0_2, .int .i64 a0_3, .int .i64 a0_4, .int .i64 a0_5, .int .i64 a0_6]), evC 1 (some 8) [] (fun s x => .bool true) (fun s x => []), evP 2 9 [] (fun s => .bool false)] [] false 3 rfl rfl (by kernel_rfl) rfl (fun _ => rfl) ?aF HS1.out ?hs ?_
  rotate_left 1
  case aF => intro s; simp only [putE, EvT.val, Act.put, setIfInBounds_toArray, set_cons_zero, set_cons_succ]; rfl
  case hs => exact ⟨ld rfl 0 (fun s => rfl) (fun s w h => by have h0 := h 0 _ rfl; have h1 := h 1 _ rfl; have h2 := h 2 _ rfl; have h3 := h 3 _ rfl; have h4 := h 4 _ rfl; have h5 := h 5 _ rfl; have h6 := h 6 _ rfl; clear h; go_simp; try rfl), cl rfl (fun s => #[.agg #[.slice A0_0 l0_0.length c0_0, .int .i64 a0_1, .int .i64 a0_2, .int .i64 a0_3, .int .i64 a0_4, .int .i64 a0_5, .int .i64 a0_6]]) Try.func97 (fun s w1 h => (spec_l6Gap.calls _ _ _ _ _ _ _ _ _ _ _ _ (Kd.C_below HR0_0.out h.hb) HC0_0.out H1.out).mono (by rintro e w2 ⟨rfl, hb⟩; exact fin0 hb)), pu rfl, trivial⟩
  intro s2 w2 h; have HS2 := Aside0.mk h; clear h HS1
  refine tl0 ?_
  refine wp_cond_false rfl ?_
  refine wp_skip ?_
  refine thN ?_
  refine reg (aF := ?_) (nw := ?_) [evR 0 13 0 (fun s => .agg #[.slice A0_0 l0_0.length c0_0, .int .i64 a0_1, .int .i64 a0_2, .int .i64 a0_3, .int .i64 a0_4, .int .i64 a0_5, .int .i64 a0_6]), evL 1 14 [] (fun s => .agg #[.slice A0_0 l0_0.length c0_0, .int .i64 a0_1, .int .i64 a0_2, .int .i64 a0_3, .int .i64 a0_4, .int .i64 a0_5, .int .i64 a0_6]), evC 2 (some 15) [] (fun s x => .int .i64 r2_0) (fun s x => []), evC 3 (some 16) [] (fun s x => .tuple #[.agg #[.slice x.A r3_0.length x.c, .int .i64 r3_1, .int .i64 r3_2, .int .i64 r3_3, .int .i64 r3_4, .int .i64 r3_5, .int .i64 r3_6], .int .i64 r3_7]) (fun s x => [rowS (Kd.slice 5 (Kd.int .u8)) 119 w x.lo x.hi x.A x.c r3_0]), evP 4 12 [3] (fun s => .tuple #[.agg #[.slice (s 3).A r3_0.length (s 3).c, .int .i64 r3_1, .int .i64 r3_2, .int .i64 r3_3, .int .i64 r3_4, .int .i64 r3_5, .int .i64 r3_6], .int .i64 r3_7]), evP 5 17 [3] (fun s => .agg #[.slice (s 3).A r3_0.length (s 3).c, .int .i64 r3_1, .int .i64 r3_2, .int .i64 r3_3, .int .i64 r3_4, .int .i64 r3_5, .int .i64 r3_6]), evP 6 18 [] (fun s => .int .i64 r3_7), evB 7 5 [] 69 (fun s => #[.slice none 0 0, .int .i64 0, .int .i64 0, .int .i64 0, .int .i64 0, .int .i64 0, .int .i64 0]) 8 [3] (fun s => #[.slice (s 3).A r3_0.length (s 3).c, .int .i64 r3_1, .int .i64 r3_2, .int .i64 r3_3, .int .i64 r3_4, .int .i64 r3_5, .int .i64 r3_6]), evS 8] [9] [] true 10 rfl rfl (by kernel_rfl) rfl (mf0) ?aF ?nw HS2.out ?hs ?_
  rotate_left 2
  case aF => intro s; simp only [putE, EvT.val, Act.put, setIfInBounds_toArray, set_cons_zero, set_cons_succ]; rfl
  case nw => intro s; simp only [thA, bsA, List.nil_append, List.cons_append, List.append_nil, if_true, if_false, Nat.reduceLT, set_cons_zero, set_cons_succ]; rfl
  case hs => exact ⟨lr rfl 0 rfl (fun s w h => by have h0 := h 0 _ rfl; have h1 := h 1 _ rfl; have h2 := h 2 _ rfl; have h3 := h 3 _ rfl; have h4 := h 4 _ rfl; have h5 := h 5 _ rfl; have h6 := h 6 _ rfl; clear h; go_simp; try rfl), ld rfl 0 (fun s => rfl) (fun s w h => by have h0 := h 0 _ rfl; have h1 := h 1 _ rfl; have h2 := h 2 _ rfl; have h3 := h 3 _ rfl; have h4 := h 4 _ rfl; have h5 := h 5 _ rfl; have h6 := h 6 _ rfl; clear h; go_simp; try rfl), cl rfl (fun s => #[.agg #[.slice A0_0 l0_0.length c0_0, .int .i64 a0_1, .int .i64 a0_2, .int .i64 a0_3, .int .i64 a0_4, .int .i64 a0_5, .int .i64 a0_6]]) Try.func99 (fun s w1 h => (spec_l6Long.calls _ _ _ _ _ _ _ _ _ _ _ (Kd.C_below HR0_0.out h.hb) HC0_0.out H2.out).mono (by rintro e w2 ⟨rfl, hb⟩; exact fin0 hb)), cl rfl (fun s => #[.agg #[.slice A0_0 l0_0.length c0_0, .int .i64 a0_1, .int .i64 a0_2, .int .i64 a0_3, .int .i64 a0_4, .int .i64 a0_5, .int .i64 a0_6], .int .i64 r2_0]) Try.func98 (fun s w1 h => (spec_l6Move.calls _ _ _ _ _ _ _ _ _ _ _ _ _ _ _ _ _ _ _ _ (Kd.C_below HR0_0.out h.hb) HC0_0.out H3.out).mono (by rintro e w2 ⟨v0_, rfl, ho0, hb⟩; obtain ⟨x, rfl, hx⟩ := fin_S ho0 hb h.hb.size; exact ⟨x, rfl, hx⟩)), pu rfl, pu rfl, pu rfl, bv rfl (fun s w => by go_simp; try rfl), st rfl 7 0 (fun s => [.slice (s 3).A r3_0.length (s 3).c, .int .i64 r3_1, .int .i64 r3_2, .int .i64 r3_3, .int .i64 r3_4, .int .i64 r3_5, .int .i64 r3_6]) rfl (fun s w h hf => by have h0 := h 0 _ rfl; have f0 := hf 0; have h1 := h 1 _ rfl; have f1 := hf 1; have h2 := h 2 _ rfl; have f2 := hf 2; have h3 := h 3 _ rfl; have f3 := hf 3; have h4 := h 4 _ rfl; have f4 := hf 4; have h5 := h 5 _ rfl; have f5 := hf 5; have h6 := h 6 _ rfl; have f6 := hf 6; clear h hf; go_simp; try rfl), trivial⟩
  intro s3 w3 h; have HS3 := Aside0.mk h; clear h HS2
  refine tlP (v := .int .i64 r3_7) 6 rfl ?_
  simp only [Act.put, setIfInBounds_toArray, set_cons_zero, set_cons_succ]
  refine tl0 ?_
  refine reg (aF := ?_) (nw := ?_) [evR 0 19 1 (fun s => .agg #[.slice (s3 3).A r3_0.length (s3 3).c, .int .i64 r3_1, .int .i64 r3_2, .int .i64 r3_3, .int .i64 r3_4, .int .i64 r3_5, .int .i64 r3_6]), evP 1 20 [] (fun s => .pointer (some ⟨(s3 7).lo, 1, none⟩)), evL 2 21 [] (fun s => .agg #[.int .i64 r3_1, .int .i64 r3_2, .int .i64 r3_3, .int .i64 r3_4]), evP 3 22 [] (fun s => .pointer (some ⟨(s3 7).lo, 5, none⟩)), evL 4 23 [] (fun s => .int .i64 r3_5), evP 5 24 [] (fun s => .pointer (some ⟨(s3 7).lo, 1, none⟩)), evP 6 25 [] (fun s => .pointer (some ⟨(s3 7).lo, 4, none⟩)), evL 7 26 [] (fun s => .int .i64 r3_4), evC 8 (some 27) [] (fun s x => .agg #[.int .i64 r4_0, .int .i64 r4_1, .int .i64 r4_2, .int .i64 r4_3]) (fun s x => []), evS 9, evS 10] [11] [⟨3, 9, [], fun s => boxT (s1 1).lo #[.slice (s3 3).A r3_0.length (s3 3).c, .int .i64 r3_1, .int .i64 r3_2, .int .i64 r3_3, .int .i64 r3_4, .int .i64 r3_5, .int .i64 r3_6] 69⟩, ⟨4, 10, [], fun s => boxT (s1 2).lo #[.int .i64 r4_0, .int .i64 r4_1, .int .i64 r4_2, .int .i64 r4_3] 48⟩] true 12 rfl rfl (by kernel_rfl) rfl ((mf1 (mf1 mf0))) ?aF ?nw HS3.out ?hs ?_
  rotate_left 2
  case aF => intro s; simp only [putE, EvT.val, Act.put, setIfInBounds_toArray, set_cons_zero, set_cons_succ]; rfl
  case nw => intro s; simp only [thA, bsA, List.nil_append, List.cons_append, List.append_nil, if_true, if_false, Nat.reduceLT, set_cons_zero, set_cons_succ]; rfl
  case hs => exact ⟨lr rfl 1 rfl (fun s w h => by have h0 := h 0 _ rfl; have h1 := h 1 _ rfl; have h2 := h 2 _ rfl; have h3 := h 3 _ rfl; have h4 := h 4 _ rfl; have h5 := h 5 _ rfl; have h6 := h 6 _ rfl; clear h; go_simp; try rfl), pu rfl (hr := fun s w => by go_simp; try rfl), ld rfl 1 (fun s => rfl) (fun s w h => by have h0 := h 0 _ rfl; have h1 := h 1 _ rfl; have h2 := h 2 _ rfl; have h3 := h 3 _ rfl; have h4 := h 4 _ rfl; have h5 := h 5 _ rfl; have h6 := h 6 _ rfl; clear h; go_simp; try rfl), pu rfl (hr := fun s w => by go_simp; try rfl), ld rfl 1 (fun s => rfl) (fun s w h => by have h0 := h 0 _ rfl; have h1 := h 1 _ rfl; have h2 := h 2 _ rfl; have h3 := h 3 _ rfl; have h4 := h 4 _ rfl; have h5 := h 5 _ rfl; have h6 := h 6 _ rfl; clear h; go_simp; try rfl), pu rfl (hr := fun s w => by go_simp; try rfl), pu rfl (hr := fun s w => by go_simp; try rfl), ld rfl 1 (fun s => rfl) (fun s w h => by have h0 := h 0 _ rfl; have h1 := h 1 _ rfl; have h2 := h 2 _ rfl; have h3 := h 3 _ rfl; have h4 := h 4 _ rfl; have h5 := h 5 _ rfl; have h6 := h 6 _ rfl; clear h; go_simp; try rfl), cl rfl (fun s => #[.agg #[.int .i64 r3_1, .int .i64 r3_2, .int .i64 r3_3, .int .i64 r3_4], .int .i64 0, .int .i64 r3_5, .int .i64 r3_4]) Try.func100 (fun s w1 h => (spec_l2Slice.calls _ _ _ _ _ _ _ _ _ _ _ _ H4.out).mono (by rintro e w2 ⟨rfl, hb⟩; exact fin0 hb)), sb rfl 0 3 0 (fun s => [.slice (s3 3).A r3_0.length (s3 3).c, .int .i64 r3_1, .int .i64 r3_2, .int .i64 r3_3, .int .i64 r3_4, .int .i64 r3_5, .int .i64 r3_6]) rfl rfl (fun s w h hf => by have h0 := h 0 _ rfl; have f0 := hf 0; have h1 := h 1 _ rfl; have f1 := hf 1; have h2 := h 2 _ rfl; have f2 := hf 2; have h3 := h 3 _ rfl; have f3 := hf 3; have h4 := h 4 _ rfl; have f4 := hf 4; have h5 := h 5 _ rfl; have f5 := hf 5; have h6 := h 6 _ rfl; have f6 := hf 6; clear h hf; go_simp; try rfl), sb rfl 1 4 0 (fun s => [.int .i64 r4_0, .int .i64 r4_1, .int .i64 r4_2, .int .i64 r4_3]) rfl rfl (fun s w h hf => by have h0 := h 0 _ rfl; have f0 := hf 0; have h1 := h 1 _ rfl; have f1 := hf 1; have h2 := h 2 _ rfl; have f2 := hf 2; have h3 := h 3 _ rfl; have f3 := hf 3; clear h hf; go_simp; try rfl), trivial⟩
  intro s4 w4 h; have HS4 := Aside0.mk h; clear h HS3
  refine tlP (v := .bool true) 4 rfl ?_
  simp only [Act.put, setIfInBounds_toArray, set_cons_zero, set_cons_succ]
  refine tl0 ?_
  refine wp_ret ?_
  try simp only [Exit.inBlock, Exit.then]
  refine bodyPost_ret (results_list (rs := [.cell 2 69, .cell 3 48, .tmp 4]) rfl (by simp) (.cell (s1 1).lo 69 #[.slice (s3 3).A r3_0.length (s3 3).c, .int .i64 r3_1, .int .i64 r3_2, .int .i64 r3_3, .int .i64 r3_4, .int .i64 r3_5, .int .i64 r3_6] (0, 0) _ rfl (show bx (s1 1).lo #[.slice (s3 3).A r3_0.length (s3 3).c, .int .i64 r3_1, .int .i64 r3_2, .int .i64 r3_3, .int .i64 r3_4, .int .i64 r3_5, .int .i64 r3_6] 69 _ from HS4.out.get 3 rfl) Try.underlying69 rfl (by kernel_rfl) (.cell (s1 2).lo 48 #[.int .i64 r4_0, .int .i64 r4_1, .int .i64 r4_2, .int .i64 r4_3] (0, 0) _ rfl (show bx (s1 2).lo #[.int .i64 r4_0, .int .i64 r4_1, .int .i64 r4_2, .int .i64 r4_3] 48 _ from HS4.out.get 4 rfl) Try.underlying48 rfl (by kernel_rfl) (.tmp .nil)))) rfl ?_
  exact ⟨_, by first | rfl | simp, Kd.S_mono (HS4.out.get 0 rfl) (fun _ _ => trivial), HS4.out.hb⟩
end Go.Proofs.Ytoomjghabiojkaa.P


/- CloseGap: the program's and the reference's. -/
namespace Go.Proofs.Ytoomjghabiojkaa.P
open Go.RowKit Go.Proofs.YtoomjghabiojkaaW.PrintWords Go.Proofs.YtoomjghabiojkaaW.PrintMore
set_option linter.unusedVariables false
set_option linter.unusedSimpArgs false
def closeGap (m : List (List Int)) (a s n c f t : Int) : List (List Int) × Int × Int × Int × Int × Int × Int × Int × Int × Int × Int × Bool := if gapB m a s n c f t = true then (putRow m a (moveRow (rowB m a) s n f t (n - (t - f))), a, s, n, c, n - (t - f), t + ((n - (t - f)) - f), a, s, n - (t - f), c, true) else ([], 0, 0, 0, 0, 0, 0, 0, 0, 0, 0, false)
theorem closeGap_ok (m : List (List Int)) (a s n c f t : Int) : okM (closeGap m a s n c f t).1 := by
  unfold closeGap
  split
  next h =>
    obtain ⟨hm, hw, hf, hft, htn⟩ := gapB_of h
    have h1 := hw.s0; have h2 := hw.n0; have h3 := hw.s1; have h4 := hw.n1; have h5 := hw.r0; have h6 := hw.r1
    have hlen := moveRow_length (row := rowB m a) (x := n - (t - f)) h1 h2 (by omega) hf hft htn (by omega) (by omega)
    exact putRow_ok hm (by omega) (by omega)
  next => exact okM_nil
def impl_CloseGap.f (m : List (List Int)) (a s n c f t : Int) : Option (List (List Int) × Int × Int × Int × Int × Int × Int × Int × Int × Int × Int × Bool) := if okMb m = true then some (closeGap m a s n c f t) else none
theorem impl_CloseGap.calls (A0_0 : Option Addr) (c0_0 : Nat) (l0_0 : List (List Int)) (a0_1 a0_2 a0_3 a0_4 a0_5 a0_6 : Int) (r1 : List (List Int)) (r2 r3 r4 r5 r6 r7 r8 r9 r10 r11 : Int) (r12 : Bool) (w : World) (hr0_0 : Kd.C (Kd.slice 5 (Kd.int .u8)) w A0_0 l0_0.length l0_0) (hc0_0 : l0_0.length ≤ c0_0) (h : impl_CloseGap.f l0_0 a0_1 a0_2 a0_3 a0_4 a0_5 a0_6 = some (r1, r2, r3, r4, r5, r6, r7, r8, r9, r10, r11, r12)) :
    Calls Try.prog 41 #[.agg #[.slice A0_0 l0_0.length c0_0, .int .i64 a0_1, .int .i64 a0_2, .int .i64 a0_3, .int .i64 a0_4, .int .i64 a0_5, .int .i64 a0_6]] w fun e w' => ∃ v0_ : Value, e = .returned (.tuple #[.agg #[v0_, .int .i64 r2, .int .i64 r3, .int .i64 r4, .int .i64 r5, .int .i64 r6, .int .i64 r7], .agg #[.int .i64 r8, .int .i64 r9, .int .i64 r10, .int .i64 r11], .bool r12]) ∧ Kd.S (Kd.slice 5 (Kd.int .u8)) 119 w' w.heap.size (fun _ => True) v0_ r1 ∧ Below w.heap.size w w' := by
  unfold impl_CloseGap.f at h
  split at h
  next hh =>
    have hm := okM_of hh
    have h := Option.some.inj h
    unfold closeGap at h
    by_cases h1 : gapB l0_0 a0_1 a0_2 a0_3 a0_4 a0_5 a0_6 = true
    · obtain ⟨hmb, hw, hf, hft, htn⟩ := gapB_of h1
      have hlen : impl_Gap_length.f l0_0 a0_1 a0_2 a0_3 a0_4 a0_5 a0_6 = some (a0_3 - (a0_6 - a0_5)) := by
        unfold impl_Gap_length.f
        rw [long_eq hw hf hft htn]
      rw [if_pos h1] at h
      cases h
      exact impl_CloseGap_w1 A0_0 c0_0 l0_0 a0_1 a0_2 a0_3 a0_4 a0_5 a0_6 l0_0 a0_1 a0_2 a0_3 a0_4 a0_5 a0_6 (a0_3 - (a0_6 - a0_5)) w hr0_0 hc0_0 ((isGap_f _ _ _ _ _ _ _).trans (congrArg some h1)) (gapOwn_f l0_0 a0_1 a0_2 a0_3 a0_4 a0_5 a0_6 hm).rounds hlen hw hf hft htn (by omega) (by omega)
    · have h3 := Bool.eq_false_iff.2 h1
      rw [if_neg h1] at h
      cases h
      exact impl_CloseGap_w0 A0_0 c0_0 l0_0 a0_1 a0_2 a0_3 a0_4 a0_5 a0_6 w hr0_0 hc0_0 ((isGap_f _ _ _ _ _ _ _).trans (congrArg some h3))
  next => cases h
theorem implCloseGap_f (m : List (List Int)) (a s n c f t : Int) (h : okM m) : impl_CloseGap.f m a s n c f t = some (closeGap m a s n c f t) := if_pos (okMb_of h)
def spec_CloseGap.f (m : List (List Int)) (a s n c f t : Int) : Option (List (List Int) × Int × Int × Int × Int × Int × Int × Int × Int × Int × Int × Bool) := if (okMb m && decide (-9223372036854775808 ≤ s ∧ s ≤ 9223372036854775807)) = true then some (closeGap m a s n c f t) else none
theorem spec_CloseGap.calls (A0_0 : Option Addr) (c0_0 : Nat) (l0_0 : List (List Int)) (a0_1 a0_2 a0_3 a0_4 a0_5 a0_6 : Int) (r1 : List (List Int)) (r2 r3 r4 r5 r6 r7 r8 r9 r10 r11 : Int) (r12 : Bool) (w : World) (hr0_0 : Kd.C (Kd.slice 5 (Kd.int .u8)) w A0_0 l0_0.length l0_0) (hc0_0 : l0_0.length ≤ c0_0) (h : spec_CloseGap.f l0_0 a0_1 a0_2 a0_3 a0_4 a0_5 a0_6 = some (r1, r2, r3, r4, r5, r6, r7, r8, r9, r10, r11, r12)) :
    Calls Try.prog 39 #[.agg #[.slice A0_0 l0_0.length c0_0, .int .i64 a0_1, .int .i64 a0_2, .int .i64 a0_3, .int .i64 a0_4, .int .i64 a0_5, .int .i64 a0_6]] w fun e w' => ∃ v0_ : Value, e = .returned (.tuple #[.agg #[v0_, .int .i64 r2, .int .i64 r3, .int .i64 r4, .int .i64 r5, .int .i64 r6, .int .i64 r7], .agg #[.int .i64 r8, .int .i64 r9, .int .i64 r10, .int .i64 r11], .bool r12]) ∧ Kd.S (Kd.slice 5 (Kd.int .u8)) 119 w' w.heap.size (fun _ => True) v0_ r1 ∧ Below w.heap.size w w' := by
  unfold spec_CloseGap.f at h
  split at h
  next hh =>
    have hh2 : okMb l0_0 = true ∧ _ = true := (Bool.and_eq_true _ _).mp hh
    have hm := okM_of hh2.1
    have hs := of_decide_eq_true hh2.2
    have h := Option.some.inj h
    unfold closeGap at h
    have hg := l6Gap_f l0_0 a0_1 a0_2 a0_3 a0_4 a0_5 a0_6 hm hs
    by_cases hgb : gapB l0_0 a0_1 a0_2 a0_3 a0_4 a0_5 a0_6 = true
    · obtain ⟨hmb, hw, hf, hft, htn⟩ := gapB_of hgb
      have h1 := hw.s0; have h2 := hw.n0; have h3 := hw.s1; have h4 := hw.n1; have h5 := hw.c1; have h6 := hw.r1; have h7 := hw.c0
      rw [hgb] at hg
      rw [if_pos hgb] at h
      cases h
      have hlen : spec_l6Long.f l0_0 a0_1 a0_2 a0_3 a0_4 a0_5 a0_6 = some (a0_3 - (a0_6 - a0_5)) := by
        unfold spec_l6Long.f
        rw [long_eq hw hf hft htn]
      have hsl : spec_l2Slice.f a0_1 a0_2 a0_3 a0_4 0 (a0_3 - (a0_6 - a0_5)) a0_4 = some (a0_1, a0_2, a0_3 - (a0_6 - a0_5), a0_4) := by
        unfold spec_l2Slice.f
        rw [show wrap64 (a0_2 + 0) = a0_2 by rw [Int.add_zero, wrap_ok (by omega) (by omega)], show wrap64 (a0_3 - (a0_6 - a0_5) - 0) = a0_3 - (a0_6 - a0_5) by rw [Int.sub_zero, wrap_ok (by omega) (by omega)], show wrap64 (a0_4 - 0) = a0_4 by rw [Int.sub_zero, wrap_ok (by omega) (by omega)]]
      exact spec_CloseGap_w1 A0_0 c0_0 l0_0 a0_1 a0_2 a0_3 a0_4 a0_5 a0_6 _ _ _ _ _ _ _ _ _ _ _ _ _ w hr0_0 hc0_0 hg.rounds hlen (l6Move_f l0_0 a0_1 a0_2 a0_3 a0_4 a0_5 a0_6 _ hm hw hf hft htn (by omega) (by omega)).rounds hsl
    · rw [Bool.eq_false_iff.2 hgb] at hg
      rw [if_neg hgb] at h
      cases h
      exact spec_CloseGap_w0 A0_0 c0_0 l0_0 a0_1 a0_2 a0_3 a0_4 a0_5 a0_6 w hr0_0 hc0_0 hg.rounds
  next => cases h
theorem specCloseGap_f (m : List (List Int)) (a s n c f t : Int) (h : okM m) (hs : -9223372036854775808 ≤ s ∧ s ≤ 9223372036854775807) : spec_CloseGap.f m a s n c f t = some (closeGap m a s n c f t) := if_pos (by rw [okMb_of h, decide_eq_true hs]; rfl)
end Go.Proofs.Ytoomjghabiojkaa.P


/- From a row's reading of an argument to what the print's kinds say of it. -/
namespace Go.Proofs.YtoomjghabiojkaaW.Mine
open Go.RowKit Go.Proofs.YtoomjghabiojkaaW.PrintWords
set_option linter.unusedVariables false
def ReadsK {α : Type} (P : Program) (T : TypeId) (d : Kd α) (ok : α → Prop) : Prop :=
  ∀ {H : Type} {enc : TypeId × Value → H} {w : World} {base : Nat} {spare : Nat → Bool} {held : Bool} {fuel : Nat} {cs : List Value} {x : DataW H × List MemPlace}, DataW.trod enc P w base spare held fuel T cs = some x → ∃ a : α, d.K w a cs ∧ ok a
theorem ReadsK.int {P : Program} {T : TypeId} {k : IntKind} (hT : P.underlying T = some (.int k)) : ReadsK P T (Kd.int k) (fun n => (Lit.int k n).wf = true) := by
  intro H enc w base spare held fuel cs x h
  obtain ⟨n, rfl, _, hw⟩ := DataW.trod_int hT h
  exact ⟨n, rfl, hw⟩
theorem ReadsK.bool {P : Program} {T : TypeId} (hT : P.underlying T = some .bool) : ReadsK P T Kd.bool (fun _ => True) := by
  intro H enc w base spare held fuel cs x h
  obtain ⟨b, rfl, _⟩ := DataW.trod_bool hT h
  exact ⟨b, rfl, trivial⟩
theorem exists_list {α : Type} {n : Nat} {p : Nat → α → Prop} (h : ∀ i, i < n → ∃ a, p i a) : ∃ l : List α, l.length = n ∧ ∀ i a, l[i]? = some a → p i a := by
  induction n with
  | zero => exact ⟨[], rfl, fun i a hi => by simp at hi⟩
  | succ n ih =>
    obtain ⟨l, hl, hp⟩ := ih (fun i hi => h i (by omega))
    obtain ⟨a, ha⟩ := h n (by omega)
    refine ⟨l ++ [a], by simp [hl], fun i b hb => ?_⟩
    rcases Nat.lt_or_ge i n with hi | hi
    · rw [List.getElem?_append_left (by omega)] at hb
      exact hp i b hb
    · have hi2 : i = n := by
        have := (List.getElem?_eq_some_iff.1 hb).1
        simp [hl] at this
        omega
      subst hi2
      rw [← hl, List.getElem?_append_right (Nat.le_refl _)] at hb
      simp at hb
      rw [← hb]
      exact ha
theorem ReadsK.slice {α : Type} {P : Program} {T e : TypeId} {d : Kd α} {ok : α → Prop} (hT : P.underlying T = some (.slice e)) (hc : P.cellsOf e = d.sz) (h1 : ReadsK P e d ok) : ReadsK P T (Kd.slice e d) (fun xs => ∀ x ∈ xs, ok x) := by
  intro H enc w base spare held fuel cs x h
  rcases Deep.open_slice hT h with ⟨rfl, _⟩ | ⟨a, len, cap, m, n, D, Pl, rfl, hb, hl, hm, hmm, _, hx⟩
  · exact ⟨[], ⟨none, 0, rfl, Nat.le_refl _, rfl, by simp, fun h => absurd h (by simp)⟩, fun x hx => by simp at hx⟩
  · have hlm : len ≤ m := by rw [hmm]; split <;> omega
    obtain ⟨l, hll, hp⟩ := exists_list (n := len) (p := fun i y => ∃ cs', w.cells? base (a.add (i * P.cellsOf e)) (P.cellsOf e) = some cs' ∧ d.K w y cs' ∧ ok y) (fun i hi => by
      obtain ⟨cs', h2, h3⟩ := hx i (by omega)
      obtain ⟨y, hy, hok⟩ := h1 h3
      exact ⟨y, cs', h2, hy, hok⟩)
    refine ⟨l, ⟨some a, cap, by rw [hll], by omega, rfl, ?_, fun hn => ⟨a, rfl, fun j p hj => ?_⟩⟩, fun y hy => ?_⟩
    · rw [hll]; unfold maxLen at hm; omega
    · obtain ⟨cs', h2, h3, _⟩ := hp j p hj
      obtain ⟨_, hlen, hcell⟩ := World.cells?_some h2
      refine ⟨cs', by rw [hlen, hc], h3, fun i u hu => ?_⟩
      have hi : i < P.cellsOf e := by
        have := (List.getElem?_eq_some_iff.1 hu).1
        omega
      have h4 := hcell i hi
      rw [hu] at h4
      rw [← h4, ← hc]
      congr 1
      unfold Addr.add
      by_cases z1 : j * P.cellsOf e = 0 <;> by_cases z2 : i = 0 <;> simp [z1, z2, Nat.add_assoc]
    · obtain ⟨j, hj, rfl⟩ := List.mem_iff_getElem.1 hy
      obtain ⟨_, _, _, hok⟩ := hp j _ (List.getElem?_eq_getElem hj)
      exact hok
def ReadsF {α : Type} (P : Program) (o : Nat) (fs : List Field) (d : Kd α) (ok : α → Prop) : Prop :=
  ∀ {H : Type} {enc : TypeId × Value → H} {w : World} {base : Nat} {spare : Nat → Bool} {held : Bool} {n : Nat} {cs : List Value}, (∀ f ∈ fs, ∃ x, DataW.trod enc P w base spare held n f.type ((cs.drop f.offset).take (P.cellsOf f.type)) = some x) → ∃ a : α, d.K w a ((cs.drop o).take d.sz) ∧ ok a
theorem ReadsF.last {α : Type} {P : Program} {o : Nat} {f : Field} {d : Kd α} {ok : α → Prop} (ho : f.offset = o) (h : ReadsK P f.type d ok) (hc : P.cellsOf f.type = d.sz) : ReadsF P o [f] d ok := by
  intro H enc w base spare held n cs hh
  obtain ⟨x, hx⟩ := hh f (by simp)
  rw [ho, hc] at hx
  exact h hx
theorem ReadsF.cons {α β : Type} {P : Program} {o : Nat} {f : Field} {fs : List Field} {d : Kd α} {d2 : Kd β} {ok : α → Prop} {ok2 : β → Prop} (ho : f.offset = o) (h : ReadsK P f.type d ok) (hc : P.cellsOf f.type = d.sz) (h2 : ReadsF P (o + d.sz) fs d2 ok2) : ReadsF P o (f :: fs) (Kd.pair d d2) (fun p => ok p.1 ∧ ok2 p.2) := by
  intro H enc w base spare held n cs hh
  obtain ⟨x, hx⟩ := hh f (by simp)
  rw [ho, hc] at hx
  obtain ⟨a, ha, hok⟩ := h hx
  obtain ⟨b, hb, hok2⟩ := h2 (fun g hg => hh g (by simp [hg]))
  refine ⟨(a, b), ⟨_, _, ?_, ha, hb⟩, hok, hok2⟩
  show (cs.drop o).take (d.sz + d2.sz) = _
  rw [List.take_add, List.drop_drop]
theorem ReadsK.struct {α : Type} {P : Program} {T : TypeId} {fs : Array Field} {d : Kd α} {ok : α → Prop} (hT : P.underlying T = some (.struct fs)) (hc : P.cellsOf T = d.sz) (h : ReadsF P 0 fs.toList d ok) : ReadsK P T d ok := by
  intro H enc w base spare held fuel cs x hx
  obtain ⟨xs, n, _, _, hl, hlen, hf⟩ := DataW.trod_struct hT hx
  obtain ⟨a, ha, hok⟩ := h (n := n) (cs := cs) (enc := enc) (w := w) (base := base) (spare := spare) (held := held) (fun f hf2 => by
    obtain ⟨i, hi, rfl⟩ := List.mem_iff_getElem.1 hf2
    have h1 := hf i fs[i] (by simp at hi; exact Array.getElem?_eq_getElem hi)
    have hi2 : i < xs.length := by simp at hi; omega
    rw [List.getElem?_eq_getElem hi2] at h1
    exact ⟨_, by simpa using h1⟩)
  refine ⟨a, ?_, hok⟩
  rwa [List.drop_zero, ← hc, ← hl, List.take_length] at ha
theorem ReadsK.iso {α β : Type} {P : Program} {T : TypeId} {d : Kd α} {ok : α → Prop} (h : ReadsK P T d ok) (f : β → α) (g : α → β) (hfg : ∀ a, f (g a) = a) : ReadsK P T (Kd.iso d f) (fun b => ok (f b)) := by
  intro H enc w base spare held fuel cs x hx
  obtain ⟨a, ha, hok⟩ := h hx
  refine ⟨g a, ?_, by show ok (f (g a)); rw [hfg]; exact hok⟩
  show d.K w (f (g a)) cs
  rw [hfg]
  exact ha
theorem agg_of {cs : Array Value} {L : List Value} (h : cs.toList = L) : cs = L.toArray := by rw [← h]
end Go.Proofs.YtoomjghabiojkaaW.Mine


-- written by wip/gen_law.py
namespace Go.Proofs.Ytoomjghabiojkaa.P
open Go.RowKit Go.Proofs.YtoomjghabiojkaaW.PrintWords Go.Proofs.YtoomjghabiojkaaW.PrintLast Go.Proofs.YtoomjghabiojkaaW.PrintMore Go.Proofs.YtoomjghabiojkaaW.Mine
open List (setIfInBounds_toArray set_cons_zero set_cons_succ)
attribute [local go_sem] max2_int min2_int max_two min_two max_three min_three max_four min_four
set_option linter.unusedVariables false
set_option linter.unusedSimpArgs false
set_option maxHeartbeats 8000000 in
set_option maxRecDepth 100000 in
theorem FnExactCloseGap_run0 (A0_0 : Option Addr) (c0_0 : Nat) (l0_0 : List (List Int)) (a0_1 : Int) (a0_2 : Int) (a0_3 : Int) (a0_4 : Int) (a0_5 : Int) (a0_6 : Int) (r1_0 : Int) (w : World) (hr0_0 : Kd.C (Kd.slice 5 (Kd.int .u8)) w A0_0 l0_0.length l0_0) (hc0_0 : l0_0.length ≤ c0_0) (H1 : ∃ k, laws_szGap.f k l0_0 a0_1 a0_2 a0_3 a0_4 a0_5 a0_6 1048576 = some r1_0) (P_ : r1_0 < 0) :
    Calls Try.prog 7 #[.agg #[.slice A0_0 l0_0.length c0_0, .int .i64 a0_1, .int .i64 a0_2, .int .i64 a0_3, .int .i64 a0_4, .int .i64 a0_5, .int .i64 a0_6]] w fun e w' => e = .returned (.bool true) ∧ Below w.heap.size w w' := by
  have HR0_0 := Aside0.mk hr0_0; have HC0_0 := Aside0.mk hc0_0; clear hr0_0 hc0_0
  obtain ⟨k, H1_⟩ := H1; have H1 := Aside0.mk H1_; clear H1_
  have Pb_ : decide (r1_0 < 0) = true := decide_eq_true P_; clear P_
  have HS0 : Aside0 (Stk w [] w) := ⟨Stk.nil w⟩
  go_enter Try.func7, Try.ntmps7
  refine reg (aF := ?_) (nw := ?_) [evB 0 1 [] 66 (fun s => #[.slice A0_0 l0_0.length c0_0, .int .i64 a0_1, .int .i64 a0_2, .int .i64 a0_3, .int .i64 a0_4, .int .i64 a0_5, .int .i64 a0_6]) 9999 [] (fun s => #[.slice A0_0 l0_0.length c0_0, .int .i64 a0_1, .int .i64 a0_2, .int .i64 a0_3, .int .i64 a0_4, .int .i64 a0_5, .int .i64 a0_6]), evP 1 2 [] (fun s => .bool false)] [] [] false 2 rfl rfl (by kernel_rfl) rfl (mf0) ?aF ?nw HS0.out ?hs ?_
  rotate_left 2
  case aF => intro s; simp only [putE, EvT.val, Act.put, setIfInBounds_toArray, set_cons_zero, set_cons_succ]; rfl
  case nw => intro s; simp only [thA, bsA, List.nil_append, List.cons_append, List.append_nil, if_true, if_false, Nat.reduceLT, set_cons_zero, set_cons_succ]; rfl
  case hs => exact ⟨bv rfl (fun s w => by go_simp; try rfl), pu rfl, trivial⟩
  intro s1 w1 h; have HS1 := Aside0.mk h; clear h HS0
  refine tl0 ?_
  refine reg0 (aF := ?_) [] [0] false 1 rfl rfl (by kernel_rfl) rfl (fun _ => rfl) ?aF HS1.out ?hs ?_
  rotate_left 1
  case aF => intro s; simp only [putE, EvT.val, Act.put, setIfInBounds_toArray, set_cons_zero, set_cons_succ]; rfl
  case hs => exact trivial
  intro s2 w2 h; have HS2 := Aside0.mk h; clear h HS1
  refine tlP (v := .int .i64 1048576) 3 rfl ?_
  refine tl0 ?_
  refine reg0 (aF := ?_) [evL 0 17 [] (fun s => .agg #[.slice A0_0 l0_0.length c0_0, .int .i64 a0_1, .int .i64 a0_2, .int .i64 a0_3, .int .i64 a0_4, .int .i64 a0_5, .int .i64 a0_6]), evP 1 18 [] (fun s => .int .i64 1048576), evC 2 (some 19) [] (fun s x => .int .i64 r1_0) (fun s x => [])] [3] false 4 rfl rfl (by kernel_rfl) rfl (fun _ => rfl) ?aF HS2.out ?hs ?_
  rotate_left 1
  case aF => intro s; simp only [putE, EvT.val, Act.put, setIfInBounds_toArray, set_cons_zero, set_cons_succ]; rfl
  case hs => exact ⟨ld rfl 0 (fun s => rfl) (fun s w h => by have h0 := h 0 _ rfl; have h1 := h 1 _ rfl; have h2 := h 2 _ rfl; have h3 := h 3 _ rfl; have h4 := h 4 _ rfl; have h5 := h 5 _ rfl; have h6 := h 6 _ rfl; clear h; go_simp; try rfl), pu rfl, cl rfl (fun s => #[.agg #[.slice A0_0 l0_0.length c0_0, .int .i64 a0_1, .int .i64 a0_2, .int .i64 a0_3, .int .i64 a0_4, .int .i64 a0_5, .int .i64 a0_6], .int .i64 1048576]) Try.func38 (fun s w1 h => (laws_szGap.calls _ _ _ _ _ _ _ _ _ _ _ _ _ (Kd.C_below HR0_0.out h.hb) HC0_0.out H1.out).mono (by rintro e w2 ⟨rfl, hb⟩; exact fin0 hb)), trivial⟩
  intro s3 w3 h; have HS3 := Aside0.mk h; clear h HS2
  refine tlP (v := .int .i64 r1_0) 3 rfl ?_
  refine tl0 ?_
  refine wp_seq ?_
  refine reg0 (aF := ?_) [evP 0 20 [] (fun s => .int .i64 r1_0), evP 1 21 [] (fun s => .bool true)] [] false 2 rfl rfl (by kernel_rfl) rfl (fun _ => rfl) ?aF HS3.out ?hs ?_
  rotate_left 1
  case aF => intro s; simp only [putE, EvT.val, Act.put, setIfInBounds_toArray, set_cons_zero, set_cons_succ]; rfl
  case hs => exact ⟨pu rfl, pb (q := .lss) Pb_ rfl, trivial⟩
  intro s4 w4 h; have HS4 := Aside0.mk h; clear h HS3
  refine tl0 ?_
  refine wp_cond_true rfl ?_
  refine reg0 (aF := ?_) [] [0] false 1 rfl rfl (by kernel_rfl) rfl (fun _ => rfl) ?aF HS4.out ?hs ?_
  rotate_left 1
  case aF => intro s; simp only [putE, EvT.val, Act.put, setIfInBounds_toArray, set_cons_zero, set_cons_succ]; rfl
  case hs => exact trivial
  intro s5 w5 h; have HS5 := Aside0.mk h; clear h HS4
  refine tlP (v := .bool true) 2 rfl ?_
  refine tl0 ?_
  refine wp_ret ?_
  go_ret
  exact ⟨by first | rfl | simp, HS5.out.hb⟩
set_option maxHeartbeats 8000000 in
set_option maxRecDepth 100000 in
theorem FnExactCloseGap_run (A0_0 : Option Addr) (c0_0 : Nat) (l0_0 : List (List Int)) (a0_1 : Int) (a0_2 : Int) (a0_3 : Int) (a0_4 : Int) (a0_5 : Int) (a0_6 : Int) (r1_0 : Int) (r2_0 : List (List Int)) (r2_1 : Int) (r2_2 : Int) (r2_3 : Int) (r2_4 : Int) (r2_5 : Int) (r2_6 : Int) (r3_0 : List (List Int)) (r3_1 : Int) (r3_2 : Int) (r3_3 : Int) (r3_4 : Int) (r3_5 : Int) (r3_6 : Int) (r3_7 : Int) (r3_8 : Int) (r3_9 : Int) (r3_10 : Int) (r3_11 : Bool) (r8_0 : Int) (r8_1 : List (List Int)) (r9_0 : Int) (r9_1 : List (List Int)) (w : World) (hr0_0 : Kd.C (Kd.slice 5 (Kd.int .u8)) w A0_0 l0_0.length l0_0) (hc0_0 : l0_0.length ≤ c0_0) (H1 : ∃ k, laws_szGap.f k l0_0 a0_1 a0_2 a0_3 a0_4 a0_5 a0_6 1048576 = some r1_0) (H2 : laws_toGap.f l0_0 a0_1 a0_2 a0_3 a0_4 a0_5 a0_6 = some (r2_0, r2_1, r2_2, r2_3, r2_4, r2_5, r2_6)) (H3 : spec_CloseGap.f r2_0 r2_1 r2_2 r2_3 r2_4 r2_5 r2_6 = some (r3_0, r3_1, r3_2, r3_3, r3_4, r3_5, r3_6, r3_7, r3_8, r3_9, r3_10, r3_11)) (H4 : impl_CloseGap.f r2_0 r2_1 r2_2 r2_3 r2_4 r2_5 r2_6 = some (r3_0, r3_1, r3_2, r3_3, r3_4, r3_5, r3_6, r3_7, r3_8, r3_9, r3_10, r3_11)) (H5 : ∃ k, laws_eqGap.f k r3_0 r3_1 r3_2 r3_3 r3_4 r3_5 r3_6 r3_0 r3_1 r3_2 r3_3 r3_4 r3_5 r3_6 = some true) (H6 : laws_eqWindow.f r3_7 r3_8 r3_9 r3_10 r3_7 r3_8 r3_9 r3_10 = some true) (H7 : ∃ k, laws_eqGap.f k r2_0 r2_1 r2_2 r2_3 r2_4 r2_5 r2_6 r2_0 r2_1 r2_2 r2_3 r2_4 r2_5 r2_6 = some true) (H8 : laws_markGap.f r2_0 1 = some (r8_0, r8_1)) (H9 : laws_markGap.f r3_0 1 = some (r9_0, r9_1)) (H10 : ∃ k, laws_heldGap.f k r9_1 r3_1 r3_2 r3_3 r3_4 r3_5 r3_6 1 = some r9_0) (N_r1_0 : ¬ r1_0 < 0) (N_r8_0 : ¬ r8_0 < 0) (N_r9_0 : ¬ r9_0 < 0) :
    Calls Try.prog 7 #[.agg #[.slice A0_0 l0_0.length c0_0, .int .i64 a0_1, .int .i64 a0_2, .int .i64 a0_3, .int .i64 a0_4, .int .i64 a0_5, .int .i64 a0_6]] w fun e w' => e = .returned (.bool true) ∧ Below w.heap.size w w' := by
  have HR0_0 := Aside0.mk hr0_0; have HC0_0 := Aside0.mk hc0_0; clear hr0_0 hc0_0
  obtain ⟨k, H1_⟩ := H1; have H1 := Aside0.mk H1_; clear H1_
  have H2_ := Aside0.mk H2; clear H2; have H2 := H2_; clear H2_
  have H3_ := Aside0.mk H3; clear H3; have H3 := H3_; clear H3_
  have H4_ := Aside0.mk H4; clear H4; have H4 := H4_; clear H4_
  obtain ⟨k, H5_⟩ := H5; have H5 := Aside0.mk H5_; clear H5_
  have H6_ := Aside0.mk H6; clear H6; have H6 := H6_; clear H6_
  obtain ⟨k, H7_⟩ := H7; have H7 := Aside0.mk H7_; clear H7_
  have H8_ := Aside0.mk H8; clear H8; have H8 := H8_; clear H8_
  have H9_ := Aside0.mk H9; clear H9; have H9 := H9_; clear H9_
  obtain ⟨k, H10_⟩ := H10; have H10 := Aside0.mk H10_; clear H10_
  have Nb_r1_0 : decide (r1_0 < 0) = false := decide_eq_false N_r1_0; clear N_r1_0
  have Nb_r8_0 : decide (r8_0 < 0) = false := decide_eq_false N_r8_0; clear N_r8_0
  have Nb_r9_0 : decide (r9_0 < 0) = false := decide_eq_false N_r9_0; clear N_r9_0
  have HS0 : Aside0 (Stk w [] w) := ⟨Stk.nil w⟩
  go_enter Try.func7, Try.ntmps7
  refine reg (aF := ?_) (nw := ?_) [evB 0 1 [] 66 (fun s => #[.slice A0_0 l0_0.length c0_0, .int .i64 a0_1, .int .i64 a0_2, .int .i64 a0_3, .int .i64 a0_4, .int .i64 a0_5, .int .i64 a0_6]) 9999 [] (fun s => #[.slice A0_0 l0_0.length c0_0, .int .i64 a0_1, .int .i64 a0_2, .int .i64 a0_3, .int .i64 a0_4, .int .i64 a0_5, .int .i64 a0_6]), evP 1 2 [] (fun s => .bool false)] [] [] false 2 rfl rfl (by kernel_rfl) rfl (mf0) ?aF ?nw HS0.out ?hs ?_
  rotate_left 2
  case aF => intro s; simp only [putE, EvT.val, Act.put, setIfInBounds_toArray, set_cons_zero, set_cons_succ]; rfl
  case nw => intro s; simp only [thA, bsA, List.nil_append, List.cons_append, List.append_nil, if_true, if_false, Nat.reduceLT, set_cons_zero, set_cons_succ]; rfl
  case hs => exact ⟨bv rfl (fun s w => by go_simp; try rfl), pu rfl, trivial⟩
  intro s1 w1 h; have HS1 := Aside0.mk h; clear h HS0
  refine tl0 ?_
  refine reg0 (aF := ?_) [] [0] false 1 rfl rfl (by kernel_rfl) rfl (fun _ => rfl) ?aF HS1.out ?hs ?_
  rotate_left 1
  case aF => intro s; simp only [putE, EvT.val, Act.put, setIfInBounds_toArray, set_cons_zero, set_cons_succ]; rfl
  case hs => exact trivial
  intro s2 w2 h; have HS2 := Aside0.mk h; clear h HS1
  refine tlP (v := .int .i64 1048576) 3 rfl ?_
  refine tl0 ?_
  refine reg0 (aF := ?_) [evL 0 17 [] (fun s => .agg #[.slice A0_0 l0_0.length c0_0, .int .i64 a0_1, .int .i64 a0_2, .int .i64 a0_3, .int .i64 a0_4, .int .i64 a0_5, .int .i64 a0_6]), evP 1 18 [] (fun s => .int .i64 1048576), evC 2 (some 19) [] (fun s x => .int .i64 r1_0) (fun s x => [])] [3] false 4 rfl rfl (by kernel_rfl) rfl (fun _ => rfl) ?aF HS2.out ?hs ?_
  rotate_left 1
  case aF => intro s; simp only [putE, EvT.val, Act.put, setIfInBounds_toArray, set_cons_zero, set_cons_succ]; rfl
  case hs => exact ⟨ld rfl 0 (fun s => rfl) (fun s w h => by have h0 := h 0 _ rfl; have h1 := h 1 _ rfl; have h2 := h 2 _ rfl; have h3 := h 3 _ rfl; have h4 := h 4 _ rfl; have h5 := h 5 _ rfl; have h6 := h 6 _ rfl; clear h; go_simp; try rfl), pu rfl, cl rfl (fun s => #[.agg #[.slice A0_0 l0_0.length c0_0, .int .i64 a0_1, .int .i64 a0_2, .int .i64 a0_3, .int .i64 a0_4, .int .i64 a0_5, .int .i64 a0_6], .int .i64 1048576]) Try.func38 (fun s w1 h => (laws_szGap.calls _ _ _ _ _ _ _ _ _ _ _ _ _ (Kd.C_below HR0_0.out h.hb) HC0_0.out H1.out).mono (by rintro e w2 ⟨rfl, hb⟩; exact fin0 hb)), trivial⟩
  intro s3 w3 h; have HS3 := Aside0.mk h; clear h HS2
  refine tlP (v := .int .i64 r1_0) 3 rfl ?_
  refine tl0 ?_
  refine wp_seq ?_
  refine reg0 (aF := ?_) [evP 0 20 [] (fun s => .int .i64 r1_0), evP 1 21 [] (fun s => .bool false)] [] false 2 rfl rfl (by kernel_rfl) rfl (fun _ => rfl) ?aF HS3.out ?hs ?_
  rotate_left 1
  case aF => intro s; simp only [putE, EvT.val, Act.put, setIfInBounds_toArray, set_cons_zero, set_cons_succ]; rfl
  case hs => exact ⟨pu rfl, pb (q := .lss) Nb_r1_0 rfl, trivial⟩
  intro s4 w4 h; have HS4 := Aside0.mk h; clear h HS3
  refine tl0 ?_
  refine wp_cond_false rfl ?_
  refine wp_skip ?_
  refine thN ?_
  refine reg (aF := ?_) (nw := ?_) [evL 0 23 [] (fun s => .agg #[.slice A0_0 l0_0.length c0_0, .int .i64 a0_1, .int .i64 a0_2, .int .i64 a0_3, .int .i64 a0_4, .int .i64 a0_5, .int .i64 a0_6]), evC 1 (some 24) [] (fun s x => .agg #[.slice x.A r2_0.length x.c, .int .i64 r2_1, .int .i64 r2_2, .int .i64 r2_3, .int .i64 r2_4, .int .i64 r2_5, .int .i64 r2_6]) (fun s x => [rowS (Kd.slice 5 (Kd.int .u8)) 119 w x.lo x.hi x.A x.c r2_0]), evC 2 (some 25) [1] (fun s x => .tuple #[.agg #[.slice x.A r3_0.length x.c, .int .i64 r3_1, .int .i64 r3_2, .int .i64 r3_3, .int .i64 r3_4, .int .i64 r3_5, .int .i64 r3_6], .agg #[.int .i64 r3_7, .int .i64 r3_8, .int .i64 r3_9, .int .i64 r3_10], .bool r3_11]) (fun s x => [rowS (Kd.slice 5 (Kd.int .u8)) 119 w x.lo x.hi x.A x.c r3_0]), evP 3 22 [2] (fun s => .tuple #[.agg #[.slice (s 2).A r3_0.length (s 2).c, .int .i64 r3_1, .int .i64 r3_2, .int .i64 r3_3, .int .i64 r3_4, .int .i64 r3_5, .int .i64 r3_6], .agg #[.int .i64 r3_7, .int .i64 r3_8, .int .i64 r3_9, .int .i64 r3_10], .bool r3_11]), evP 4 26 [2] (fun s => .agg #[.slice (s 2).A r3_0.length (s 2).c, .int .i64 r3_1, .int .i64 r3_2, .int .i64 r3_3, .int .i64 r3_4, .int .i64 r3_5, .int .i64 r3_6]), evP 5 27 [] (fun s => .agg #[.int .i64 r3_7, .int .i64 r3_8, .int .i64 r3_9, .int .i64 r3_10]), evP 6 28 [] (fun s => .bool r3_11), evB 7 4 [] 69 (fun s => #[.slice none 0 0, .int .i64 0, .int .i64 0, .int .i64 0, .int .i64 0, .int .i64 0, .int .i64 0]) 9 [2] (fun s => #[.slice (s 2).A r3_0.length (s 2).c, .int .i64 r3_1, .int .i64 r3_2, .int .i64 r3_3, .int .i64 r3_4, .int .i64 r3_5, .int .i64 r3_6]), evB 8 5 [] 48 (fun s => #[.int .i64 0, .int .i64 0, .int .i64 0, .int .i64 0]) 10 [] (fun s => #[.int .i64 r3_7, .int .i64 r3_8, .int .i64 r3_9, .int .i64 r3_10]), evS 9, evS 10] [11] [] false 12 rfl rfl (by kernel_rfl) rfl (mf0) ?aF ?nw HS4.out ?hs ?_
  rotate_left 2
  case aF => intro s; simp only [putE, EvT.val, Act.put, setIfInBounds_toArray, set_cons_zero, set_cons_succ]; rfl
  case nw => intro s; simp only [thA, bsA, List.nil_append, List.cons_append, List.append_nil, if_true, if_false, Nat.reduceLT, set_cons_zero, set_cons_succ]; rfl
  case hs => exact ⟨ld rfl 0 (fun s => rfl) (fun s w h => by have h0 := h 0 _ rfl; have h1 := h 1 _ rfl; have h2 := h 2 _ rfl; have h3 := h 3 _ rfl; have h4 := h 4 _ rfl; have h5 := h 5 _ rfl; have h6 := h 6 _ rfl; clear h; go_simp; try rfl), cl rfl (fun s => #[.agg #[.slice A0_0 l0_0.length c0_0, .int .i64 a0_1, .int .i64 a0_2, .int .i64 a0_3, .int .i64 a0_4, .int .i64 a0_5, .int .i64 a0_6]]) Try.func40 (fun s w1 h => (laws_toGap.calls _ _ _ _ _ _ _ _ _ _ _ _ _ _ _ _ _ (Kd.C_below HR0_0.out h.hb) HC0_0.out H2.out).mono (by rintro e w2 ⟨v0_, rfl, ho0, hb⟩; obtain ⟨x, rfl, hx⟩ := fin_S ho0 hb h.hb.size; exact ⟨x, rfl, hx⟩)), cl rfl (fun s => #[.agg #[.slice (s 1).A r2_0.length (s 1).c, .int .i64 r2_1, .int .i64 r2_2, .int .i64 r2_3, .int .i64 r2_4, .int .i64 r2_5, .int .i64 r2_6]]) Try.func39 (fun s w1 h => (spec_CloseGap.calls _ _ _ _ _ _ _ _ _ _ _ _ _ _ _ _ _ _ _ _ _ _ (Kd.S_reads' (h.get 0 rfl)).2.2 (Kd.S_reads' (h.get 0 rfl)).2.1 H3.out).mono (by rintro e w2 ⟨v0_, rfl, ho0, hb⟩; obtain ⟨x, rfl, hx⟩ := fin_S ho0 hb h.hb.size; exact ⟨x, rfl, hx⟩)), pu rfl, pu rfl, pu rfl, pu rfl, bv rfl (fun s w => by go_simp; try rfl), bv rfl (fun s w => by go_simp; try rfl), st rfl 7 0 (fun s => [.slice (s 2).A r3_0.length (s 2).c, .int .i64 r3_1, .int .i64 r3_2, .int .i64 r3_3, .int .i64 r3_4, .int .i64 r3_5, .int .i64 r3_6]) rfl (fun s w h hf => by have h0 := h 0 _ rfl; have f0 := hf 0; have h1 := h 1 _ rfl; have f1 := hf 1; have h2 := h 2 _ rfl; have f2 := hf 2; have h3 := h 3 _ rfl; have f3 := hf 3; have h4 := h 4 _ rfl; have f4 := hf 4; have h5 := h 5 _ rfl; have f5 := hf 5; have h6 := h 6 _ rfl; have f6 := hf 6; clear h hf; go_simp; try rfl), st rfl 8 0 (fun s => [.int .i64 r3_7, .int .i64 r3_8, .int .i64 r3_9, .int .i64 r3_10]) rfl (fun s w h hf => by have h0 := h 0 _ rfl; have f0 := hf 0; have h1 := h 1 _ rfl; have f1 := hf 1; have h2 := h 2 _ rfl; have f2 := hf 2; have h3 := h 3 _ rfl; have f3 := hf 3; clear h hf; go_simp; try rfl), trivial⟩
  intro s5 w5 h; have HS5 := Aside0.mk h; clear h HS4
  refine tlP (v := .bool r3_11) 6 rfl ?_
  refine tl0 ?_
  refine reg (aF := ?_) (nw := ?_) [evL 0 29 [] (fun s => .agg #[.slice A0_0 l0_0.length c0_0, .int .i64 a0_1, .int .i64 a0_2, .int .i64 a0_3, .int .i64 a0_4, .int .i64 a0_5, .int .i64 a0_6]), evC 1 (some 30) [] (fun s x => .agg #[.slice x.A r2_0.length x.c, .int .i64 r2_1, .int .i64 r2_2, .int .i64 r2_3, .int .i64 r2_4, .int .i64 r2_5, .int .i64 r2_6]) (fun s x => [rowS (Kd.slice 5 (Kd.int .u8)) 119 w x.lo x.hi x.A x.c r2_0]), evB 2 7 [] 69 (fun s => #[.slice none 0 0, .int .i64 0, .int .i64 0, .int .i64 0, .int .i64 0, .int .i64 0, .int .i64 0]) 3 [1] (fun s => #[.slice (s 1).A r2_0.length (s 1).c, .int .i64 r2_1, .int .i64 r2_2, .int .i64 r2_3, .int .i64 r2_4, .int .i64 r2_5, .int .i64 r2_6]), evS 3] [] [] false 4 rfl rfl (by kernel_rfl) rfl (mf0) ?aF ?nw HS5.out ?hs ?_
  rotate_left 2
  case aF => intro s; simp only [putE, EvT.val, Act.put, setIfInBounds_toArray, set_cons_zero, set_cons_succ]; rfl
  case nw => intro s; simp only [thA, bsA, List.nil_append, List.cons_append, List.append_nil, if_true, if_false, Nat.reduceLT, set_cons_zero, set_cons_succ]; rfl
  case hs => exact ⟨ld rfl 4 (fun s => rfl) (fun s w h => by have h0 := h 0 _ rfl; have h1 := h 1 _ rfl; have h2 := h 2 _ rfl; have h3 := h 3 _ rfl; have h4 := h 4 _ rfl; have h5 := h 5 _ rfl; have h6 := h 6 _ rfl; clear h; go_simp; try rfl), cl rfl (fun s => #[.agg #[.slice A0_0 l0_0.length c0_0, .int .i64 a0_1, .int .i64 a0_2, .int .i64 a0_3, .int .i64 a0_4, .int .i64 a0_5, .int .i64 a0_6]]) Try.func40 (fun s w1 h => (laws_toGap.calls _ _ _ _ _ _ _ _ _ _ _ _ _ _ _ _ _ (Kd.C_below HR0_0.out h.hb) HC0_0.out H2.out).mono (by rintro e w2 ⟨v0_, rfl, ho0, hb⟩; obtain ⟨x, rfl, hx⟩ := fin_S ho0 hb h.hb.size; exact ⟨x, rfl, hx⟩)), bv rfl (fun s w => by go_simp; try rfl), st rfl 2 0 (fun s => [.slice (s 1).A r2_0.length (s 1).c, .int .i64 r2_1, .int .i64 r2_2, .int .i64 r2_3, .int .i64 r2_4, .int .i64 r2_5, .int .i64 r2_6]) rfl (fun s w h hf => by have h0 := h 0 _ rfl; have f0 := hf 0; have h1 := h 1 _ rfl; have f1 := hf 1; have h2 := h 2 _ rfl; have f2 := hf 2; have h3 := h 3 _ rfl; have f3 := hf 3; have h4 := h 4 _ rfl; have f4 := hf 4; have h5 := h 5 _ rfl; have f5 := hf 5; have h6 := h 6 _ rfl; have f6 := hf 6; clear h hf; go_simp; try rfl), trivial⟩
  intro s6 w6 h; have HS6 := Aside0.mk h; clear h HS5
  refine tl0 ?_
  refine reg (aF := ?_) (nw := ?_) [evL 0 32 [] (fun s => .agg #[.slice (s6 1).A r2_0.length (s6 1).c, .int .i64 r2_1, .int .i64 r2_2, .int .i64 r2_3, .int .i64 r2_4, .int .i64 r2_5, .int .i64 r2_6]), evC 1 (some 33) [] (fun s x => .tuple #[.agg #[.slice x.A r3_0.length x.c, .int .i64 r3_1, .int .i64 r3_2, .int .i64 r3_3, .int .i64 r3_4, .int .i64 r3_5, .int .i64 r3_6], .agg #[.int .i64 r3_7, .int .i64 r3_8, .int .i64 r3_9, .int .i64 r3_10], .bool r3_11]) (fun s x => [rowS (Kd.slice 5 (Kd.int .u8)) 119 w x.lo x.hi x.A x.c r3_0]), evP 2 31 [1] (fun s => .tuple #[.agg #[.slice (s 1).A r3_0.length (s 1).c, .int .i64 r3_1, .int .i64 r3_2, .int .i64 r3_3, .int .i64 r3_4, .int .i64 r3_5, .int .i64 r3_6], .agg #[.int .i64 r3_7, .int .i64 r3_8, .int .i64 r3_9, .int .i64 r3_10], .bool r3_11]), evP 3 34 [1] (fun s => .agg #[.slice (s 1).A r3_0.length (s 1).c, .int .i64 r3_1, .int .i64 r3_2, .int .i64 r3_3, .int .i64 r3_4, .int .i64 r3_5, .int .i64 r3_6]), evP 4 35 [] (fun s => .agg #[.int .i64 r3_7, .int .i64 r3_8, .int .i64 r3_9, .int .i64 r3_10]), evP 5 36 [] (fun s => .bool r3_11), evB 6 8 [] 69 (fun s => #[.slice none 0 0, .int .i64 0, .int .i64 0, .int .i64 0, .int .i64 0, .int .i64 0, .int .i64 0]) 8 [1] (fun s => #[.slice (s 1).A r3_0.length (s 1).c, .int .i64 r3_1, .int .i64 r3_2, .int .i64 r3_3, .int .i64 r3_4, .int .i64 r3_5, .int .i64 r3_6]), evB 7 9 [] 48 (fun s => #[.int .i64 0, .int .i64 0, .int .i64 0, .int .i64 0]) 9 [] (fun s => #[.int .i64 r3_7, .int .i64 r3_8, .int .i64 r3_9, .int .i64 r3_10]), evS 8, evS 9] [10] [] false 11 rfl rfl (by kernel_rfl) rfl (mf0) ?aF ?nw HS6.out ?hs ?_
  rotate_left 2
  case aF => intro s; simp only [putE, EvT.val, Act.put, setIfInBounds_toArray, set_cons_zero, set_cons_succ]; rfl
  case nw => intro s; simp only [thA, bsA, List.nil_append, List.cons_append, List.append_nil, if_true, if_false, Nat.reduceLT, set_cons_zero, set_cons_succ]; rfl
  case hs => exact ⟨ld rfl 1 (fun s => rfl) (fun s w h => by have h0 := h 0 _ rfl; have h1 := h 1 _ rfl; have h2 := h 2 _ rfl; have h3 := h 3 _ rfl; have h4 := h 4 _ rfl; have h5 := h 5 _ rfl; have h6 := h 6 _ rfl; clear h; go_simp; try rfl), cl rfl (fun s => #[.agg #[.slice (s6 1).A r2_0.length (s6 1).c, .int .i64 r2_1, .int .i64 r2_2, .int .i64 r2_3, .int .i64 r2_4, .int .i64 r2_5, .int .i64 r2_6]]) Try.func41 (fun s w1 h => (impl_CloseGap.calls _ _ _ _ _ _ _ _ _ _ _ _ _ _ _ _ _ _ _ _ _ _ (Kd.S_reads' (h.get 0 rfl)).2.2 (Kd.S_reads' (h.get 0 rfl)).2.1 H4.out).mono (by rintro e w2 ⟨v0_, rfl, ho0, hb⟩; obtain ⟨x, rfl, hx⟩ := fin_S ho0 hb h.hb.size; exact ⟨x, rfl, hx⟩)), pu rfl, pu rfl, pu rfl, pu rfl, bv rfl (fun s w => by go_simp; try rfl), bv rfl (fun s w => by go_simp; try rfl), st rfl 6 0 (fun s => [.slice (s 1).A r3_0.length (s 1).c, .int .i64 r3_1, .int .i64 r3_2, .int .i64 r3_3, .int .i64 r3_4, .int .i64 r3_5, .int .i64 r3_6]) rfl (fun s w h hf => by have h0 := h 0 _ rfl; have f0 := hf 0; have h1 := h 1 _ rfl; have f1 := hf 1; have h2 := h 2 _ rfl; have f2 := hf 2; have h3 := h 3 _ rfl; have f3 := hf 3; have h4 := h 4 _ rfl; have f4 := hf 4; have h5 := h 5 _ rfl; have f5 := hf 5; have h6 := h 6 _ rfl; have f6 := hf 6; clear h hf; go_simp; try rfl), st rfl 7 0 (fun s => [.int .i64 r3_7, .int .i64 r3_8, .int .i64 r3_9, .int .i64 r3_10]) rfl (fun s w h hf => by have h0 := h 0 _ rfl; have f0 := hf 0; have h1 := h 1 _ rfl; have f1 := hf 1; have h2 := h 2 _ rfl; have f2 := hf 2; have h3 := h 3 _ rfl; have f3 := hf 3; clear h hf; go_simp; try rfl), trivial⟩
  intro s7 w7 h; have HS7 := Aside0.mk h; clear h HS6
  refine tlP (v := .bool r3_11) 10 rfl ?_
  refine tl0 ?_
  refine wp_seq ?_
  refine reg0 (aF := ?_) [evL 0 37 [] (fun s => .agg #[.slice (s7 1).A r3_0.length (s7 1).c, .int .i64 r3_1, .int .i64 r3_2, .int .i64 r3_3, .int .i64 r3_4, .int .i64 r3_5, .int .i64 r3_6]), evL 1 38 [] (fun s => .agg #[.slice (s5 2).A r3_0.length (s5 2).c, .int .i64 r3_1, .int .i64 r3_2, .int .i64 r3_3, .int .i64 r3_4, .int .i64 r3_5, .int .i64 r3_6]), evC 2 (some 39) [] (fun s x => .bool true) (fun s x => []), evP 3 40 [] (fun s => .bool false), evP 4 41 [] (fun s => .bool false), evL 5 42 [] (fun s => .agg #[.int .i64 r3_7, .int .i64 r3_8, .int .i64 r3_9, .int .i64 r3_10]), evL 6 43 [] (fun s => .agg #[.int .i64 r3_7, .int .i64 r3_8, .int .i64 r3_9, .int .i64 r3_10]), evC 7 (some 44) [] (fun s x => .bool true) (fun s x => []), evP 8 45 [] (fun s => .bool false), evP 9 46 [] (fun s => .bool false), evP 10 47 [] (fun s => .bool false), evP 11 48 [] (fun s => .bool r3_11), evP 12 49 [] (fun s => .bool r3_11), evP 13 50 [] (fun s => .bool false), evP 14 51 [] (fun s => .bool false)] [] false 15 rfl rfl (by kernel_rfl) rfl (fun _ => rfl) ?aF HS7.out ?hs ?_
  rotate_left 1
  case aF => intro s; simp only [putE, EvT.val, Act.put, setIfInBounds_toArray, set_cons_zero, set_cons_succ]; rfl
  case hs => exact ⟨ld rfl 1 (fun s => rfl) (fun s w h => by have h0 := h 0 _ rfl; have h1 := h 1 _ rfl; have h2 := h 2 _ rfl; have h3 := h 3 _ rfl; have h4 := h 4 _ rfl; have h5 := h 5 _ rfl; have h6 := h 6 _ rfl; clear h; go_simp; try rfl), ld rfl 7 (fun s => rfl) (fun s w h => by have h0 := h 0 _ rfl; have h1 := h 1 _ rfl; have h2 := h 2 _ rfl; have h3 := h 3 _ rfl; have h4 := h 4 _ rfl; have h5 := h 5 _ rfl; have h6 := h 6 _ rfl; clear h; go_simp; try rfl), cl rfl (fun s => #[.agg #[.slice (s7 1).A r3_0.length (s7 1).c, .int .i64 r3_1, .int .i64 r3_2, .int .i64 r3_3, .int .i64 r3_4, .int .i64 r3_5, .int .i64 r3_6], .agg #[.slice (s5 2).A r3_0.length (s5 2).c, .int .i64 r3_1, .int .i64 r3_2, .int .i64 r3_3, .int .i64 r3_4, .int .i64 r3_5, .int .i64 r3_6]]) Try.func42 (fun s w1 h => (laws_eqGap.calls _ _ _ _ _ _ _ _ _ _ _ _ _ _ _ _ _ _ _ _ _ (Kd.S_reads' (h.get 0 rfl)).2.2 (Kd.S_reads' (h.get 0 rfl)).2.1 (Kd.S_reads' (h.get 6 rfl)).2.2 (Kd.S_reads' (h.get 6 rfl)).2.1 H5.out).mono (by rintro e w2 ⟨rfl, hb⟩; exact fin0 hb)), pu rfl, pu rfl, ld rfl 2 (fun s => rfl) (fun s w h => by have h0 := h 0 _ rfl; have h1 := h 1 _ rfl; have h2 := h 2 _ rfl; have h3 := h 3 _ rfl; clear h; go_simp; try rfl), ld rfl 8 (fun s => rfl) (fun s w h => by have h0 := h 0 _ rfl; have h1 := h 1 _ rfl; have h2 := h 2 _ rfl; have h3 := h 3 _ rfl; clear h; go_simp; try rfl), cl rfl (fun s => #[.agg #[.int .i64 r3_7, .int .i64 r3_8, .int .i64 r3_9, .int .i64 r3_10], .agg #[.int .i64 r3_7, .int .i64 r3_8, .int .i64 r3_9, .int .i64 r3_10]]) Try.func43 (fun s w1 h => (laws_eqWindow.calls _ _ _ _ _ _ _ _ _ _ H6.out).mono (by rintro e w2 ⟨rfl, hb⟩; exact fin0 hb)), pu rfl, pu rfl, pu rfl, pu rfl, pu rfl, pn Try.underlying4 rfl, pu rfl, trivial⟩
  intro s8 w8 h; have HS8 := Aside0.mk h; clear h HS7
  refine tl0 ?_
  refine wp_cond_false rfl ?_
  refine wp_skip ?_
  refine thN ?_
  refine wp_seq ?_
  refine reg (aF := ?_) (nw := ?_) [evR 0 52 4 (fun s => .agg #[.slice (s6 1).A r2_0.length (s6 1).c, .int .i64 r2_1, .int .i64 r2_2, .int .i64 r2_3, .int .i64 r2_4, .int .i64 r2_5, .int .i64 r2_6]), evL 1 53 [] (fun s => .agg #[.slice A0_0 l0_0.length c0_0, .int .i64 a0_1, .int .i64 a0_2, .int .i64 a0_3, .int .i64 a0_4, .int .i64 a0_5, .int .i64 a0_6]), evC 2 (some 54) [] (fun s x => .agg #[.slice x.A r2_0.length x.c, .int .i64 r2_1, .int .i64 r2_2, .int .i64 r2_3, .int .i64 r2_4, .int .i64 r2_5, .int .i64 r2_6]) (fun s x => [rowS (Kd.slice 5 (Kd.int .u8)) 119 w x.lo x.hi x.A x.c r2_0]), evC 3 (some 55) [2] (fun s x => .bool true) (fun s x => []), evP 4 56 [] (fun s => .bool false)] [] [] true 5 rfl rfl (by kernel_rfl) rfl (mf0) ?aF ?nw HS8.out ?hs ?_
  rotate_left 2
  case aF => intro s; simp only [putE, EvT.val, Act.put, setIfInBounds_toArray, set_cons_zero, set_cons_succ]; rfl
  case nw => intro s; simp only [thA, bsA, List.nil_append, List.cons_append, List.append_nil, if_true, if_false, Nat.reduceLT, set_cons_zero, set_cons_succ]; rfl
  case hs => exact ⟨lr rfl 4 rfl (fun s w h => by have h0 := h 0 _ rfl; have h1 := h 1 _ rfl; have h2 := h 2 _ rfl; have h3 := h 3 _ rfl; have h4 := h 4 _ rfl; have h5 := h 5 _ rfl; have h6 := h 6 _ rfl; clear h; go_simp; try rfl), ld rfl 9 (fun s => rfl) (fun s w h => by have h0 := h 0 _ rfl; have h1 := h 1 _ rfl; have h2 := h 2 _ rfl; have h3 := h 3 _ rfl; have h4 := h 4 _ rfl; have h5 := h 5 _ rfl; have h6 := h 6 _ rfl; clear h; go_simp; try rfl), cl rfl (fun s => #[.agg #[.slice A0_0 l0_0.length c0_0, .int .i64 a0_1, .int .i64 a0_2, .int .i64 a0_3, .int .i64 a0_4, .int .i64 a0_5, .int .i64 a0_6]]) Try.func40 (fun s w1 h => (laws_toGap.calls _ _ _ _ _ _ _ _ _ _ _ _ _ _ _ _ _ (Kd.C_below HR0_0.out h.hb) HC0_0.out H2.out).mono (by rintro e w2 ⟨v0_, rfl, ho0, hb⟩; obtain ⟨x, rfl, hx⟩ := fin_S ho0 hb h.hb.size; exact ⟨x, rfl, hx⟩)), cl rfl (fun s => #[.agg #[.slice (s6 1).A r2_0.length (s6 1).c, .int .i64 r2_1, .int .i64 r2_2, .int .i64 r2_3, .int .i64 r2_4, .int .i64 r2_5, .int .i64 r2_6], .agg #[.slice (s 2).A r2_0.length (s 2).c, .int .i64 r2_1, .int .i64 r2_2, .int .i64 r2_3, .int .i64 r2_4, .int .i64 r2_5, .int .i64 r2_6]]) Try.func42 (fun s w1 h => (laws_eqGap.calls _ _ _ _ _ _ _ _ _ _ _ _ _ _ _ _ _ _ _ _ _ (Kd.S_reads' (h.get 4 rfl)).2.2 (Kd.S_reads' (h.get 4 rfl)).2.1 (Kd.S_reads' (h.get 0 rfl)).2.2 (Kd.S_reads' (h.get 0 rfl)).2.1 H7.out).mono (by rintro e w2 ⟨rfl, hb⟩; exact fin0 hb)), pu rfl, trivial⟩
  intro s9 w9 h; have HS9 := Aside0.mk h; clear h HS8
  refine tl0 ?_
  refine wp_cond_false rfl ?_
  refine wp_skip ?_
  refine thN ?_
  refine reg0 (aF := ?_) [] [0] false 1 rfl rfl (by kernel_rfl) rfl (fun _ => rfl) ?aF HS9.out ?hs ?_
  rotate_left 1
  case aF => intro s; simp only [putE, EvT.val, Act.put, setIfInBounds_toArray, set_cons_zero, set_cons_succ]; rfl
  case hs => exact trivial
  intro s10 w10 h; have HS10 := Aside0.mk h; clear h HS9
  refine tlP (v := .int .i64 1) 11 rfl ?_
  refine tl0 ?_
  refine reg (aF := ?_) (nw := ?_) [evL 0 57 [] (fun s => .agg #[.slice (s6 1).A r2_0.length (s6 1).c, .int .i64 r2_1, .int .i64 r2_2, .int .i64 r2_3, .int .i64 r2_4, .int .i64 r2_5, .int .i64 r2_6]), evP 1 58 [] (fun s => .int .i64 1), evW 2 (some 59) [] (fun s => .int .i64 r8_0)] [3] [⟨4, 2, [], fun s => ⟨(s6 1).lo, (s6 1).hi, fun w_ => Kd.S (Kd.slice 5 (Kd.int .u8)) 119 w_ w.heap.size (fun k_ => (s6 1).lo ≤ k_ ∧ k_ < (s6 1).hi) (.slice (s6 1).A r2_0.length (s6 1).c) r8_1⟩⟩] false 4 rfl rfl (by kernel_rfl) rfl ((mf1 mf0)) ?aF ?nw HS10.out ?hs ?_
  rotate_left 2
  case aF => intro s; simp only [putE, EvT.val, Act.put, setIfInBounds_toArray, set_cons_zero, set_cons_succ]; rfl
  case nw => intro s; simp only [thA, bsA, List.nil_append, List.cons_append, List.append_nil, if_true, if_false, Nat.reduceLT, set_cons_zero, set_cons_succ]; rfl
  case hs => exact ⟨ld rfl 5 (fun s => rfl) (fun s w h => by have h0 := h 0 _ rfl; have h1 := h 1 _ rfl; have h2 := h 2 _ rfl; have h3 := h 3 _ rfl; have h4 := h 4 _ rfl; have h5 := h 5 _ rfl; have h6 := h 6 _ rfl; clear h; go_simp; try rfl), pu rfl, cw rfl 0 4 rfl rfl (fun s => #[.agg #[.slice (s6 1).A r2_0.length (s6 1).c, .int .i64 r2_1, .int .i64 r2_2, .int .i64 r2_3, .int .i64 r2_4, .int .i64 r2_5, .int .i64 r2_6], .int .i64 1]) Try.func44 (fun s w1 h => (laws_markGap.calls (fun k_ => (s6 1).lo ≤ k_ ∧ k_ < (s6 1).hi) _ _ _ _ _ _ _ _ _ _ _ w _ h.hb (h.get 0 rfl) H8.out).mono (by rintro e w2 ⟨rfl, ho0, hb, hk⟩; exact ⟨rfl, Wrote.of 0 h rfl hb hk (fun w_ ha => S_again ho0 ha)⟩)), trivial⟩
  intro s11 w11 h; have HS11 := Aside0.mk h; clear h HS10
  refine tlP (v := .int .i64 r8_0) 11 rfl ?_
  refine tl0 ?_
  refine wp_seq ?_
  refine reg0 (aF := ?_) [evP 0 60 [] (fun s => .int .i64 r8_0), evP 1 61 [] (fun s => .bool false), evP 2 62 [] (fun s => .bool false), evL 3 63 [] (fun s => .agg #[.slice (s7 1).A r3_0.length (s7 1).c, .int .i64 r3_1, .int .i64 r3_2, .int .i64 r3_3, .int .i64 r3_4, .int .i64 r3_5, .int .i64 r3_6]), evL 4 64 [] (fun s => .agg #[.slice (s5 2).A r3_0.length (s5 2).c, .int .i64 r3_1, .int .i64 r3_2, .int .i64 r3_3, .int .i64 r3_4, .int .i64 r3_5, .int .i64 r3_6]), evC 5 (some 65) [] (fun s x => .bool true) (fun s x => []), evP 6 66 [] (fun s => .bool false), evP 7 67 [] (fun s => .bool false), evP 8 68 [] (fun s => .bool false), evL 9 69 [] (fun s => .agg #[.int .i64 r3_7, .int .i64 r3_8, .int .i64 r3_9, .int .i64 r3_10]), evL 10 70 [] (fun s => .agg #[.int .i64 r3_7, .int .i64 r3_8, .int .i64 r3_9, .int .i64 r3_10]), evC 11 (some 71) [] (fun s x => .bool true) (fun s x => []), evP 12 72 [] (fun s => .bool false), evP 13 73 [] (fun s => .bool false), evP 14 74 [] (fun s => .bool false), evP 15 75 [] (fun s => .bool r3_11), evP 16 76 [] (fun s => .bool r3_11), evP 17 77 [] (fun s => .bool false), evP 18 78 [] (fun s => .bool false)] [] false 19 rfl rfl (by kernel_rfl) rfl (fun _ => rfl) ?aF HS11.out ?hs ?_
  rotate_left 1
  case aF => intro s; simp only [putE, EvT.val, Act.put, setIfInBounds_toArray, set_cons_zero, set_cons_succ]; rfl
  case hs => exact ⟨pu rfl, pb (q := .lss) Nb_r8_0 rfl, pu rfl, ld rfl 2 (fun s => rfl) (fun s w h => by have h0 := h 0 _ rfl; have h1 := h 1 _ rfl; have h2 := h 2 _ rfl; have h3 := h 3 _ rfl; have h4 := h 4 _ rfl; have h5 := h 5 _ rfl; have h6 := h 6 _ rfl; clear h; go_simp; try rfl), ld rfl 8 (fun s => rfl) (fun s w h => by have h0 := h 0 _ rfl; have h1 := h 1 _ rfl; have h2 := h 2 _ rfl; have h3 := h 3 _ rfl; have h4 := h 4 _ rfl; have h5 := h 5 _ rfl; have h6 := h 6 _ rfl; clear h; go_simp; try rfl), cl rfl (fun s => #[.agg #[.slice (s7 1).A r3_0.length (s7 1).c, .int .i64 r3_1, .int .i64 r3_2, .int .i64 r3_3, .int .i64 r3_4, .int .i64 r3_5, .int .i64 r3_6], .agg #[.slice (s5 2).A r3_0.length (s5 2).c, .int .i64 r3_1, .int .i64 r3_2, .int .i64 r3_3, .int .i64 r3_4, .int .i64 r3_5, .int .i64 r3_6]]) Try.func42 (fun s w1 h => (laws_eqGap.calls _ _ _ _ _ _ _ _ _ _ _ _ _ _ _ _ _ _ _ _ _ (Kd.S_reads' (h.get 1 rfl)).2.2 (Kd.S_reads' (h.get 1 rfl)).2.1 (Kd.S_reads' (h.get 7 rfl)).2.2 (Kd.S_reads' (h.get 7 rfl)).2.1 H5.out).mono (by rintro e w2 ⟨rfl, hb⟩; exact fin0 hb)), pu rfl, pu rfl, pu rfl, ld rfl 3 (fun s => rfl) (fun s w h => by have h0 := h 0 _ rfl; have h1 := h 1 _ rfl; have h2 := h 2 _ rfl; have h3 := h 3 _ rfl; clear h; go_simp; try rfl), ld rfl 9 (fun s => rfl) (fun s w h => by have h0 := h 0 _ rfl; have h1 := h 1 _ rfl; have h2 := h 2 _ rfl; have h3 := h 3 _ rfl; clear h; go_simp; try rfl), cl rfl (fun s => #[.agg #[.int .i64 r3_7, .int .i64 r3_8, .int .i64 r3_9, .int .i64 r3_10], .agg #[.int .i64 r3_7, .int .i64 r3_8, .int .i64 r3_9, .int .i64 r3_10]]) Try.func43 (fun s w1 h => (laws_eqWindow.calls _ _ _ _ _ _ _ _ _ _ H6.out).mono (by rintro e w2 ⟨rfl, hb⟩; exact fin0 hb)), pu rfl, pu rfl, pu rfl, pu rfl, pu rfl, pn Try.underlying4 rfl, pu rfl, trivial⟩
  intro s12 w12 h; have HS12 := Aside0.mk h; clear h HS11
  refine tl0 ?_
  refine wp_cond_false rfl ?_
  refine wp_skip ?_
  refine thN ?_
  refine reg0 (aF := ?_) [] [0] false 1 rfl rfl (by kernel_rfl) rfl (fun _ => rfl) ?aF HS12.out ?hs ?_
  rotate_left 1
  case aF => intro s; simp only [putE, EvT.val, Act.put, setIfInBounds_toArray, set_cons_zero, set_cons_succ]; rfl
  case hs => exact trivial
  intro s13 w13 h; have HS13 := Aside0.mk h; clear h HS12
  refine tlP (v := .int .i64 1) 12 rfl ?_
  refine tl0 ?_
  refine reg (aF := ?_) (nw := ?_) [evL 0 79 [] (fun s => .agg #[.slice (s7 1).A r3_0.length (s7 1).c, .int .i64 r3_1, .int .i64 r3_2, .int .i64 r3_3, .int .i64 r3_4, .int .i64 r3_5, .int .i64 r3_6]), evP 1 80 [] (fun s => .int .i64 1), evW 2 (some 81) [] (fun s => .int .i64 r9_0)] [3] [⟨1, 2, [], fun s => ⟨(s7 1).lo, (s7 1).hi, fun w_ => Kd.S (Kd.slice 5 (Kd.int .u8)) 119 w_ w.heap.size (fun k_ => (s7 1).lo ≤ k_ ∧ k_ < (s7 1).hi) (.slice (s7 1).A r3_0.length (s7 1).c) r9_1⟩⟩] false 4 rfl rfl (by kernel_rfl) rfl ((mf1 mf0)) ?aF ?nw HS13.out ?hs ?_
  rotate_left 2
  case aF => intro s; simp only [putE, EvT.val, Act.put, setIfInBounds_toArray, set_cons_zero, set_cons_succ]; rfl
  case nw => intro s; simp only [thA, bsA, List.nil_append, List.cons_append, List.append_nil, if_true, if_false, Nat.reduceLT, set_cons_zero, set_cons_succ]; rfl
  case hs => exact ⟨ld rfl 2 (fun s => rfl) (fun s w h => by have h0 := h 0 _ rfl; have h1 := h 1 _ rfl; have h2 := h 2 _ rfl; have h3 := h 3 _ rfl; have h4 := h 4 _ rfl; have h5 := h 5 _ rfl; have h6 := h 6 _ rfl; clear h; go_simp; try rfl), pu rfl, cw rfl 0 1 rfl rfl (fun s => #[.agg #[.slice (s7 1).A r3_0.length (s7 1).c, .int .i64 r3_1, .int .i64 r3_2, .int .i64 r3_3, .int .i64 r3_4, .int .i64 r3_5, .int .i64 r3_6], .int .i64 1]) Try.func44 (fun s w1 h => (laws_markGap.calls (fun k_ => (s7 1).lo ≤ k_ ∧ k_ < (s7 1).hi) _ _ _ _ _ _ _ _ _ _ _ w _ h.hb (h.get 0 rfl) H9.out).mono (by rintro e w2 ⟨rfl, ho0, hb, hk⟩; exact ⟨rfl, Wrote.of 0 h rfl hb hk (fun w_ ha => S_again ho0 ha)⟩)), trivial⟩
  intro s14 w14 h; have HS14 := Aside0.mk h; clear h HS13
  refine tlP (v := .int .i64 r9_0) 12 rfl ?_
  refine tl0 ?_
  refine reg0 (aF := ?_) [] [0] false 1 rfl rfl (by kernel_rfl) rfl (fun _ => rfl) ?aF HS14.out ?hs ?_
  rotate_left 1
  case aF => intro s; simp only [putE, EvT.val, Act.put, setIfInBounds_toArray, set_cons_zero, set_cons_succ]; rfl
  case hs => exact trivial
  intro s15 w15 h; have HS15 := Aside0.mk h; clear h HS14
  refine tlP (v := .int .i64 1) 13 rfl ?_
  refine tl0 ?_
  refine reg0 (aF := ?_) [evL 0 82 [] (fun s => .agg #[.slice (s7 1).A r3_0.length (s7 1).c, .int .i64 r3_1, .int .i64 r3_2, .int .i64 r3_3, .int .i64 r3_4, .int .i64 r3_5, .int .i64 r3_6]), evP 1 83 [] (fun s => .int .i64 1), evC 2 (some 84) [] (fun s x => .int .i64 r9_0) (fun s x => [])] [3] false 4 rfl rfl (by kernel_rfl) rfl (fun _ => rfl) ?aF HS15.out ?hs ?_
  rotate_left 1
  case aF => intro s; simp only [putE, EvT.val, Act.put, setIfInBounds_toArray, set_cons_zero, set_cons_succ]; rfl
  case hs => exact ⟨ld rfl 2 (fun s => rfl) (fun s w h => by have h0 := h 0 _ rfl; have h1 := h 1 _ rfl; have h2 := h 2 _ rfl; have h3 := h 3 _ rfl; have h4 := h 4 _ rfl; have h5 := h 5 _ rfl; have h6 := h 6 _ rfl; clear h; go_simp; try rfl), pu rfl, cl rfl (fun s => #[.agg #[.slice (s7 1).A r3_0.length (s7 1).c, .int .i64 r3_1, .int .i64 r3_2, .int .i64 r3_3, .int .i64 r3_4, .int .i64 r3_5, .int .i64 r3_6], .int .i64 1]) Try.func45 (fun s w1 h => by rw [show r3_0.length = r9_1.length from (Kd.S_reads' (h.get 1 rfl)).1]; exact (laws_heldGap.calls _ _ _ _ _ _ _ _ _ _ _ _ _ ((Kd.S_reads' (h.get 1 rfl)).1 ▸ (Kd.S_reads' (h.get 1 rfl)).2.2) ((Kd.S_reads' (h.get 1 rfl)).1 ▸ (Kd.S_reads' (h.get 1 rfl)).2.1) H10.out).mono (by rintro e w2 ⟨rfl, hb⟩; exact fin0 hb)), trivial⟩
  intro s16 w16 h; have HS16 := Aside0.mk h; clear h HS15
  refine tlP (v := .int .i64 r9_0) 13 rfl ?_
  refine tl0 ?_
  refine wp_seq ?_
  refine reg0 (aF := ?_) [evP 0 85 [] (fun s => .int .i64 r9_0), evP 1 86 [] (fun s => .bool false)] [] false 2 rfl rfl (by kernel_rfl) rfl (fun _ => rfl) ?aF HS16.out ?hs ?_
  rotate_left 1
  case aF => intro s; simp only [putE, EvT.val, Act.put, setIfInBounds_toArray, set_cons_zero, set_cons_succ]; rfl
  case hs => exact ⟨pu rfl, pb (q := .lss) Nb_r9_0 rfl, trivial⟩
  intro s17 w17 h; have HS17 := Aside0.mk h; clear h HS16
  refine tl0 ?_
  refine wp_cond_false rfl ?_
  refine wp_skip ?_
  refine thN ?_
  refine wp_seq ?_
  refine reg0 (aF := ?_) [evP 0 87 [] (fun s => .int .i64 r9_0), evP 1 88 [] (fun s => .int .i64 r9_0), evP 2 89 [] (fun s => .bool false)] [] false 3 rfl rfl (by kernel_rfl) rfl (fun _ => rfl) ?aF HS17.out ?hs ?_
  rotate_left 1
  case aF => intro s; simp only [putE, EvT.val, Act.put, setIfInBounds_toArray, set_cons_zero, set_cons_succ]; rfl
  case hs => exact ⟨pu rfl, pu rfl, pb (q := .neq) (bne_self_eq_false _) rfl, trivial⟩
  intro s18 w18 h; have HS18 := Aside0.mk h; clear h HS17
  refine tl0 ?_
  refine wp_cond_false rfl ?_
  refine wp_skip ?_
  refine thN ?_
  refine reg (aF := ?_) (nw := ?_) [evL 0 91 [] (fun s => .agg #[.slice A0_0 l0_0.length c0_0, .int .i64 a0_1, .int .i64 a0_2, .int .i64 a0_3, .int .i64 a0_4, .int .i64 a0_5, .int .i64 a0_6]), evC 1 (some 92) [] (fun s x => .agg #[.slice x.A r2_0.length x.c, .int .i64 r2_1, .int .i64 r2_2, .int .i64 r2_3, .int .i64 r2_4, .int .i64 r2_5, .int .i64 r2_6]) (fun s x => [rowS (Kd.slice 5 (Kd.int .u8)) 119 w x.lo x.hi x.A x.c r2_0]), evC 2 (some 93) [1] (fun s x => .tuple #[.agg #[.slice x.A r3_0.length x.c, .int .i64 r3_1, .int .i64 r3_2, .int .i64 r3_3, .int .i64 r3_4, .int .i64 r3_5, .int .i64 r3_6], .agg #[.int .i64 r3_7, .int .i64 r3_8, .int .i64 r3_9, .int .i64 r3_10], .bool r3_11]) (fun s x => [rowS (Kd.slice 5 (Kd.int .u8)) 119 w x.lo x.hi x.A x.c r3_0]), evP 3 90 [2] (fun s => .tuple #[.agg #[.slice (s 2).A r3_0.length (s 2).c, .int .i64 r3_1, .int .i64 r3_2, .int .i64 r3_3, .int .i64 r3_4, .int .i64 r3_5, .int .i64 r3_6], .agg #[.int .i64 r3_7, .int .i64 r3_8, .int .i64 r3_9, .int .i64 r3_10], .bool r3_11]), evP 4 94 [2] (fun s => .agg #[.slice (s 2).A r3_0.length (s 2).c, .int .i64 r3_1, .int .i64 r3_2, .int .i64 r3_3, .int .i64 r3_4, .int .i64 r3_5, .int .i64 r3_6]), evP 5 95 [] (fun s => .agg #[.int .i64 r3_7, .int .i64 r3_8, .int .i64 r3_9, .int .i64 r3_10]), evP 6 96 [] (fun s => .bool r3_11), evB 7 14 [] 69 (fun s => #[.slice none 0 0, .int .i64 0, .int .i64 0, .int .i64 0, .int .i64 0, .int .i64 0, .int .i64 0]) 9 [2] (fun s => #[.slice (s 2).A r3_0.length (s 2).c, .int .i64 r3_1, .int .i64 r3_2, .int .i64 r3_3, .int .i64 r3_4, .int .i64 r3_5, .int .i64 r3_6]), evB 8 15 [] 48 (fun s => #[.int .i64 0, .int .i64 0, .int .i64 0, .int .i64 0]) 10 [] (fun s => #[.int .i64 r3_7, .int .i64 r3_8, .int .i64 r3_9, .int .i64 r3_10]), evS 9, evS 10] [11] [] false 12 rfl rfl (by kernel_rfl) rfl (mf0) ?aF ?nw HS18.out ?hs ?_
  rotate_left 2
  case aF => intro s; simp only [putE, EvT.val, Act.put, setIfInBounds_toArray, set_cons_zero, set_cons_succ]; rfl
  case nw => intro s; simp only [thA, bsA, List.nil_append, List.cons_append, List.append_nil, if_true, if_false, Nat.reduceLT, set_cons_zero, set_cons_succ]; rfl
  case hs => exact ⟨ld rfl 10 (fun s => rfl) (fun s w h => by have h0 := h 0 _ rfl; have h1 := h 1 _ rfl; have h2 := h 2 _ rfl; have h3 := h 3 _ rfl; have h4 := h 4 _ rfl; have h5 := h 5 _ rfl; have h6 := h 6 _ rfl; clear h; go_simp; try rfl), cl rfl (fun s => #[.agg #[.slice A0_0 l0_0.length c0_0, .int .i64 a0_1, .int .i64 a0_2, .int .i64 a0_3, .int .i64 a0_4, .int .i64 a0_5, .int .i64 a0_6]]) Try.func40 (fun s w1 h => (laws_toGap.calls _ _ _ _ _ _ _ _ _ _ _ _ _ _ _ _ _ (Kd.C_below HR0_0.out h.hb) HC0_0.out H2.out).mono (by rintro e w2 ⟨v0_, rfl, ho0, hb⟩; obtain ⟨x, rfl, hx⟩ := fin_S ho0 hb h.hb.size; exact ⟨x, rfl, hx⟩)), cl rfl (fun s => #[.agg #[.slice (s 1).A r2_0.length (s 1).c, .int .i64 r2_1, .int .i64 r2_2, .int .i64 r2_3, .int .i64 r2_4, .int .i64 r2_5, .int .i64 r2_6]]) Try.func41 (fun s w1 h => (impl_CloseGap.calls _ _ _ _ _ _ _ _ _ _ _ _ _ _ _ _ _ _ _ _ _ _ (Kd.S_reads' (h.get 0 rfl)).2.2 (Kd.S_reads' (h.get 0 rfl)).2.1 H4.out).mono (by rintro e w2 ⟨v0_, rfl, ho0, hb⟩; obtain ⟨x, rfl, hx⟩ := fin_S ho0 hb h.hb.size; exact ⟨x, rfl, hx⟩)), pu rfl, pu rfl, pu rfl, pu rfl, bv rfl (fun s w => by go_simp; try rfl), bv rfl (fun s w => by go_simp; try rfl), st rfl 7 0 (fun s => [.slice (s 2).A r3_0.length (s 2).c, .int .i64 r3_1, .int .i64 r3_2, .int .i64 r3_3, .int .i64 r3_4, .int .i64 r3_5, .int .i64 r3_6]) rfl (fun s w h hf => by have h0 := h 0 _ rfl; have f0 := hf 0; have h1 := h 1 _ rfl; have f1 := hf 1; have h2 := h 2 _ rfl; have f2 := hf 2; have h3 := h 3 _ rfl; have f3 := hf 3; have h4 := h 4 _ rfl; have f4 := hf 4; have h5 := h 5 _ rfl; have f5 := hf 5; have h6 := h 6 _ rfl; have f6 := hf 6; clear h hf; go_simp; try rfl), st rfl 8 0 (fun s => [.int .i64 r3_7, .int .i64 r3_8, .int .i64 r3_9, .int .i64 r3_10]) rfl (fun s w h hf => by have h0 := h 0 _ rfl; have f0 := hf 0; have h1 := h 1 _ rfl; have f1 := hf 1; have h2 := h 2 _ rfl; have f2 := hf 2; have h3 := h 3 _ rfl; have f3 := hf 3; clear h hf; go_simp; try rfl), trivial⟩
  intro s19 w19 h; have HS19 := Aside0.mk h; clear h HS18
  refine tlP (v := .bool r3_11) 16 rfl ?_
  refine tl0 ?_
  refine wp_seq ?_
  refine reg0 (aF := ?_) [evL 0 97 [] (fun s => .agg #[.slice (s19 2).A r3_0.length (s19 2).c, .int .i64 r3_1, .int .i64 r3_2, .int .i64 r3_3, .int .i64 r3_4, .int .i64 r3_5, .int .i64 r3_6]), evL 1 98 [] (fun s => .agg #[.slice (s5 2).A r3_0.length (s5 2).c, .int .i64 r3_1, .int .i64 r3_2, .int .i64 r3_3, .int .i64 r3_4, .int .i64 r3_5, .int .i64 r3_6]), evC 2 (some 99) [] (fun s x => .bool true) (fun s x => []), evP 3 100 [] (fun s => .bool false), evP 4 101 [] (fun s => .bool false), evL 5 102 [] (fun s => .agg #[.int .i64 r3_7, .int .i64 r3_8, .int .i64 r3_9, .int .i64 r3_10]), evL 6 103 [] (fun s => .agg #[.int .i64 r3_7, .int .i64 r3_8, .int .i64 r3_9, .int .i64 r3_10]), evC 7 (some 104) [] (fun s x => .bool true) (fun s x => []), evP 8 105 [] (fun s => .bool false), evP 9 106 [] (fun s => .bool false), evP 10 107 [] (fun s => .bool false), evP 11 108 [] (fun s => .bool r3_11), evP 12 109 [] (fun s => .bool r3_11), evP 13 110 [] (fun s => .bool false), evP 14 111 [] (fun s => .bool false)] [] false 15 rfl rfl (by kernel_rfl) rfl (fun _ => rfl) ?aF HS19.out ?hs ?_
  rotate_left 1
  case aF => intro s; simp only [putE, EvT.val, Act.put, setIfInBounds_toArray, set_cons_zero, set_cons_succ]; rfl
  case hs => exact ⟨ld rfl 2 (fun s => rfl) (fun s w h => by have h0 := h 0 _ rfl; have h1 := h 1 _ rfl; have h2 := h 2 _ rfl; have h3 := h 3 _ rfl; have h4 := h 4 _ rfl; have h5 := h 5 _ rfl; have h6 := h 6 _ rfl; clear h; go_simp; try rfl), ld rfl 12 (fun s => rfl) (fun s w h => by have h0 := h 0 _ rfl; have h1 := h 1 _ rfl; have h2 := h 2 _ rfl; have h3 := h 3 _ rfl; have h4 := h 4 _ rfl; have h5 := h 5 _ rfl; have h6 := h 6 _ rfl; clear h; go_simp; try rfl), cl rfl (fun s => #[.agg #[.slice (s19 2).A r3_0.length (s19 2).c, .int .i64 r3_1, .int .i64 r3_2, .int .i64 r3_3, .int .i64 r3_4, .int .i64 r3_5, .int .i64 r3_6], .agg #[.slice (s5 2).A r3_0.length (s5 2).c, .int .i64 r3_1, .int .i64 r3_2, .int .i64 r3_3, .int .i64 r3_4, .int .i64 r3_5, .int .i64 r3_6]]) Try.func42 (fun s w1 h => (laws_eqGap.calls _ _ _ _ _ _ _ _ _ _ _ _ _ _ _ _ _ _ _ _ _ (Kd.S_reads' (h.get 1 rfl)).2.2 (Kd.S_reads' (h.get 1 rfl)).2.1 (Kd.S_reads' (h.get 11 rfl)).2.2 (Kd.S_reads' (h.get 11 rfl)).2.1 H5.out).mono (by rintro e w2 ⟨rfl, hb⟩; exact fin0 hb)), pu rfl, pu rfl, ld rfl 3 (fun s => rfl) (fun s w h => by have h0 := h 0 _ rfl; have h1 := h 1 _ rfl; have h2 := h 2 _ rfl; have h3 := h 3 _ rfl; clear h; go_simp; try rfl), ld rfl 13 (fun s => rfl) (fun s w h => by have h0 := h 0 _ rfl; have h1 := h 1 _ rfl; have h2 := h 2 _ rfl; have h3 := h 3 _ rfl; clear h; go_simp; try rfl), cl rfl (fun s => #[.agg #[.int .i64 r3_7, .int .i64 r3_8, .int .i64 r3_9, .int .i64 r3_10], .agg #[.int .i64 r3_7, .int .i64 r3_8, .int .i64 r3_9, .int .i64 r3_10]]) Try.func43 (fun s w1 h => (laws_eqWindow.calls _ _ _ _ _ _ _ _ _ _ H6.out).mono (by rintro e w2 ⟨rfl, hb⟩; exact fin0 hb)), pu rfl, pu rfl, pu rfl, pu rfl, pu rfl, pn Try.underlying4 rfl, pu rfl, trivial⟩
  intro s20 w20 h; have HS20 := Aside0.mk h; clear h HS19
  refine tl0 ?_
  refine wp_cond_false rfl ?_
  refine wp_skip ?_
  refine thN ?_
  refine reg0 (aF := ?_) [] [0] false 1 rfl rfl (by kernel_rfl) rfl (fun _ => rfl) ?aF HS20.out ?hs ?_
  rotate_left 1
  case aF => intro s; simp only [putE, EvT.val, Act.put, setIfInBounds_toArray, set_cons_zero, set_cons_succ]; rfl
  case hs => exact trivial
  intro s21 w21 h; have HS21 := Aside0.mk h; clear h HS20
  refine tlP (v := .int .i64 1) 13 rfl ?_
  refine tl0 ?_
  refine reg0 (aF := ?_) [evL 0 112 [] (fun s => .agg #[.slice (s7 1).A r3_0.length (s7 1).c, .int .i64 r3_1, .int .i64 r3_2, .int .i64 r3_3, .int .i64 r3_4, .int .i64 r3_5, .int .i64 r3_6]), evP 1 113 [] (fun s => .int .i64 1), evC 2 (some 114) [] (fun s x => .int .i64 r9_0) (fun s x => [])] [3] false 4 rfl rfl (by kernel_rfl) rfl (fun _ => rfl) ?aF HS21.out ?hs ?_
  rotate_left 1
  case aF => intro s; simp only [putE, EvT.val, Act.put, setIfInBounds_toArray, set_cons_zero, set_cons_succ]; rfl
  case hs => exact ⟨ld rfl 6 (fun s => rfl) (fun s w h => by have h0 := h 0 _ rfl; have h1 := h 1 _ rfl; have h2 := h 2 _ rfl; have h3 := h 3 _ rfl; have h4 := h 4 _ rfl; have h5 := h 5 _ rfl; have h6 := h 6 _ rfl; clear h; go_simp; try rfl), pu rfl, cl rfl (fun s => #[.agg #[.slice (s7 1).A r3_0.length (s7 1).c, .int .i64 r3_1, .int .i64 r3_2, .int .i64 r3_3, .int .i64 r3_4, .int .i64 r3_5, .int .i64 r3_6], .int .i64 1]) Try.func45 (fun s w1 h => by rw [show r3_0.length = r9_1.length from (Kd.S_reads' (h.get 5 rfl)).1]; exact (laws_heldGap.calls _ _ _ _ _ _ _ _ _ _ _ _ _ ((Kd.S_reads' (h.get 5 rfl)).1 ▸ (Kd.S_reads' (h.get 5 rfl)).2.2) ((Kd.S_reads' (h.get 5 rfl)).1 ▸ (Kd.S_reads' (h.get 5 rfl)).2.1) H10.out).mono (by rintro e w2 ⟨rfl, hb⟩; exact fin0 hb)), trivial⟩
  intro s22 w22 h; have HS22 := Aside0.mk h; clear h HS21
  refine tlP (v := .int .i64 r9_0) 13 rfl ?_
  refine tl0 ?_
  refine wp_seq ?_
  refine reg0 (aF := ?_) [evP 0 115 [] (fun s => .int .i64 r9_0), evP 1 116 [] (fun s => .bool false)] [] false 2 rfl rfl (by kernel_rfl) rfl (fun _ => rfl) ?aF HS22.out ?hs ?_
  rotate_left 1
  case aF => intro s; simp only [putE, EvT.val, Act.put, setIfInBounds_toArray, set_cons_zero, set_cons_succ]; rfl
  case hs => exact ⟨pu rfl, pb (q := .lss) Nb_r9_0 rfl, trivial⟩
  intro s23 w23 h; have HS23 := Aside0.mk h; clear h HS22
  refine tl0 ?_
  refine wp_cond_false rfl ?_
  refine wp_skip ?_
  refine thN ?_
  refine wp_seq ?_
  refine reg0 (aF := ?_) [evP 0 117 [] (fun s => .int .i64 r9_0), evP 1 118 [] (fun s => .int .i64 r9_0), evP 2 119 [] (fun s => .bool false)] [] false 3 rfl rfl (by kernel_rfl) rfl (fun _ => rfl) ?aF HS23.out ?hs ?_
  rotate_left 1
  case aF => intro s; simp only [putE, EvT.val, Act.put, setIfInBounds_toArray, set_cons_zero, set_cons_succ]; rfl
  case hs => exact ⟨pu rfl, pu rfl, pb (q := .neq) (bne_self_eq_false _) rfl, trivial⟩
  intro s24 w24 h; have HS24 := Aside0.mk h; clear h HS23
  refine tl0 ?_
  refine wp_cond_false rfl ?_
  refine wp_skip ?_
  refine thN ?_
  refine reg0 (aF := ?_) [] [0] false 1 rfl rfl (by kernel_rfl) rfl (fun _ => rfl) ?aF HS24.out ?hs ?_
  rotate_left 1
  case aF => intro s; simp only [putE, EvT.val, Act.put, setIfInBounds_toArray, set_cons_zero, set_cons_succ]; rfl
  case hs => exact trivial
  intro s25 w25 h; have HS25 := Aside0.mk h; clear h HS24
  refine tlP (v := .bool true) 2 rfl ?_
  refine tl0 ?_
  refine wp_ret ?_
  go_ret
  exact ⟨by first | rfl | simp, HS25.out.hb⟩
end Go.Proofs.Ytoomjghabiojkaa.P


