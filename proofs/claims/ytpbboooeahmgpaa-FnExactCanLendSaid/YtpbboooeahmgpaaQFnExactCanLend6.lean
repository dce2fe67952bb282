/- For all arguments, impl.CanLend answers what spec.CanLend answers, leaves its arguments alone, and shares nothing of what it returns.
   The row of the law FnExactCanLend, out of its walk. Conditions: none. -/
import Derived.Test.YtpbboooeahmgpaaQFnExactCanLend5
import Derived.Test.YtpbboooeahmgpaaRows
import Derived.WalkKit
import Derived.ProofKit
import Derived.OpenShut
import Derived.ShutString
import Derived.ChangeOld
import Derived.Below
import Derived.SizedLaws
namespace Go.Proofs.Ytpbboooeahmgpaa.P
open Go.RowKit Go.Proofs.YtpbboooeahmgpaaW.PrintWords Go.Proofs.YtpbboooeahmgpaaW.PrintLast Go.Proofs.YtpbboooeahmgpaaW.PrintMore
attribute [local go_sem] max2_int min2_int max_two min_two max_three min_three max_four min_four   -- for this text's walks alone
set_option linter.unusedVariables false
set_option linter.unusedSimpArgs false

/-! ### impl_CanLend: function 43 -/
def impl_CanLend.j0 : Nat → List (SimplLoan) → Bool → Int → Int → Int → Int → Bool → Int → Int → Option (Bool × Bool)
  | 0, _, _, _, _, _, _, _, _, _ => none
  | k + 1, x1, x28, x782000, x782001, x782002, x782003, x782004, x782005, x782006 => if x28 = true then (some (false, false)) else ((slices_Clone_impl_Loan_impl_Loan.f x1).bind fun t788 => ((some (([(⟨(⟨x782000, x782001, x782002, x782003⟩ : SimplWindow), x782004, x782005, x782006⟩ : SimplLoan)] : List (SimplLoan)) : List (SimplLoan))).bind fun y791 => (if t788.length + y791.length < 2513169434916 then ((impl_areClean.f k (t788 ++ y791)).bind fun t797 => (some (t797, true))) else (none))))
def impl_CanLend.f (k : Nat) (l0_0 : List (List Int)) (l1 : List (SimplLoan)) (a2_0 : Int) (a2_1 : Int) (a2_2 : Int) (a2_3 : Int) (a2_4 : Bool) (a2_5 : Int) (a2_6 : Int) : Option (Bool × Bool) := (impl_areLoans.f l0_0 l1).bind fun t782 => (if t782 = true then ((impl_areAnyLoans.f l0_0 (([(⟨(⟨a2_0, a2_1, a2_2, a2_3⟩ : SimplWindow), a2_4, a2_5, a2_6⟩ : SimplLoan)] : List (SimplLoan)))).bind fun t786 => (if t786 = true then (if (l1.length : Int) = 8 then (impl_CanLend.j0 k l1 true a2_0 a2_1 a2_2 a2_3 a2_4 a2_5 a2_6) else ((impl_areClean.f k l1).bind fun t787 => (impl_CanLend.j0 k l1 (!t787) a2_0 a2_1 a2_2 a2_3 a2_4 a2_5 a2_6))) else (impl_CanLend.j0 k l1 true a2_0 a2_1 a2_2 a2_3 a2_4 a2_5 a2_6))) else (impl_CanLend.j0 k l1 true a2_0 a2_1 a2_2 a2_3 a2_4 a2_5 a2_6))
def impl_CanLend.T3 : Bool × List (List Nat × List Nat) := (true, [([], []), ([0], [0]), ([], []), ([2], [2]), ([1, 3, 1], [1, 3]), ([4, 4], [4]), ([5, 5, 0, 1, 2, 3, 4, 5], [5]), ([6, 0, 1, 2, 3, 4, 5, 6], [])])
def impl_CanLend.B3 : List Nat := [0, 1, 0, 4, 15, 31, 63, 127]
theorem impl_CanLend.tab3 : rtab .any (opsOf Try.f43 3) = impl_CanLend.T3 := by kernel_rfl
theorem impl_CanLend.bits3 : waitsOk impl_CanLend.T3.2 impl_CanLend.B3 = true := by kernel_rfl
set_option maxHeartbeats 8000000 in
set_option maxRecDepth 100000 in
theorem impl_CanLend.calls (k : Nat) (A0_0 : Option Addr) (c0_0 : Nat) (l0_0 : List (List Int)) (A1 : Option Addr) (c1 : Nat) (l1 : List (SimplLoan)) (a2_0 : Int) (a2_1 : Int) (a2_2 : Int) (a2_3 : Int) (a2_4 : Bool) (a2_5 : Int) (a2_6 : Int) (r1 : Bool) (r2 : Bool) (w : World) (hr0_0 : Kd.C (Kd.slice 5 (Kd.int .u8)) w A0_0 l0_0.length l0_0) (hc0_0 : l0_0.length ≤ c0_0) (hr1 : Kd.C kimplLoan w A1 l1.length l1) (hc1 : l1.length ≤ c1) (h : impl_CanLend.f k l0_0 l1 a2_0 a2_1 a2_2 a2_3 a2_4 a2_5 a2_6 = some (r1, r2)) :
    Calls Try.prog 43 #[.agg #[.slice A0_0 l0_0.length c0_0], .slice A1 l1.length c1, .agg #[.int .i64 a2_0, .int .i64 a2_1, .int .i64 a2_2, .int .i64 a2_3, .bool a2_4, .int .i64 a2_5, .int .i64 a2_6]] w fun e w' => e = .returned (.tuple #[.bool r1, .bool r2]) ∧ Below w.heap.size w w' := by
  have hu26 := Try.underlying26
  have hu30 := Try.underlying30
  have HR0_0 := Aside0.mk hr0_0
  have HC0_0 := Aside0.mk hc0_0
  clear hr0_0 hc0_0
  have HR1 := Aside0.mk hr1
  have HC1 := Aside0.mk hc1
  clear hr1 hc1
  have HB := Aside0.mk (Below.refl w.heap.size w)
  have H : ((impl_areLoans.f l0_0 l1).bind fun t782 => (if t782 = true then ((impl_areAnyLoans.f l0_0 (([(⟨(⟨a2_0, a2_1, a2_2, a2_3⟩ : SimplWindow), a2_4, a2_5, a2_6⟩ : SimplLoan)] : List (SimplLoan)))).bind fun t786 => (if t786 = true then (if (l1.length : Int) = 8 then (impl_CanLend.j0 k l1 true a2_0 a2_1 a2_2 a2_3 a2_4 a2_5 a2_6) else ((impl_areClean.f k l1).bind fun t787 => (impl_CanLend.j0 k l1 (!t787) a2_0 a2_1 a2_2 a2_3 a2_4 a2_5 a2_6))) else (impl_CanLend.j0 k l1 true a2_0 a2_1 a2_2 a2_3 a2_4 a2_5 a2_6))) else (impl_CanLend.j0 k l1 true a2_0 a2_1 a2_2 a2_3 a2_4 a2_5 a2_6))) = some (r1, r2) := h
  clear h
  have HC4 := Aside0.mk H
  clear H
  go_enter Try.func43, Try.ntmps43
  go_upto_region 1 with (first | ((with_reducible refine gate_dst (N := 3) rfl ?_); (try (refine gate_guard (by rfl) ?_; dsimp only)); refine box_event ?hg (N := 3) ?hd (cs := #[.slice A0_0 l0_0.length c0_0]) (t := 26) ?hr ?_; (case hd => rfl); (case hg => rfl); (case hr => first | (go_simp; done) | (go_simp; rfl)); intro gb780 hg w5 hbox hb; have n0_ := Aside0.mk (below_step (by repeat (first | (with_reducible first | exact HB.out | apply below_alloc | apply pw_below_drewN | apply below_drew1) | exact HB.out)) hb); have n1_ := Aside0.mk (hbox); have n2_ := Aside0.mk ((by rw [hg]; exact (below_size (by repeat (first | (with_reducible first | exact HB.out | apply below_alloc | apply pw_below_drewN | apply below_drew1) | exact HB.out))) : w.heap.size ≤ gb780)); have n3_ := Aside0.mk ((by rw [hg]; exact (below_size (by repeat (first | (with_reducible first | exact HB.out | apply below_alloc | apply pw_below_drewN | apply below_drew1) | exact HB.out))) : w.heap.size ≤ gb780)); clear HB; have HB := n0_; have BK780 := n1_; have GW780 := n2_; have GE780 := n3_; clear n0_ n1_ n2_ n3_; clear hb hbox hg) | ((with_reducible refine gate_dst (N := 5) rfl ?_); (try (refine gate_guard (by rfl) ?_; dsimp only)); refine box_event ?hg (N := 5) ?hd (cs := #[.int .i64 a2_0, .int .i64 a2_1, .int .i64 a2_2, .int .i64 a2_3, .bool a2_4, .int .i64 a2_5, .int .i64 a2_6]) (t := 30) ?hr ?_; (case hd => rfl); (case hg => rfl); (case hr => first | (go_simp; done) | (go_simp; rfl)); intro gb781 hg w6 hbox hb; have n0_ := Aside0.mk (blk_below (g := gb780) (o := .cells #[.slice A0_0 l0_0.length c0_0] 26 (0, 0)) (by (with_reducible repeat (first | refine blk_drewN ?_ _ | refine blk_drew ?_ | refine blk_alloc ?_ _)); exact BK780.out) hb); have n1_ := Aside0.mk (below_step (by repeat (first | (with_reducible first | exact HB.out | apply below_alloc | apply pw_below_drewN | apply below_drew1 | refine below_set ?_ GE780.out) | exact HB.out)) hb); have n2_ := Aside0.mk (hbox); have n3_ := Aside0.mk ((by rw [hg]; exact (below_size (by repeat (first | (with_reducible first | exact HB.out | apply below_alloc | apply pw_below_drewN | apply below_drew1 | refine below_set ?_ GE780.out) | exact HB.out))) : w.heap.size ≤ gb781)); have n4_ := Aside0.mk ((by rw [hg]; exact (below_size (by repeat (first | (with_reducible first | exact HB.out | apply below_alloc | apply pw_below_drewN | apply below_drew1 | refine below_set ?_ GE780.out) | exact HB.out))) : w.heap.size ≤ gb781)); have n5_ := Aside0.mk ((by rw [hg]; exact Nat.ne_of_lt (blk_lt (g := gb780) (o := .cells #[.slice A0_0 l0_0.length c0_0] 26 (0, 0)) (by (with_reducible repeat (first | refine blk_drewN ?_ _ | refine blk_drew ?_ | refine blk_alloc ?_ _)); exact BK780.out)) : gb780 ≠ gb781)); have n6_ := Aside0.mk ((by rw [hg]; exact Nat.ne_of_gt (blk_lt (g := gb780) (o := .cells #[.slice A0_0 l0_0.length c0_0] 26 (0, 0)) (by (with_reducible repeat (first | refine blk_drewN ?_ _ | refine blk_drew ?_ | refine blk_alloc ?_ _)); exact BK780.out)) : gb781 ≠ gb780)); clear BK780; clear HB; have BK780 := n0_; have HB := n1_; have BK781 := n2_; have GW781 := n3_; have GE781 := n4_; have NB780_781 := n5_; have NB781_780 := n6_; clear n0_ n1_ n2_ n3_ n4_ n5_ n6_; clear hb hbox hg))
  (try simp only [Act.put, List.setIfInBounds_toArray, List.set_cons_zero, List.set_cons_succ])
  go_cut [28] (fun v28 wc => ∃ (kq : Nat) (x28_3 : Bool), v28 = .bool x28_3 ∧ Aside0 (impl_CanLend.j0 kq l1 x28_3 a2_0 a2_1 a2_2 a2_3 a2_4 a2_5 a2_6 = some (r1, r2)) ∧ Aside0 (kq ≤ k) ∧ Aside0 (wc.heap[gb780]? = some (.cells #[(.slice A0_0 l0_0.length c0_0)] 26 (0, 0))) ∧ Aside0 (wc.heap[gb781]? = some (.cells #[.int .i64 a2_0, .int .i64 a2_1, .int .i64 a2_2, .int .i64 a2_3, .bool a2_4, .int .i64 a2_5, .int .i64 a2_6] 30 (0, 0))) ∧ Aside0 (Below w.heap.size w wc))
  case first =>
    have H := HC4.out
    clear HC4
    replace H := Option.bind_eq_some_iff.mp H
    obtain ⟨t782, A70, H⟩ := H
    replace H : (if t782 = true then ((impl_areAnyLoans.f l0_0 (([(⟨(⟨a2_0, a2_1, a2_2, a2_3⟩ : SimplWindow), a2_4, a2_5, a2_6⟩ : SimplLoan)] : List (SimplLoan)))).bind fun t786 => (if t786 = true then (if (l1.length : Int) = 8 then (impl_CanLend.j0 k l1 true a2_0 a2_1 a2_2 a2_3 a2_4 a2_5 a2_6) else ((impl_areClean.f k l1).bind fun t787 => (impl_CanLend.j0 k l1 (!t787) a2_0 a2_1 a2_2 a2_3 a2_4 a2_5 a2_6))) else (impl_CanLend.j0 k l1 true a2_0 a2_1 a2_2 a2_3 a2_4 a2_5 a2_6))) else (impl_CanLend.j0 k l1 true a2_0 a2_1 a2_2 a2_3 a2_4 a2_5 a2_6)) = some (r1, r2) := H
    have A7 := Aside0.mk A70
    clear A70
    by_cases c8 : t782 = true
    · subst c8
      have H1 : ((impl_areAnyLoans.f l0_0 (([(⟨(⟨a2_0, a2_1, a2_2, a2_3⟩ : SimplWindow), a2_4, a2_5, a2_6⟩ : SimplLoan)] : List (SimplLoan)))).bind fun t786 => (if t786 = true then (if (l1.length : Int) = 8 then (impl_CanLend.j0 k l1 true a2_0 a2_1 a2_2 a2_3 a2_4 a2_5 a2_6) else ((impl_areClean.f k l1).bind fun t787 => (impl_CanLend.j0 k l1 (!t787) a2_0 a2_1 a2_2 a2_3 a2_4 a2_5 a2_6))) else (impl_CanLend.j0 k l1 true a2_0 a2_1 a2_2 a2_3 a2_4 a2_5 a2_6))) = some (r1, r2) := by rw [if_pos rfl] at H; exact H
      clear H
      have H := H1
      clear H1
      obtain ⟨y783, hy783⟩ : ∃ y_ : List (SimplLoan), y_ = (([(⟨(⟨a2_0, a2_1, a2_2, a2_3⟩ : SimplWindow), a2_4, a2_5, a2_6⟩ : SimplLoan)] : List (SimplLoan))) := ⟨_, rfl⟩
      replace H : ((impl_areAnyLoans.f l0_0 y783).bind fun t786 => (if t786 = true then (if (l1.length : Int) = 8 then (impl_CanLend.j0 k l1 true a2_0 a2_1 a2_2 a2_3 a2_4 a2_5 a2_6) else ((impl_areClean.f k l1).bind fun t787 => (impl_CanLend.j0 k l1 (!t787) a2_0 a2_1 a2_2 a2_3 a2_4 a2_5 a2_6))) else (impl_CanLend.j0 k l1 true a2_0 a2_1 a2_2 a2_3 a2_4 a2_5 a2_6))) = some (r1, r2) := by first | (rw [hy783]; with_reducible exact H) | (have H2_ := (Option.bind_some _ _).symm.trans H; rw [hy783]; with_reducible exact H2_) | (have H2_ := (Option.bind_some _ _).symm.trans H; with_reducible exact H2_) | with_reducible exact H | (rw [hy783]; exact H) | exact H
      have Ny783 := Aside0.mk hy783
      clear hy783
      replace H := Option.bind_eq_some_iff.mp H
      obtain ⟨t786, A90, H⟩ := H
      replace H : (if t786 = true then (if (l1.length : Int) = 8 then (impl_CanLend.j0 k l1 true a2_0 a2_1 a2_2 a2_3 a2_4 a2_5 a2_6) else ((impl_areClean.f k l1).bind fun t787 => (impl_CanLend.j0 k l1 (!t787) a2_0 a2_1 a2_2 a2_3 a2_4 a2_5 a2_6))) else (impl_CanLend.j0 k l1 true a2_0 a2_1 a2_2 a2_3 a2_4 a2_5 a2_6)) = some (r1, r2) := H
      have A9 := Aside0.mk A90
      clear A90
      by_cases c10 : t786 = true
      · subst c10
        have H1 : (if (l1.length : Int) = 8 then (impl_CanLend.j0 k l1 true a2_0 a2_1 a2_2 a2_3 a2_4 a2_5 a2_6) else ((impl_areClean.f k l1).bind fun t787 => (impl_CanLend.j0 k l1 (!t787) a2_0 a2_1 a2_2 a2_3 a2_4 a2_5 a2_6))) = some (r1, r2) := by rw [if_pos rfl] at H; exact H
        clear H
        have H := H1
        clear H1
        by_cases c11 : (l1.length : Int) = 8
        · rw [if_pos c11] at H
          have c11b0 : ((l1.length : Int) == 8) = true := beq_iff_eq.mpr c11
          have c11b1 : ((l1.length : Int) != 8) = false := bne_eq_false_iff_eq.mpr c11
          clear c11
          (first | rw [c11b0] | (simp only [i64_w, i32_w]; rw [c11b0]) | skip)
          have H' := Aside0.mk H
          clear H
          have hnb12 := NB780_781.out
          have hnc12 := NB781_780.out
          have hcz13_0 : w6.cell? ⟨gb780, 0, none⟩ = some (.slice A0_0 l0_0.length c0_0) := (blk_cell BK780.out 0).trans rfl
          have hfz13_0 := blk_frozen BK780.out 0
          go_wp2_with (first | ((with_reducible refine gate_callee (f := 76) rfl ?_); refine goesL_ (some 10) rfl rfl Try.func76 (by kernel_rfl) rfl #[.agg #[.slice A0_0 l0_0.length c0_0], .slice A1 l1.length c1] rfl (by (try simp only [List.map_toArray, List.map_cons, List.map_nil]); first | done | rfl | (simp only [List.length_drop, List.length_take]; rfl)) ?_; (with_reducible refine (impl_areLoans.calls _ _ l0_0 _ _ l1 true _ ?side1 ?side2 ?side3 ?side4 A7.out).mono ?_); (case side1 => repeat (first | exact (Kd.C_below HR0_0.out HB.out) | (with_reducible refine Kd.C_alloc ?_ _) | (with_reducible refine Kd.C_drewN ?_ _) | (with_reducible refine Kd.C_drew ?_))); (case side2 => exact HC0_0.out); (case side3 => repeat (first | exact (Kd.C_below HR1.out HB.out) | (with_reducible refine Kd.C_alloc ?_ _) | (with_reducible refine Kd.C_drewN ?_ _) | (with_reducible refine Kd.C_drew ?_))); (case side4 => exact HC1.out); rintro e w14 ⟨rfl, hb⟩; refine ⟨_, rfl, ?_⟩; have n0_ := Aside0.mk (blk_below (g := gb780) (o := .cells #[.slice A0_0 l0_0.length c0_0] 26 (0, 0)) (by (with_reducible repeat (first | refine blk_drewN ?_ _ | refine blk_drew ?_ | refine blk_alloc ?_ _)); exact BK780.out) hb); have n1_ := Aside0.mk (blk_below (g := gb781) (o := .cells #[.int .i64 a2_0, .int .i64 a2_1, .int .i64 a2_2, .int .i64 a2_3, .bool a2_4, .int .i64 a2_5, .int .i64 a2_6] 30 (0, 0)) (by (with_reducible repeat (first | refine blk_drewN ?_ _ | refine blk_drew ?_ | refine blk_alloc ?_ _)); exact BK781.out) hb); have n2_ := Aside0.mk (below_step (by repeat (first | (with_reducible first | exact HB.out | apply below_alloc | apply pw_below_drewN | apply below_drew1 | refine below_set ?_ GE780.out | refine below_set ?_ GE781.out) | exact HB.out)) hb); clear BK780; clear BK781; clear HB; have BK780 := n0_; have BK781 := n1_; have HB := n2_; clear n0_ n1_ n2_; (try clear hb); (try clear hb2); (try clear hk); (try clear hi); have hcz15_0 : w14.cell? ⟨gb780, 0, none⟩ = some (.slice A0_0 l0_0.length c0_0) := (blk_cell BK780.out 0).trans rfl; have hfz15_0 := blk_frozen BK780.out 0; have hcz16_0 : w14.cell? ⟨gb781, 0, none⟩ = some (.int .i64 a2_0) := (blk_cell BK781.out 0).trans rfl; have hcz16_1 : w14.cell? ⟨gb781, 1, none⟩ = some (.int .i64 a2_1) := (blk_cell BK781.out 1).trans rfl; have hcz16_2 : w14.cell? ⟨gb781, 2, none⟩ = some (.int .i64 a2_2) := (blk_cell BK781.out 2).trans rfl; have hcz16_3 : w14.cell? ⟨gb781, 3, none⟩ = some (.int .i64 a2_3) := (blk_cell BK781.out 3).trans rfl; have hcz16_4 : w14.cell? ⟨gb781, 4, none⟩ = some (.bool a2_4) := (blk_cell BK781.out 4).trans rfl; have hcz16_5 : w14.cell? ⟨gb781, 5, none⟩ = some (.int .i64 a2_5) := (blk_cell BK781.out 5).trans rfl; have hcz16_6 : w14.cell? ⟨gb781, 6, none⟩ = some (.int .i64 a2_6) := (blk_cell BK781.out 6).trans rfl; have hfz16_0 := blk_frozen BK781.out 0; have hfz16_1 := blk_frozen BK781.out 1; have hfz16_2 := blk_frozen BK781.out 2; have hfz16_3 := blk_frozen BK781.out 3; have hfz16_4 := blk_frozen BK781.out 4; have hfz16_5 := blk_frozen BK781.out 5; have hfz16_6 := blk_frozen BK781.out 6) | ((with_reducible refine gate_dst (N := 15) rfl ?_); (try (refine gate_guard (by rfl) ?_; dsimp only)); refine Kd.R_lit kimplLoan _ 30 ?hg (N := 15) ?hd (xs := ([(⟨(⟨a2_0, a2_1, a2_2, a2_3⟩ : SimplWindow), a2_4, a2_5, a2_6⟩ : SimplLoan)] : List (SimplLoan))) (inner := [.int .i64 a2_0, .int .i64 a2_1, .int .i64 a2_2, .int .i64 a2_3, .bool a2_4, .int .i64 a2_5, .int .i64 a2_6]) (ok := fun _ => True) (okp := fun _ => True) ?hr ?hp (fun _ hk => hk) trivial (Below.refl _ _) (Nat.le_refl _) (by simp) ?_; (case hd => rfl); (case hg => rfl); (case hr => first | (go_simp; done) | (go_simp; rfl)); (case hp => exact (Reps.c7 (show Kd.M kimplLoan _ _ _ (⟨(⟨a2_0, a2_1, a2_2, a2_3⟩ : SimplWindow), a2_4, a2_5, a2_6⟩ : SimplLoan) [.int .i64 a2_0, .int .i64 a2_1, .int .i64 a2_2, .int .i64 a2_3, .bool a2_4, .int .i64 a2_5, .int .i64 a2_6] from (kimplLoan_mkM _ _ _ (⟨(⟨a2_0, a2_1, a2_2, a2_3⟩ : SimplWindow), a2_4, a2_5, a2_6⟩ : SimplLoan) )) (Reps.none _ _))); intro v784 w17 ho18 hb hg_ hnew_; clear hg_ hnew_; (first | rw [← Ny783.out] at ho18 | (simp only [Int.reduceToNat] at ho18; rw [← Ny783.out] at ho18)); have n0_ := Aside0.mk (Kd.R_lower (Kd.R_newB ho18 (g := gb781) (o := .cells #[.int .i64 a2_0, .int .i64 a2_1, .int .i64 a2_2, .int .i64 a2_3, .bool a2_4, .int .i64 a2_5, .int .i64 a2_6] 30 (0, 0)) (by (with_reducible repeat (first | refine blk_drewN ?_ _ | refine blk_drew ?_ | refine blk_alloc ?_ _)); exact BK781.out)) (below_size (by repeat (first | (with_reducible first | exact HB.out | apply below_alloc | apply pw_below_drewN | apply below_drew1 | refine below_set ?_ GE780.out | refine below_set ?_ GE781.out) | exact HB.out)))); have n1_ := Aside0.mk (blk_below (g := gb780) (o := .cells #[.slice A0_0 l0_0.length c0_0] 26 (0, 0)) (by (with_reducible repeat (first | refine blk_drewN ?_ _ | refine blk_drew ?_ | refine blk_alloc ?_ _)); exact BK780.out) hb); have n2_ := Aside0.mk (blk_below (g := gb781) (o := .cells #[.int .i64 a2_0, .int .i64 a2_1, .int .i64 a2_2, .int .i64 a2_3, .bool a2_4, .int .i64 a2_5, .int .i64 a2_6] 30 (0, 0)) (by (with_reducible repeat (first | refine blk_drewN ?_ _ | refine blk_drew ?_ | refine blk_alloc ?_ _)); exact BK781.out) hb); have n3_ := Aside0.mk (below_step (by repeat (first | (with_reducible first | exact HB.out | apply below_alloc | apply pw_below_drewN | apply below_drew1 | refine below_set ?_ GE780.out | refine below_set ?_ GE781.out) | exact HB.out)) hb); clear BK780; clear BK781; clear HB; have HO785 := n0_; have BK780 := n1_; have BK781 := n2_; have HB := n3_; clear n0_ n1_ n2_ n3_; clear hb ho18; obtain ⟨Ao19, co19, eo19⟩ := Kd.R_slice HO785.out; subst eo19) | (go_at_call 67; (with_reducible refine (impl_areAnyLoans.calls _ _ l0_0 _ _ y783 true _ ?side1 ?side2 ?side3 ?side4 A9.out).mono ?_); (case side1 => repeat (first | exact (Kd.C_below HR0_0.out HB.out) | (with_reducible refine Kd.C_alloc ?_ _) | (with_reducible refine Kd.C_drewN ?_ _) | (with_reducible refine Kd.C_drew ?_))); (case side2 => exact HC0_0.out); (case side3 => repeat (first | exact (Kd.R_reads' HO785.out).2.2 | (with_reducible refine Kd.C_alloc ?_ _) | (with_reducible refine Kd.C_drewN ?_ _) | (with_reducible refine Kd.C_drew ?_))); (case side4 => exact (Kd.R_reads' HO785.out).2.1); rintro e w20 ⟨rfl, hb⟩; have n0_ := Aside0.mk (Kd.R_below (by (with_reducible repeat (first | apply Kd.R_alloc | apply Kd.R_drewN | apply Kd.R_drew)); exact HO785.out) hb); have n1_ := Aside0.mk (blk_below (g := gb780) (o := .cells #[.slice A0_0 l0_0.length c0_0] 26 (0, 0)) (by (with_reducible repeat (first | refine blk_drewN ?_ _ | refine blk_drew ?_ | refine blk_alloc ?_ _)); exact BK780.out) hb); have n2_ := Aside0.mk (blk_below (g := gb781) (o := .cells #[.int .i64 a2_0, .int .i64 a2_1, .int .i64 a2_2, .int .i64 a2_3, .bool a2_4, .int .i64 a2_5, .int .i64 a2_6] 30 (0, 0)) (by (with_reducible repeat (first | refine blk_drewN ?_ _ | refine blk_drew ?_ | refine blk_alloc ?_ _)); exact BK781.out) hb); have n3_ := Aside0.mk (below_step (by repeat (first | (with_reducible first | exact HB.out | apply below_alloc | apply pw_below_drewN | apply below_drew1 | refine below_set ?_ GE780.out | refine below_set ?_ GE781.out) | exact HB.out)) hb); clear HO785; clear BK780; clear BK781; clear HB; have HO785 := n0_; have BK780 := n1_; have BK781 := n2_; have HB := n3_; clear n0_ n1_ n2_ n3_; (try clear hb); (try clear hb2); (try clear hk); (try clear hi)))
          go_meet
          case rel => exact ⟨_, (true), (by first | rfl | (simp; done) | (simp [*]; done)), H', ⟨by first | omega | exact Nat.le_refl _⟩, ⟨by (with_reducible repeat (first | refine blk_drewN ?_ _ | refine blk_drew ?_ | refine blk_alloc ?_ _)); exact BK780.out⟩, ⟨by (with_reducible repeat (first | refine blk_drewN ?_ _ | refine blk_drew ?_ | refine blk_alloc ?_ _)); exact BK781.out⟩, ⟨by repeat (first | (with_reducible first | exact HB.out | apply below_alloc | apply pw_below_drewN | apply below_drew1 | refine below_set ?_ GE780.out | refine below_set ?_ GE781.out) | exact HB.out)⟩⟩
        · rw [if_neg c11] at H
          have c11b0 : ((l1.length : Int) == 8) = false := beq_eq_false_iff_ne.mpr c11
          have c11b1 : ((l1.length : Int) != 8) = true := bne_iff_ne.mpr c11
          (first | rw [c11b0] | (simp only [i64_w, i32_w]; rw [c11b0]) | skip)
          replace H := Option.bind_eq_some_iff.mp H
          obtain ⟨t787, A210, H⟩ := H
          replace H : (impl_CanLend.j0 k l1 (!t787) a2_0 a2_1 a2_2 a2_3 a2_4 a2_5 a2_6) = some (r1, r2) := H
          have A21 := Aside0.mk A210
          clear A210
          have H' := Aside0.mk H
          clear H
          have hnb22 := NB780_781.out
          have hnc22 := NB781_780.out
          have hcz23_0 : w6.cell? ⟨gb780, 0, none⟩ = some (.slice A0_0 l0_0.length c0_0) := (blk_cell BK780.out 0).trans rfl
          have hfz23_0 := blk_frozen BK780.out 0
          go_wp2_with (first | ((with_reducible refine gate_callee (f := 76) rfl ?_); refine goesL_ (some 10) rfl rfl Try.func76 (by kernel_rfl) rfl #[.agg #[.slice A0_0 l0_0.length c0_0], .slice A1 l1.length c1] rfl (by (try simp only [List.map_toArray, List.map_cons, List.map_nil]); first | done | rfl | (simp only [List.length_drop, List.length_take]; rfl)) ?_; (with_reducible refine (impl_areLoans.calls _ _ l0_0 _ _ l1 true _ ?side1 ?side2 ?side3 ?side4 A7.out).mono ?_); (case side1 => repeat (first | exact (Kd.C_below HR0_0.out HB.out) | (with_reducible refine Kd.C_alloc ?_ _) | (with_reducible refine Kd.C_drewN ?_ _) | (with_reducible refine Kd.C_drew ?_))); (case side2 => exact HC0_0.out); (case side3 => repeat (first | exact (Kd.C_below HR1.out HB.out) | (with_reducible refine Kd.C_alloc ?_ _) | (with_reducible refine Kd.C_drewN ?_ _) | (with_reducible refine Kd.C_drew ?_))); (case side4 => exact HC1.out); rintro e w24 ⟨rfl, hb⟩; refine ⟨_, rfl, ?_⟩; have n0_ := Aside0.mk (blk_below (g := gb780) (o := .cells #[.slice A0_0 l0_0.length c0_0] 26 (0, 0)) (by (with_reducible repeat (first | refine blk_drewN ?_ _ | refine blk_drew ?_ | refine blk_alloc ?_ _)); exact BK780.out) hb); have n1_ := Aside0.mk (blk_below (g := gb781) (o := .cells #[.int .i64 a2_0, .int .i64 a2_1, .int .i64 a2_2, .int .i64 a2_3, .bool a2_4, .int .i64 a2_5, .int .i64 a2_6] 30 (0, 0)) (by (with_reducible repeat (first | refine blk_drewN ?_ _ | refine blk_drew ?_ | refine blk_alloc ?_ _)); exact BK781.out) hb); have n2_ := Aside0.mk (below_step (by repeat (first | (with_reducible first | exact HB.out | apply below_alloc | apply pw_below_drewN | apply below_drew1 | refine below_set ?_ GE780.out | refine below_set ?_ GE781.out) | exact HB.out)) hb); clear BK780; clear BK781; clear HB; have BK780 := n0_; have BK781 := n1_; have HB := n2_; clear n0_ n1_ n2_; (try clear hb); (try clear hb2); (try clear hk); (try clear hi); have hcz25_0 : w24.cell? ⟨gb780, 0, none⟩ = some (.slice A0_0 l0_0.length c0_0) := (blk_cell BK780.out 0).trans rfl; have hfz25_0 := blk_frozen BK780.out 0; have hcz26_0 : w24.cell? ⟨gb781, 0, none⟩ = some (.int .i64 a2_0) := (blk_cell BK781.out 0).trans rfl; have hcz26_1 : w24.cell? ⟨gb781, 1, none⟩ = some (.int .i64 a2_1) := (blk_cell BK781.out 1).trans rfl; have hcz26_2 : w24.cell? ⟨gb781, 2, none⟩ = some (.int .i64 a2_2) := (blk_cell BK781.out 2).trans rfl; have hcz26_3 : w24.cell? ⟨gb781, 3, none⟩ = some (.int .i64 a2_3) := (blk_cell BK781.out 3).trans rfl; have hcz26_4 : w24.cell? ⟨gb781, 4, none⟩ = some (.bool a2_4) := (blk_cell BK781.out 4).trans rfl; have hcz26_5 : w24.cell? ⟨gb781, 5, none⟩ = some (.int .i64 a2_5) := (blk_cell BK781.out 5).trans rfl; have hcz26_6 : w24.cell? ⟨gb781, 6, none⟩ = some (.int .i64 a2_6) := (blk_cell BK781.out 6).trans rfl; have hfz26_0 := blk_frozen BK781.out 0; have hfz26_1 := blk_frozen BK781.out 1; have hfz26_2 := blk_frozen BK781.out 2; have hfz26_3 := blk_frozen BK781.out 3; have hfz26_4 := blk_frozen BK781.out 4; have hfz26_5 := blk_frozen BK781.out 5; have hfz26_6 := blk_frozen BK781.out 6) | ((with_reducible refine gate_dst (N := 15) rfl ?_); (try (refine gate_guard (by rfl) ?_; dsimp only)); refine Kd.R_lit kimplLoan _ 30 ?hg (N := 15) ?hd (xs := ([(⟨(⟨a2_0, a2_1, a2_2, a2_3⟩ : SimplWindow), a2_4, a2_5, a2_6⟩ : SimplLoan)] : List (SimplLoan))) (inner := [.int .i64 a2_0, .int .i64 a2_1, .int .i64 a2_2, .int .i64 a2_3, .bool a2_4, .int .i64 a2_5, .int .i64 a2_6]) (ok := fun _ => True) (okp := fun _ => True) ?hr ?hp (fun _ hk => hk) trivial (Below.refl _ _) (Nat.le_refl _) (by simp) ?_; (case hd => rfl); (case hg => rfl); (case hr => first | (go_simp; done) | (go_simp; rfl)); (case hp => exact (Reps.c7 (show Kd.M kimplLoan _ _ _ (⟨(⟨a2_0, a2_1, a2_2, a2_3⟩ : SimplWindow), a2_4, a2_5, a2_6⟩ : SimplLoan) [.int .i64 a2_0, .int .i64 a2_1, .int .i64 a2_2, .int .i64 a2_3, .bool a2_4, .int .i64 a2_5, .int .i64 a2_6] from (kimplLoan_mkM _ _ _ (⟨(⟨a2_0, a2_1, a2_2, a2_3⟩ : SimplWindow), a2_4, a2_5, a2_6⟩ : SimplLoan) )) (Reps.none _ _))); intro v784 w27 ho28 hb hg_ hnew_; clear hg_ hnew_; (first | rw [← Ny783.out] at ho28 | (simp only [Int.reduceToNat] at ho28; rw [← Ny783.out] at ho28)); have n0_ := Aside0.mk (Kd.R_lower (Kd.R_newB ho28 (g := gb781) (o := .cells #[.int .i64 a2_0, .int .i64 a2_1, .int .i64 a2_2, .int .i64 a2_3, .bool a2_4, .int .i64 a2_5, .int .i64 a2_6] 30 (0, 0)) (by (with_reducible repeat (first | refine blk_drewN ?_ _ | refine blk_drew ?_ | refine blk_alloc ?_ _)); exact BK781.out)) (below_size (by repeat (first | (with_reducible first | exact HB.out | apply below_alloc | apply pw_below_drewN | apply below_drew1 | refine below_set ?_ GE780.out | refine below_set ?_ GE781.out) | exact HB.out)))); have n1_ := Aside0.mk (blk_below (g := gb780) (o := .cells #[.slice A0_0 l0_0.length c0_0] 26 (0, 0)) (by (with_reducible repeat (first | refine blk_drewN ?_ _ | refine blk_drew ?_ | refine blk_alloc ?_ _)); exact BK780.out) hb); have n2_ := Aside0.mk (blk_below (g := gb781) (o := .cells #[.int .i64 a2_0, .int .i64 a2_1, .int .i64 a2_2, .int .i64 a2_3, .bool a2_4, .int .i64 a2_5, .int .i64 a2_6] 30 (0, 0)) (by (with_reducible repeat (first | refine blk_drewN ?_ _ | refine blk_drew ?_ | refine blk_alloc ?_ _)); exact BK781.out) hb); have n3_ := Aside0.mk (below_step (by repeat (first | (with_reducible first | exact HB.out | apply below_alloc | apply pw_below_drewN | apply below_drew1 | refine below_set ?_ GE780.out | refine below_set ?_ GE781.out) | exact HB.out)) hb); clear BK780; clear BK781; clear HB; have HO785 := n0_; have BK780 := n1_; have BK781 := n2_; have HB := n3_; clear n0_ n1_ n2_ n3_; clear hb ho28; obtain ⟨Ao29, co29, eo29⟩ := Kd.R_slice HO785.out; subst eo29) | (go_at_call 67; (with_reducible refine (impl_areAnyLoans.calls _ _ l0_0 _ _ y783 true _ ?side1 ?side2 ?side3 ?side4 A9.out).mono ?_); (case side1 => repeat (first | exact (Kd.C_below HR0_0.out HB.out) | (with_reducible refine Kd.C_alloc ?_ _) | (with_reducible refine Kd.C_drewN ?_ _) | (with_reducible refine Kd.C_drew ?_))); (case side2 => exact HC0_0.out); (case side3 => repeat (first | exact (Kd.R_reads' HO785.out).2.2 | (with_reducible refine Kd.C_alloc ?_ _) | (with_reducible refine Kd.C_drewN ?_ _) | (with_reducible refine Kd.C_drew ?_))); (case side4 => exact (Kd.R_reads' HO785.out).2.1); rintro e w30 ⟨rfl, hb⟩; have n0_ := Aside0.mk (Kd.R_below (by (with_reducible repeat (first | apply Kd.R_alloc | apply Kd.R_drewN | apply Kd.R_drew)); exact HO785.out) hb); have n1_ := Aside0.mk (blk_below (g := gb780) (o := .cells #[.slice A0_0 l0_0.length c0_0] 26 (0, 0)) (by (with_reducible repeat (first | refine blk_drewN ?_ _ | refine blk_drew ?_ | refine blk_alloc ?_ _)); exact BK780.out) hb); have n2_ := Aside0.mk (blk_below (g := gb781) (o := .cells #[.int .i64 a2_0, .int .i64 a2_1, .int .i64 a2_2, .int .i64 a2_3, .bool a2_4, .int .i64 a2_5, .int .i64 a2_6] 30 (0, 0)) (by (with_reducible repeat (first | refine blk_drewN ?_ _ | refine blk_drew ?_ | refine blk_alloc ?_ _)); exact BK781.out) hb); have n3_ := Aside0.mk (below_step (by repeat (first | (with_reducible first | exact HB.out | apply below_alloc | apply pw_below_drewN | apply below_drew1 | refine below_set ?_ GE780.out | refine below_set ?_ GE781.out) | exact HB.out)) hb); clear HO785; clear BK780; clear BK781; clear HB; have HO785 := n0_; have BK780 := n1_; have BK781 := n2_; have HB := n3_; clear n0_ n1_ n2_ n3_; (try clear hb); (try clear hb2); (try clear hk); (try clear hi)) | (go_at_call 91; (with_reducible refine (impl_areClean.calls k _ _ l1 t787 _ ?side1 ?side2 A21.out).mono ?_); (case side1 => repeat (first | exact (Kd.C_below HR1.out HB.out) | (with_reducible refine Kd.C_alloc ?_ _) | (with_reducible refine Kd.C_drewN ?_ _) | (with_reducible refine Kd.C_drew ?_))); (case side2 => exact HC1.out); rintro e w31 ⟨rfl, hb⟩; have n0_ := Aside0.mk (Kd.R_below (by (with_reducible repeat (first | apply Kd.R_alloc | apply Kd.R_drewN | apply Kd.R_drew)); exact HO785.out) hb); have n1_ := Aside0.mk (blk_below (g := gb780) (o := .cells #[.slice A0_0 l0_0.length c0_0] 26 (0, 0)) (by (with_reducible repeat (first | refine blk_drewN ?_ _ | refine blk_drew ?_ | refine blk_alloc ?_ _)); exact BK780.out) hb); have n2_ := Aside0.mk (blk_below (g := gb781) (o := .cells #[.int .i64 a2_0, .int .i64 a2_1, .int .i64 a2_2, .int .i64 a2_3, .bool a2_4, .int .i64 a2_5, .int .i64 a2_6] 30 (0, 0)) (by (with_reducible repeat (first | refine blk_drewN ?_ _ | refine blk_drew ?_ | refine blk_alloc ?_ _)); exact BK781.out) hb); have n3_ := Aside0.mk (below_step (by repeat (first | (with_reducible first | exact HB.out | apply below_alloc | apply pw_below_drewN | apply below_drew1 | refine below_set ?_ GE780.out | refine below_set ?_ GE781.out) | exact HB.out)) hb); clear HO785; clear BK780; clear BK781; clear HB; have HO785 := n0_; have BK780 := n1_; have BK781 := n2_; have HB := n3_; clear n0_ n1_ n2_ n3_; (try clear hb); (try clear hb2); (try clear hk); (try clear hi)))
          go_meet
          case rel => exact ⟨_, (!t787), (by first | rfl | (simp; done) | (simp [*]; done)), H', ⟨by first | omega | exact Nat.le_refl _⟩, ⟨by (with_reducible repeat (first | refine blk_drewN ?_ _ | refine blk_drew ?_ | refine blk_alloc ?_ _)); exact BK780.out⟩, ⟨by (with_reducible repeat (first | refine blk_drewN ?_ _ | refine blk_drew ?_ | refine blk_alloc ?_ _)); exact BK781.out⟩, ⟨by repeat (first | (with_reducible first | exact HB.out | apply below_alloc | apply pw_below_drewN | apply below_drew1 | refine below_set ?_ GE780.out | refine below_set ?_ GE781.out) | exact HB.out)⟩⟩
      · replace c10 := Bool.eq_false_iff.mpr c10
        subst c10
        have H1 : (impl_CanLend.j0 k l1 true a2_0 a2_1 a2_2 a2_3 a2_4 a2_5 a2_6) = some (r1, r2) := by rw [if_neg (show ¬ (false = true) by decide)] at H; exact H
        clear H
        have H := H1
        clear H1
        have H' := Aside0.mk H
        clear H
        have hnb32 := NB780_781.out
        have hnc32 := NB781_780.out
        have hcz33_0 : w6.cell? ⟨gb780, 0, none⟩ = some (.slice A0_0 l0_0.length c0_0) := (blk_cell BK780.out 0).trans rfl
        have hfz33_0 := blk_frozen BK780.out 0
        go_wp2_with (first | ((with_reducible refine gate_callee (f := 76) rfl ?_); refine goesL_ (some 10) rfl rfl Try.func76 (by kernel_rfl) rfl #[.agg #[.slice A0_0 l0_0.length c0_0], .slice A1 l1.length c1] rfl (by (try simp only [List.map_toArray, List.map_cons, List.map_nil]); first | done | rfl | (simp only [List.length_drop, List.length_take]; rfl)) ?_; (with_reducible refine (impl_areLoans.calls _ _ l0_0 _ _ l1 true _ ?side1 ?side2 ?side3 ?side4 A7.out).mono ?_); (case side1 => repeat (first | exact (Kd.C_below HR0_0.out HB.out) | (with_reducible refine Kd.C_alloc ?_ _) | (with_reducible refine Kd.C_drewN ?_ _) | (with_reducible refine Kd.C_drew ?_))); (case side2 => exact HC0_0.out); (case side3 => repeat (first | exact (Kd.C_below HR1.out HB.out) | (with_reducible refine Kd.C_alloc ?_ _) | (with_reducible refine Kd.C_drewN ?_ _) | (with_reducible refine Kd.C_drew ?_))); (case side4 => exact HC1.out); rintro e w34 ⟨rfl, hb⟩; refine ⟨_, rfl, ?_⟩; have n0_ := Aside0.mk (blk_below (g := gb780) (o := .cells #[.slice A0_0 l0_0.length c0_0] 26 (0, 0)) (by (with_reducible repeat (first | refine blk_drewN ?_ _ | refine blk_drew ?_ | refine blk_alloc ?_ _)); exact BK780.out) hb); have n1_ := Aside0.mk (blk_below (g := gb781) (o := .cells #[.int .i64 a2_0, .int .i64 a2_1, .int .i64 a2_2, .int .i64 a2_3, .bool a2_4, .int .i64 a2_5, .int .i64 a2_6] 30 (0, 0)) (by (with_reducible repeat (first | refine blk_drewN ?_ _ | refine blk_drew ?_ | refine blk_alloc ?_ _)); exact BK781.out) hb); have n2_ := Aside0.mk (below_step (by repeat (first | (with_reducible first | exact HB.out | apply below_alloc | apply pw_below_drewN | apply below_drew1 | refine below_set ?_ GE780.out | refine below_set ?_ GE781.out) | exact HB.out)) hb); clear BK780; clear BK781; clear HB; have BK780 := n0_; have BK781 := n1_; have HB := n2_; clear n0_ n1_ n2_; (try clear hb); (try clear hb2); (try clear hk); (try clear hi); have hcz35_0 : w34.cell? ⟨gb780, 0, none⟩ = some (.slice A0_0 l0_0.length c0_0) := (blk_cell BK780.out 0).trans rfl; have hfz35_0 := blk_frozen BK780.out 0; have hcz36_0 : w34.cell? ⟨gb781, 0, none⟩ = some (.int .i64 a2_0) := (blk_cell BK781.out 0).trans rfl; have hcz36_1 : w34.cell? ⟨gb781, 1, none⟩ = some (.int .i64 a2_1) := (blk_cell BK781.out 1).trans rfl; have hcz36_2 : w34.cell? ⟨gb781, 2, none⟩ = some (.int .i64 a2_2) := (blk_cell BK781.out 2).trans rfl; have hcz36_3 : w34.cell? ⟨gb781, 3, none⟩ = some (.int .i64 a2_3) := (blk_cell BK781.out 3).trans rfl; have hcz36_4 : w34.cell? ⟨gb781, 4, none⟩ = some (.bool a2_4) := (blk_cell BK781.out 4).trans rfl; have hcz36_5 : w34.cell? ⟨gb781, 5, none⟩ = some (.int .i64 a2_5) := (blk_cell BK781.out 5).trans rfl; have hcz36_6 : w34.cell? ⟨gb781, 6, none⟩ = some (.int .i64 a2_6) := (blk_cell BK781.out 6).trans rfl; have hfz36_0 := blk_frozen BK781.out 0; have hfz36_1 := blk_frozen BK781.out 1; have hfz36_2 := blk_frozen BK781.out 2; have hfz36_3 := blk_frozen BK781.out 3; have hfz36_4 := blk_frozen BK781.out 4; have hfz36_5 := blk_frozen BK781.out 5; have hfz36_6 := blk_frozen BK781.out 6) | ((with_reducible refine gate_dst (N := 15) rfl ?_); (try (refine gate_guard (by rfl) ?_; dsimp only)); refine Kd.R_lit kimplLoan _ 30 ?hg (N := 15) ?hd (xs := ([(⟨(⟨a2_0, a2_1, a2_2, a2_3⟩ : SimplWindow), a2_4, a2_5, a2_6⟩ : SimplLoan)] : List (SimplLoan))) (inner := [.int .i64 a2_0, .int .i64 a2_1, .int .i64 a2_2, .int .i64 a2_3, .bool a2_4, .int .i64 a2_5, .int .i64 a2_6]) (ok := fun _ => True) (okp := fun _ => True) ?hr ?hp (fun _ hk => hk) trivial (Below.refl _ _) (Nat.le_refl _) (by simp) ?_; (case hd => rfl); (case hg => rfl); (case hr => first | (go_simp; done) | (go_simp; rfl)); (case hp => exact (Reps.c7 (show Kd.M kimplLoan _ _ _ (⟨(⟨a2_0, a2_1, a2_2, a2_3⟩ : SimplWindow), a2_4, a2_5, a2_6⟩ : SimplLoan) [.int .i64 a2_0, .int .i64 a2_1, .int .i64 a2_2, .int .i64 a2_3, .bool a2_4, .int .i64 a2_5, .int .i64 a2_6] from (kimplLoan_mkM _ _ _ (⟨(⟨a2_0, a2_1, a2_2, a2_3⟩ : SimplWindow), a2_4, a2_5, a2_6⟩ : SimplLoan) )) (Reps.none _ _))); intro v784 w37 ho38 hb hg_ hnew_; clear hg_ hnew_; (first | rw [← Ny783.out] at ho38 | (simp only [Int.reduceToNat] at ho38; rw [← Ny783.out] at ho38)); have n0_ := Aside0.mk (Kd.R_lower (Kd.R_newB ho38 (g := gb781) (o := .cells #[.int .i64 a2_0, .int .i64 a2_1, .int .i64 a2_2, .int .i64 a2_3, .bool a2_4, .int .i64 a2_5, .int .i64 a2_6] 30 (0, 0)) (by (with_reducible repeat (first | refine blk_drewN ?_ _ | refine blk_drew ?_ | refine blk_alloc ?_ _)); exact BK781.out)) (below_size (by repeat (first | (with_reducible first | exact HB.out | apply below_alloc | apply pw_below_drewN | apply below_drew1 | refine below_set ?_ GE780.out | refine below_set ?_ GE781.out) | exact HB.out)))); have n1_ := Aside0.mk (blk_below (g := gb780) (o := .cells #[.slice A0_0 l0_0.length c0_0] 26 (0, 0)) (by (with_reducible repeat (first | refine blk_drewN ?_ _ | refine blk_drew ?_ | refine blk_alloc ?_ _)); exact BK780.out) hb); have n2_ := Aside0.mk (blk_below (g := gb781) (o := .cells #[.int .i64 a2_0, .int .i64 a2_1, .int .i64 a2_2, .int .i64 a2_3, .bool a2_4, .int .i64 a2_5, .int .i64 a2_6] 30 (0, 0)) (by (with_reducible repeat (first | refine blk_drewN ?_ _ | refine blk_drew ?_ | refine blk_alloc ?_ _)); exact BK781.out) hb); have n3_ := Aside0.mk (below_step (by repeat (first | (with_reducible first | exact HB.out | apply below_alloc | apply pw_below_drewN | apply below_drew1 | refine below_set ?_ GE780.out | refine below_set ?_ GE781.out) | exact HB.out)) hb); clear BK780; clear BK781; clear HB; have HO785 := n0_; have BK780 := n1_; have BK781 := n2_; have HB := n3_; clear n0_ n1_ n2_ n3_; clear hb ho38; obtain ⟨Ao39, co39, eo39⟩ := Kd.R_slice HO785.out; subst eo39) | (go_at_call 67; (with_reducible refine (impl_areAnyLoans.calls _ _ l0_0 _ _ y783 false _ ?side1 ?side2 ?side3 ?side4 A9.out).mono ?_); (case side1 => repeat (first | exact (Kd.C_below HR0_0.out HB.out) | (with_reducible refine Kd.C_alloc ?_ _) | (with_reducible refine Kd.C_drewN ?_ _) | (with_reducible refine Kd.C_drew ?_))); (case side2 => exact HC0_0.out); (case side3 => repeat (first | exact (Kd.R_reads' HO785.out).2.2 | (with_reducible refine Kd.C_alloc ?_ _) | (with_reducible refine Kd.C_drewN ?_ _) | (with_reducible refine Kd.C_drew ?_))); (case side4 => exact (Kd.R_reads' HO785.out).2.1); rintro e w40 ⟨rfl, hb⟩; have n0_ := Aside0.mk (Kd.R_below (by (with_reducible repeat (first | apply Kd.R_alloc | apply Kd.R_drewN | apply Kd.R_drew)); exact HO785.out) hb); have n1_ := Aside0.mk (blk_below (g := gb780) (o := .cells #[.slice A0_0 l0_0.length c0_0] 26 (0, 0)) (by (with_reducible repeat (first | refine blk_drewN ?_ _ | refine blk_drew ?_ | refine blk_alloc ?_ _)); exact BK780.out) hb); have n2_ := Aside0.mk (blk_below (g := gb781) (o := .cells #[.int .i64 a2_0, .int .i64 a2_1, .int .i64 a2_2, .int .i64 a2_3, .bool a2_4, .int .i64 a2_5, .int .i64 a2_6] 30 (0, 0)) (by (with_reducible repeat (first | refine blk_drewN ?_ _ | refine blk_drew ?_ | refine blk_alloc ?_ _)); exact BK781.out) hb); have n3_ := Aside0.mk (below_step (by repeat (first | (with_reducible first | exact HB.out | apply below_alloc | apply pw_below_drewN | apply below_drew1 | refine below_set ?_ GE780.out | refine below_set ?_ GE781.out) | exact HB.out)) hb); clear HO785; clear BK780; clear BK781; clear HB; have HO785 := n0_; have BK780 := n1_; have BK781 := n2_; have HB := n3_; clear n0_ n1_ n2_ n3_; (try clear hb); (try clear hb2); (try clear hk); (try clear hi)))
        go_meet
        case rel => exact ⟨_, (true), (by first | rfl | (simp; done) | (simp [*]; done)), H', ⟨by first | omega | exact Nat.le_refl _⟩, ⟨by (with_reducible repeat (first | refine blk_drewN ?_ _ | refine blk_drew ?_ | refine blk_alloc ?_ _)); exact BK780.out⟩, ⟨by (with_reducible repeat (first | refine blk_drewN ?_ _ | refine blk_drew ?_ | refine blk_alloc ?_ _)); exact BK781.out⟩, ⟨by repeat (first | (with_reducible first | exact HB.out | apply below_alloc | apply pw_below_drewN | apply below_drew1 | refine below_set ?_ GE780.out | refine below_set ?_ GE781.out) | exact HB.out)⟩⟩
    · replace c8 := Bool.eq_false_iff.mpr c8
      subst c8
      have H1 : (impl_CanLend.j0 k l1 true a2_0 a2_1 a2_2 a2_3 a2_4 a2_5 a2_6) = some (r1, r2) := by rw [if_neg (show ¬ (false = true) by decide)] at H; exact H
      clear H
      have H := H1
      clear H1
      have H' := Aside0.mk H
      clear H
      have hnb41 := NB780_781.out
      have hnc41 := NB781_780.out
      have hcz42_0 : w6.cell? ⟨gb780, 0, none⟩ = some (.slice A0_0 l0_0.length c0_0) := (blk_cell BK780.out 0).trans rfl
      have hfz42_0 := blk_frozen BK780.out 0
      go_wp2_with (first | ((with_reducible refine gate_callee (f := 76) rfl ?_); refine goesL_ (some 10) rfl rfl Try.func76 (by kernel_rfl) rfl #[.agg #[.slice A0_0 l0_0.length c0_0], .slice A1 l1.length c1] rfl (by (try simp only [List.map_toArray, List.map_cons, List.map_nil]); first | done | rfl | (simp only [List.length_drop, List.length_take]; rfl)) ?_; (with_reducible refine (impl_areLoans.calls _ _ l0_0 _ _ l1 false _ ?side1 ?side2 ?side3 ?side4 A7.out).mono ?_); (case side1 => repeat (first | exact (Kd.C_below HR0_0.out HB.out) | (with_reducible refine Kd.C_alloc ?_ _) | (with_reducible refine Kd.C_drewN ?_ _) | (with_reducible refine Kd.C_drew ?_))); (case side2 => exact HC0_0.out); (case side3 => repeat (first | exact (Kd.C_below HR1.out HB.out) | (with_reducible refine Kd.C_alloc ?_ _) | (with_reducible refine Kd.C_drewN ?_ _) | (with_reducible refine Kd.C_drew ?_))); (case side4 => exact HC1.out); rintro e w43 ⟨rfl, hb⟩; refine ⟨_, rfl, ?_⟩; have n0_ := Aside0.mk (blk_below (g := gb780) (o := .cells #[.slice A0_0 l0_0.length c0_0] 26 (0, 0)) (by (with_reducible repeat (first | refine blk_drewN ?_ _ | refine blk_drew ?_ | refine blk_alloc ?_ _)); exact BK780.out) hb); have n1_ := Aside0.mk (blk_below (g := gb781) (o := .cells #[.int .i64 a2_0, .int .i64 a2_1, .int .i64 a2_2, .int .i64 a2_3, .bool a2_4, .int .i64 a2_5, .int .i64 a2_6] 30 (0, 0)) (by (with_reducible repeat (first | refine blk_drewN ?_ _ | refine blk_drew ?_ | refine blk_alloc ?_ _)); exact BK781.out) hb); have n2_ := Aside0.mk (below_step (by repeat (first | (with_reducible first | exact HB.out | apply below_alloc | apply pw_below_drewN | apply below_drew1 | refine below_set ?_ GE780.out | refine below_set ?_ GE781.out) | exact HB.out)) hb); clear BK780; clear BK781; clear HB; have BK780 := n0_; have BK781 := n1_; have HB := n2_; clear n0_ n1_ n2_; (try clear hb); (try clear hb2); (try clear hk); (try clear hi)))
      go_meet
      case rel => exact ⟨_, (true), (by first | rfl | (simp; done) | (simp [*]; done)), H', ⟨by first | omega | exact Nat.le_refl _⟩, ⟨by (with_reducible repeat (first | refine blk_drewN ?_ _ | refine blk_drew ?_ | refine blk_alloc ?_ _)); exact BK780.out⟩, ⟨by (with_reducible repeat (first | refine blk_drewN ?_ _ | refine blk_drew ?_ | refine blk_alloc ?_ _)); exact BK781.out⟩, ⟨by repeat (first | (with_reducible first | exact HB.out | apply below_alloc | apply pw_below_drewN | apply below_drew1 | refine below_set ?_ GE780.out | refine below_set ?_ GE781.out) | exact HB.out)⟩⟩
  case rest =>
    clear HC4
    try clear c1
    try clear c2
    try clear p2
    try clear c3
    try clear c4
    try clear c7
    try clear c8
    try clear c10
    try clear c11
    try clear c11b0
    try clear c11b1
    try clear c12
    try clear c22
    try clear c32
    try clear c41
    try clear c43
    try clear hcz13_0
    try clear hcz15_0
    try clear hcz16_0
    try clear hcz16_1
    try clear hcz16_2
    try clear hcz16_3
    try clear hcz16_4
    try clear hcz16_5
    try clear hcz16_6
    try clear hcz23_0
    try clear hcz25_0
    try clear hcz26_0
    try clear hcz26_1
    try clear hcz26_2
    try clear hcz26_3
    try clear hcz26_4
    try clear hcz26_5
    try clear hcz26_6
    try clear hcz33_0
    try clear hcz35_0
    try clear hcz36_0
    try clear hcz36_1
    try clear hcz36_2
    try clear hcz36_3
    try clear hcz36_4
    try clear hcz36_5
    try clear hcz36_6
    try clear hcz42_0
    try clear hfz13_0
    try clear hfz15_0
    try clear hfz16_0
    try clear hfz16_1
    try clear hfz16_2
    try clear hfz16_3
    try clear hfz16_4
    try clear hfz16_5
    try clear hfz16_6
    try clear hfz23_0
    try clear hfz25_0
    try clear hfz26_0
    try clear hfz26_1
    try clear hfz26_2
    try clear hfz26_3
    try clear hfz26_4
    try clear hfz26_5
    try clear hfz26_6
    try clear hfz33_0
    try clear hfz35_0
    try clear hfz36_0
    try clear hfz36_1
    try clear hfz36_2
    try clear hfz36_3
    try clear hfz36_4
    try clear hfz36_5
    try clear hfz36_6
    try clear hfz42_0
    obtain ⟨kq, x28_3, rfl, HA, HJ3, BK780, BK781, HB⟩ := hcut
    cases kq with
    | zero => exact absurd HA.out (by simp [impl_CanLend.j0])
    | succ kj3 =>
      have H := HA.out
      clear HA
      simp only [impl_CanLend.j0] at H
      by_cases c44 : x28_3 = true
      · subst c44
        have H1 : (some (false, false)) = some (r1, r2) := by rw [if_pos rfl] at H; exact H
        clear H
        have H := H1
        clear H1
        simp only [Option.some.injEq, Prod.mk.injEq] at H
        obtain ⟨rfl, rfl⟩ := H
        go_wp2
        go_ret2
        exact ⟨by first | rfl | (simp [errW_none, errW_some] <;> rfl) | (simp [*, errW_none, errW_some] <;> rfl), by repeat (first | (with_reducible first | exact HB.out | apply below_alloc | apply pw_below_drewN | apply below_drew1 | refine below_set ?_ GE780.out | refine below_set ?_ GE781.out) | exact HB.out)⟩
      · replace c44 := Bool.eq_false_iff.mpr c44
        subst c44
        have H1 : ((slices_Clone_impl_Loan_impl_Loan.f l1).bind fun t788 => ((some (([(⟨(⟨a2_0, a2_1, a2_2, a2_3⟩ : SimplWindow), a2_4, a2_5, a2_6⟩ : SimplLoan)] : List (SimplLoan)) : List (SimplLoan))).bind fun y791 => (if t788.length + y791.length < 2513169434916 then ((impl_areClean.f kj3 (t788 ++ y791)).bind fun t797 => (some (t797, true))) else (none)))) = some (r1, r2) := by rw [if_neg (show ¬ (false = true) by decide)] at H; exact H
        clear H
        have H := H1
        clear H1
        replace H := Option.bind_eq_some_iff.mp H
        obtain ⟨t788, A450, H⟩ := H
        replace H : ((some (([(⟨(⟨a2_0, a2_1, a2_2, a2_3⟩ : SimplWindow), a2_4, a2_5, a2_6⟩ : SimplLoan)] : List (SimplLoan)) : List (SimplLoan))).bind fun y791 => (if t788.length + y791.length < 2513169434916 then ((impl_areClean.f kj3 (t788 ++ y791)).bind fun t797 => (some (t797, true))) else (none))) = some (r1, r2) := H
        have A45 := Aside0.mk A450
        clear A450
        obtain ⟨y791, hy791⟩ : ∃ y_ : List (SimplLoan), y_ = (([(⟨(⟨a2_0, a2_1, a2_2, a2_3⟩ : SimplWindow), a2_4, a2_5, a2_6⟩ : SimplLoan)] : List (SimplLoan))) := ⟨_, rfl⟩
        replace H : (if t788.length + y791.length < 2513169434916 then ((impl_areClean.f kj3 (t788 ++ y791)).bind fun t797 => (some (t797, true))) else (none)) = some (r1, r2) := by first | (rw [hy791]; with_reducible exact H) | (have H2_ := (Option.bind_some _ _).symm.trans H; rw [hy791]; with_reducible exact H2_) | (have H2_ := (Option.bind_some _ _).symm.trans H; with_reducible exact H2_) | with_reducible exact H | (rw [hy791]; exact H) | exact H
        have Ny791 := Aside0.mk hy791
        clear hy791
        by_cases c46 : t788.length + y791.length < 2513169434916
        · rw [if_pos c46] at H
          have LMc46 := Aside0.mk c46
          clear c46
          obtain ⟨y794, hy794⟩ : ∃ y_ : List (SimplLoan), y_ = (t788 ++ y791) := ⟨_, rfl⟩
          replace H : ((impl_areClean.f kj3 y794).bind fun t797 => (some (t797, true))) = some (r1, r2) := by first | (rw [hy794]; with_reducible exact H) | (have H2_ := (Option.bind_some _ _).symm.trans H; rw [hy794]; with_reducible exact H2_) | (have H2_ := (Option.bind_some _ _).symm.trans H; with_reducible exact H2_) | with_reducible exact H | (rw [hy794]; exact H) | exact H
          have Ny794 := Aside0.mk hy794
          clear hy794
          replace H := Option.bind_eq_some_iff.mp H
          obtain ⟨t797, A470, H⟩ := H
          replace H : (some (t797, true)) = some (r1, r2) := H
          have A47 := Aside0.mk A470
          clear A470
          simp only [Option.some.injEq, Prod.mk.injEq] at H
          obtain ⟨rfl, rfl⟩ := H
          try go_wp2
          have n0_ := Aside0.mk (blk_drew BK780.out)
          have n1_ := Aside0.mk (blk_drew BK781.out)
          have n2_ := Aside0.mk (below_drew1 HB.out)
          clear BK780
          clear BK781
          clear HB
          have BK780 := n0_
          have BK781 := n1_
          have HB := n2_
          clear n0_ n1_ n2_
          refine start_ (n := 8) (S := fun w' => w'.cell? ⟨gb781, 0, none⟩ = some (.int .i64 a2_0) ∧ w'.cell? ⟨gb781, 1, none⟩ = some (.int .i64 a2_1) ∧ w'.cell? ⟨gb781, 2, none⟩ = some (.int .i64 a2_2) ∧ w'.cell? ⟨gb781, 3, none⟩ = some (.int .i64 a2_3) ∧ w'.cell? ⟨gb781, 4, none⟩ = some (.bool a2_4) ∧ w'.cell? ⟨gb781, 5, none⟩ = some (.int .i64 a2_5) ∧ w'.cell? ⟨gb781, 6, none⟩ = some (.int .i64 a2_6)) (ds := []) #[false, false, false, false, false, false, false, false] (by kernel_rfl) rfl rfl ⟨(blk_cell BK781.out 0).trans rfl, (blk_cell BK781.out 1).trans rfl, (blk_cell BK781.out 2).trans rfl, (blk_cell BK781.out 3).trans rfl, (blk_cell BK781.out 4).trans rfl, (blk_cell BK781.out 5).trans rfl, (blk_cell BK781.out 6).trans rfl⟩ (fun hHeld => ?_); refine with_tabW impl_CanLend.tab3 impl_CanLend.bits3 (fun HT_ HW_ => ?_)
          generalize wc.drew = w48 at BK780 BK781 HB hHeld ⊢
          refine pure_ (i := 0) (N := some 29) (v := ?_) (a' := ?_) #[true, false, false, false, false, false, false, false] rfl rfl (any_of HT_.out (by kernel_rfl)) (fun _ _ _ h => h) (Or.inl ⟨by rfl, ?_⟩) ?_ ?_
          rotate_left
          · intro w'
            go_simp
            with_reducible rfl
          rotate_left
          · simp only [Act.put, List.setIfInBounds_toArray, List.set_cons_zero, List.set_cons_succ, i64_w, i32_w]
            rfl
          refine take_ (i := 2) (N := some 31) (v := ?_) (a' := ?_) #[true, false, true, false, false, false, false, false] rfl rfl (take_ofW HT_.out HW_.out (by kernel_rfl)) (fun _ _ _ h => h) (Or.inl ⟨by rfl, ?_⟩) hHeld ?_ ?_
          rotate_left
          · rintro w' ⟨s0, s1, s2, s3, s4, s5, s6⟩
            go_simp
            with_reducible rfl
          rotate_left
          · simp only [Act.put, List.setIfInBounds_toArray, List.set_cons_zero, List.set_cons_succ, i64_w, i32_w]
            rfl
          refine join_ (σ := Value × Value) 4 #[true, true, true, true, false, false, false, false] (fun s_ => [(30, s_.1), (32, s_.2)]) (fun s_ w' => (w'.cell? ⟨gb781, 0, none⟩ = some (.int .i64 a2_0) ∧ w'.cell? ⟨gb781, 1, none⟩ = some (.int .i64 a2_1) ∧ w'.cell? ⟨gb781, 2, none⟩ = some (.int .i64 a2_2) ∧ w'.cell? ⟨gb781, 3, none⟩ = some (.int .i64 a2_3) ∧ w'.cell? ⟨gb781, 4, none⟩ = some (.bool a2_4) ∧ w'.cell? ⟨gb781, 5, none⟩ = some (.int .i64 a2_5) ∧ w'.cell? ⟨gb781, 6, none⟩ = some (.int .i64 a2_6)) ∧ (Kd.R kimplLoan 30 w' w.heap.size (fun k_ => some k_ ≠ (s_.2 : Value).ownBlock ∧ k_ ≠ gb781) s_.1 t788) ∧ (Kd.R kimplLoan 30 w' w.heap.size (fun k_ => some k_ ≠ (s_.1 : Value).ownBlock ∧ k_ ≠ gb781) s_.2 y791) ∧ (w'.heap[gb780]? = some (.cells #[.slice A0_0 l0_0.length c0_0] 26 (0, 0))) ∧ (w'.heap[gb781]? = some (.cells #[.int .i64 a2_0, .int .i64 a2_1, .int .i64 a2_2, .int .i64 a2_3, .bool a2_4, .int .i64 a2_5, .int .i64 a2_6] 30 (0, 0))) ∧ (Below w.heap.size w w')) ?_ ?_
          rotate_left
          · intro hCont
            refine two_ (i := 1) (j := 3) (Ni := some 30) (Nj := some 32) #[true, true, true, false, false, false, false, false] #[true, false, true, true, false, false, false, false] rfl rfl rfl rfl (two_of HT_.out (by kernel_rfl)) (by decide) (by decide) (fun K hK => ?_) (fun K hK => ?_)
            · skip
              refine goes_ Try.func97 (by kernel_rfl) rfl #[.slice A1 l1.length c1] (by rfl) rfl rfl (by (try simp only [List.map_toArray, List.map_cons, List.map_nil]); first | done | rfl | (simp only [List.length_drop, List.length_take]; rfl)) ?_
              with_reducible refine (slices_Clone_impl_Loan_impl_Loan.calls _ _ l1 t788 _ ?side1 ?side2 A45.out).mono ?_
              (case side1 => repeat (first | exact (Kd.C_below HR1.out HB.out) | (with_reducible refine Kd.C_alloc ?_ _) | (with_reducible refine Kd.C_drewN ?_ _) | (with_reducible refine Kd.C_drew ?_)))
              (case side2 => exact HC1.out)
              rintro e w49 ⟨v789, rfl, ho0, hb⟩
              refine ⟨_, rfl, ?_⟩
              have n0_ := Aside0.mk (Kd.R_lower (Kd.R_newB ho0 (g := gb781) (o := .cells #[.int .i64 a2_0, .int .i64 a2_1, .int .i64 a2_2, .int .i64 a2_3, .bool a2_4, .int .i64 a2_5, .int .i64 a2_6] 30 (0, 0)) (by (with_reducible repeat (first | refine blk_drewN ?_ _ | refine blk_drew ?_ | refine blk_alloc ?_ _)); exact BK781.out)) (below_size (by repeat (first | (with_reducible first | exact HB.out | apply below_alloc | apply pw_below_drewN | apply below_drew1 | refine below_set ?_ GE780.out | refine below_set ?_ GE781.out) | exact HB.out))))
              have n1_ := Aside0.mk (blk_below (g := gb780) (o := .cells #[.slice A0_0 l0_0.length c0_0] 26 (0, 0)) (by (with_reducible repeat (first | refine blk_drewN ?_ _ | refine blk_drew ?_ | refine blk_alloc ?_ _)); exact BK780.out) hb)
              have n2_ := Aside0.mk (blk_below (g := gb781) (o := .cells #[.int .i64 a2_0, .int .i64 a2_1, .int .i64 a2_2, .int .i64 a2_3, .bool a2_4, .int .i64 a2_5, .int .i64 a2_6] 30 (0, 0)) (by (with_reducible repeat (first | refine blk_drewN ?_ _ | refine blk_drew ?_ | refine blk_alloc ?_ _)); exact BK781.out) hb)
              have n3_ := Aside0.mk (below_step (by repeat (first | (with_reducible first | exact HB.out | apply below_alloc | apply pw_below_drewN | apply below_drew1 | refine below_set ?_ GE780.out | refine below_set ?_ GE781.out) | exact HB.out)) hb)
              clear BK780
              clear BK781
              clear HB
              have HO790 := n0_
              have BK780 := n1_
              have BK781 := n2_
              have HB := n3_
              clear n0_ n1_ n2_ n3_
              (try clear hb)
              (try clear hb2)
              (try clear hk)
              (try clear hi)
              (try clear ho0)
              refine hK.out _ _ ⟨(blk_cell BK781.out 0).trans rfl, (blk_cell BK781.out 1).trans rfl, (blk_cell BK781.out 2).trans rfl, (blk_cell BK781.out 3).trans rfl, (blk_cell BK781.out 4).trans rfl, (blk_cell BK781.out 5).trans rfl, (blk_cell BK781.out 6).trans rfl⟩ (fun hHeld => ?_)
              clear hK K
              refine norm_ (a' := ?_) ?_ ?_
              rotate_left
              · show Act.put _ (some 30) _ = _
                simp only [Act.put, List.setIfInBounds_toArray, List.set_cons_zero, List.set_cons_succ, i64_w, i32_w]
                rfl
              refine one_ (i := 3) (N := some 32) #[true, true, true, true, false, false, false, false] rfl rfl (one_of HT_.out (by kernel_rfl)) (by decide) (fun K hK => ?_)
              refine Kd.R_lit_step kimplLoan _ 30 ?hg (N := 32) ?hd (xs := ([(⟨(⟨a2_0, a2_1, a2_2, a2_3⟩ : SimplWindow), a2_4, a2_5, a2_6⟩ : SimplLoan)] : List (SimplLoan))) (inner := [.int .i64 a2_0, .int .i64 a2_1, .int .i64 a2_2, .int .i64 a2_3, .bool a2_4, .int .i64 a2_5, .int .i64 a2_6]) (ok := fun _ => True) (okp := fun _ => True) ?hr ?hp (fun _ hk => hk) trivial (Below.refl _ _) (Nat.le_refl _) (by simp) ?_; (case hd => rfl); (case hg => rfl); (case hr => first | (go_simp; done) | (go_simp; rfl)); (case hp => exact (Reps.c7 (show Kd.M kimplLoan _ _ _ (⟨(⟨a2_0, a2_1, a2_2, a2_3⟩ : SimplWindow), a2_4, a2_5, a2_6⟩ : SimplLoan) [.int .i64 a2_0, .int .i64 a2_1, .int .i64 a2_2, .int .i64 a2_3, .bool a2_4, .int .i64 a2_5, .int .i64 a2_6] from (kimplLoan_mkM _ _ _ (⟨(⟨a2_0, a2_1, a2_2, a2_3⟩ : SimplWindow), a2_4, a2_5, a2_6⟩ : SimplLoan) )) (Reps.none _ _)))
              intro v792 w50 ho51 hb hg_ hnew_
              clear hg_ hnew_
              (first | rw [← Ny791.out] at ho51 | (simp only [Int.reduceToNat] at ho51; rw [← Ny791.out] at ho51))
              have n0_ := Aside0.mk (Kd.R_elder' (by (with_reducible repeat (first | apply Kd.R_alloc | apply Kd.R_drewN | apply Kd.R_drew)); exact HO790.out) (Kd.R_base ho51) hb)
              have n1_ := Aside0.mk (Kd.R_lower (Kd.R_newB (Kd.R_new' ho51 (Kd.R_lt (by (with_reducible repeat (first | apply Kd.R_alloc | apply Kd.R_drewN | apply Kd.R_drew)); exact HO790.out))) (g := gb781) (o := .cells #[.int .i64 a2_0, .int .i64 a2_1, .int .i64 a2_2, .int .i64 a2_3, .bool a2_4, .int .i64 a2_5, .int .i64 a2_6] 30 (0, 0)) (by (with_reducible repeat (first | refine blk_drewN ?_ _ | refine blk_drew ?_ | refine blk_alloc ?_ _)); exact BK781.out)) (below_size (by repeat (first | (with_reducible first | exact HB.out | apply below_alloc | apply pw_below_drewN | apply below_drew1 | refine below_set ?_ GE780.out | refine below_set ?_ GE781.out) | exact HB.out))))
              have n2_ := Aside0.mk (blk_below (g := gb780) (o := .cells #[.slice A0_0 l0_0.length c0_0] 26 (0, 0)) (by (with_reducible repeat (first | refine blk_drewN ?_ _ | refine blk_drew ?_ | refine blk_alloc ?_ _)); exact BK780.out) hb)
              have n3_ := Aside0.mk (blk_below (g := gb781) (o := .cells #[.int .i64 a2_0, .int .i64 a2_1, .int .i64 a2_2, .int .i64 a2_3, .bool a2_4, .int .i64 a2_5, .int .i64 a2_6] 30 (0, 0)) (by (with_reducible repeat (first | refine blk_drewN ?_ _ | refine blk_drew ?_ | refine blk_alloc ?_ _)); exact BK781.out) hb)
              have n4_ := Aside0.mk (below_step (by repeat (first | (with_reducible first | exact HB.out | apply below_alloc | apply pw_below_drewN | apply below_drew1 | refine below_set ?_ GE780.out | refine below_set ?_ GE781.out) | exact HB.out)) hb)
              clear HO790
              clear BK780
              clear BK781
              clear HB
              have HO790 := n0_
              have HO793 := n1_
              have BK780 := n2_
              have BK781 := n3_
              have HB := n4_
              clear n0_ n1_ n2_ n3_ n4_
              clear hb ho51
              refine hK.out _ _ ⟨(blk_cell BK781.out 0).trans rfl, (blk_cell BK781.out 1).trans rfl, (blk_cell BK781.out 2).trans rfl, (blk_cell BK781.out 3).trans rfl, (blk_cell BK781.out 4).trans rfl, (blk_cell BK781.out 5).trans rfl, (blk_cell BK781.out 6).trans rfl⟩ (fun hHeld => ?_)
              clear hK K
              refine norm_ (a' := ?_) ?_ ?_
              rotate_left
              · show Act.put _ (some 32) _ = _
                simp only [Act.put, List.setIfInBounds_toArray, List.set_cons_zero, List.set_cons_succ, i64_w, i32_w]
                rfl
              exact norm_ (by simp only [putAll, Act.put, List.setIfInBounds_toArray, List.set_cons_zero, List.set_cons_succ]) (hCont (v789, v792) _ ⟨hHeld, (by (with_reducible repeat (first | apply Kd.R_alloc | apply Kd.R_drewN | apply Kd.R_drew)); exact Kd.R_mono HO790.out (fun _ hk => ⟨hk.2, hk.1.2⟩)), (by (with_reducible repeat (first | apply Kd.R_alloc | apply Kd.R_drewN | apply Kd.R_drew)); exact Kd.R_mono HO793.out (fun _ hk => ⟨hk.1.2, hk.2⟩)), (by (with_reducible repeat (first | refine blk_drewN ?_ _ | refine blk_drew ?_ | refine blk_alloc ?_ _)); exact BK780.out), (by (with_reducible repeat (first | refine blk_drewN ?_ _ | refine blk_drew ?_ | refine blk_alloc ?_ _)); exact BK781.out), (by repeat (first | (with_reducible first | exact HB.out | apply below_alloc | apply pw_below_drewN | apply below_drew1 | refine below_set ?_ GE780.out | refine below_set ?_ GE781.out) | exact HB.out))⟩)
            · skip
              refine Kd.R_lit_step kimplLoan _ 30 ?hg (N := 32) ?hd (xs := ([(⟨(⟨a2_0, a2_1, a2_2, a2_3⟩ : SimplWindow), a2_4, a2_5, a2_6⟩ : SimplLoan)] : List (SimplLoan))) (inner := [.int .i64 a2_0, .int .i64 a2_1, .int .i64 a2_2, .int .i64 a2_3, .bool a2_4, .int .i64 a2_5, .int .i64 a2_6]) (ok := fun _ => True) (okp := fun _ => True) ?hr ?hp (fun _ hk => hk) trivial (Below.refl _ _) (Nat.le_refl _) (by simp) ?_; (case hd => rfl); (case hg => rfl); (case hr => first | (go_simp; done) | (go_simp; rfl)); (case hp => exact (Reps.c7 (show Kd.M kimplLoan _ _ _ (⟨(⟨a2_0, a2_1, a2_2, a2_3⟩ : SimplWindow), a2_4, a2_5, a2_6⟩ : SimplLoan) [.int .i64 a2_0, .int .i64 a2_1, .int .i64 a2_2, .int .i64 a2_3, .bool a2_4, .int .i64 a2_5, .int .i64 a2_6] from (kimplLoan_mkM _ _ _ (⟨(⟨a2_0, a2_1, a2_2, a2_3⟩ : SimplWindow), a2_4, a2_5, a2_6⟩ : SimplLoan) )) (Reps.none _ _)))
              intro v792 w49 ho50 hb hg_ hnew_
              clear hg_ hnew_
              (first | rw [← Ny791.out] at ho50 | (simp only [Int.reduceToNat] at ho50; rw [← Ny791.out] at ho50))
              have n0_ := Aside0.mk (Kd.R_lower (Kd.R_newB ho50 (g := gb781) (o := .cells #[.int .i64 a2_0, .int .i64 a2_1, .int .i64 a2_2, .int .i64 a2_3, .bool a2_4, .int .i64 a2_5, .int .i64 a2_6] 30 (0, 0)) (by (with_reducible repeat (first | refine blk_drewN ?_ _ | refine blk_drew ?_ | refine blk_alloc ?_ _)); exact BK781.out)) (below_size (by repeat (first | (with_reducible first | exact HB.out | apply below_alloc | apply pw_below_drewN | apply below_drew1 | refine below_set ?_ GE780.out | refine below_set ?_ GE781.out) | exact HB.out))))
              have n1_ := Aside0.mk (blk_below (g := gb780) (o := .cells #[.slice A0_0 l0_0.length c0_0] 26 (0, 0)) (by (with_reducible repeat (first | refine blk_drewN ?_ _ | refine blk_drew ?_ | refine blk_alloc ?_ _)); exact BK780.out) hb)
              have n2_ := Aside0.mk (blk_below (g := gb781) (o := .cells #[.int .i64 a2_0, .int .i64 a2_1, .int .i64 a2_2, .int .i64 a2_3, .bool a2_4, .int .i64 a2_5, .int .i64 a2_6] 30 (0, 0)) (by (with_reducible repeat (first | refine blk_drewN ?_ _ | refine blk_drew ?_ | refine blk_alloc ?_ _)); exact BK781.out) hb)
              have n3_ := Aside0.mk (below_step (by repeat (first | (with_reducible first | exact HB.out | apply below_alloc | apply pw_below_drewN | apply below_drew1 | refine below_set ?_ GE780.out | refine below_set ?_ GE781.out) | exact HB.out)) hb)
              clear BK780
              clear BK781
              clear HB
              have HO793 := n0_
              have BK780 := n1_
              have BK781 := n2_
              have HB := n3_
              clear n0_ n1_ n2_ n3_
              clear hb ho50
              refine hK.out _ _ ⟨(blk_cell BK781.out 0).trans rfl, (blk_cell BK781.out 1).trans rfl, (blk_cell BK781.out 2).trans rfl, (blk_cell BK781.out 3).trans rfl, (blk_cell BK781.out 4).trans rfl, (blk_cell BK781.out 5).trans rfl, (blk_cell BK781.out 6).trans rfl⟩ (fun hHeld => ?_)
              clear hK K
              refine norm_ (a' := ?_) ?_ ?_
              rotate_left
              · show Act.put _ (some 32) _ = _
                simp only [Act.put, List.setIfInBounds_toArray, List.set_cons_zero, List.set_cons_succ, i64_w, i32_w]
                rfl
              refine one_ (i := 1) (N := some 30) #[true, true, true, true, false, false, false, false] rfl rfl (one_of HT_.out (by kernel_rfl)) (by decide) (fun K hK => ?_)
              refine goes_ Try.func97 (by kernel_rfl) rfl #[.slice A1 l1.length c1] (by rfl) rfl rfl (by (try simp only [List.map_toArray, List.map_cons, List.map_nil]); first | done | rfl | (simp only [List.length_drop, List.length_take]; rfl)) ?_
              with_reducible refine (slices_Clone_impl_Loan_impl_Loan.calls _ _ l1 t788 _ ?side1 ?side2 A45.out).mono ?_
              (case side1 => repeat (first | exact (Kd.C_below HR1.out HB.out) | (with_reducible refine Kd.C_alloc ?_ _) | (with_reducible refine Kd.C_drewN ?_ _) | (with_reducible refine Kd.C_drew ?_)))
              (case side2 => exact HC1.out)
              rintro e w51 ⟨v789, rfl, ho0, hb⟩
              refine ⟨_, rfl, ?_⟩
              have n0_ := Aside0.mk (Kd.R_elder' (by (with_reducible repeat (first | apply Kd.R_alloc | apply Kd.R_drewN | apply Kd.R_drew)); exact HO793.out) (Kd.R_base ho0) hb)
              have n1_ := Aside0.mk (Kd.R_lower (Kd.R_newB (Kd.R_new' ho0 (Kd.R_lt (by (with_reducible repeat (first | apply Kd.R_alloc | apply Kd.R_drewN | apply Kd.R_drew)); exact HO793.out))) (g := gb781) (o := .cells #[.int .i64 a2_0, .int .i64 a2_1, .int .i64 a2_2, .int .i64 a2_3, .bool a2_4, .int .i64 a2_5, .int .i64 a2_6] 30 (0, 0)) (by (with_reducible repeat (first | refine blk_drewN ?_ _ | refine blk_drew ?_ | refine blk_alloc ?_ _)); exact BK781.out)) (below_size (by repeat (first | (with_reducible first | exact HB.out | apply below_alloc | apply pw_below_drewN | apply below_drew1 | refine below_set ?_ GE780.out | refine below_set ?_ GE781.out) | exact HB.out))))
              have n2_ := Aside0.mk (blk_below (g := gb780) (o := .cells #[.slice A0_0 l0_0.length c0_0] 26 (0, 0)) (by (with_reducible repeat (first | refine blk_drewN ?_ _ | refine blk_drew ?_ | refine blk_alloc ?_ _)); exact BK780.out) hb)
              have n3_ := Aside0.mk (blk_below (g := gb781) (o := .cells #[.int .i64 a2_0, .int .i64 a2_1, .int .i64 a2_2, .int .i64 a2_3, .bool a2_4, .int .i64 a2_5, .int .i64 a2_6] 30 (0, 0)) (by (with_reducible repeat (first | refine blk_drewN ?_ _ | refine blk_drew ?_ | refine blk_alloc ?_ _)); exact BK781.out) hb)
              have n4_ := Aside0.mk (below_step (by repeat (first | (with_reducible first | exact HB.out | apply below_alloc | apply pw_below_drewN | apply below_drew1 | refine below_set ?_ GE780.out | refine below_set ?_ GE781.out) | exact HB.out)) hb)
              clear HO793
              clear BK780
              clear BK781
              clear HB
              have HO793 := n0_
              have HO790 := n1_
              have BK780 := n2_
              have BK781 := n3_
              have HB := n4_
              clear n0_ n1_ n2_ n3_ n4_
              (try clear hb)
              (try clear hb2)
              (try clear hk)
              (try clear hi)
              (try clear ho0)
              refine hK.out _ _ ⟨(blk_cell BK781.out 0).trans rfl, (blk_cell BK781.out 1).trans rfl, (blk_cell BK781.out 2).trans rfl, (blk_cell BK781.out 3).trans rfl, (blk_cell BK781.out 4).trans rfl, (blk_cell BK781.out 5).trans rfl, (blk_cell BK781.out 6).trans rfl⟩ (fun hHeld => ?_)
              clear hK K
              refine norm_ (a' := ?_) ?_ ?_
              rotate_left
              · show Act.put _ (some 30) _ = _
                simp only [Act.put, List.setIfInBounds_toArray, List.set_cons_zero, List.set_cons_succ, i64_w, i32_w]
                rfl
              exact norm_ (by simp only [putAll, Act.put, List.setIfInBounds_toArray, List.set_cons_zero, List.set_cons_succ]) (hCont (v789, v792) _ ⟨hHeld, (by (with_reducible repeat (first | apply Kd.R_alloc | apply Kd.R_drewN | apply Kd.R_drew)); exact Kd.R_mono HO790.out (fun _ hk => ⟨hk.1.2, hk.2⟩)), (by (with_reducible repeat (first | apply Kd.R_alloc | apply Kd.R_drewN | apply Kd.R_drew)); exact Kd.R_mono HO793.out (fun _ hk => ⟨hk.2, hk.1.2⟩)), (by (with_reducible repeat (first | refine blk_drewN ?_ _ | refine blk_drew ?_ | refine blk_alloc ?_ _)); exact BK780.out), (by (with_reducible repeat (first | refine blk_drewN ?_ _ | refine blk_drew ?_ | refine blk_alloc ?_ _)); exact BK781.out), (by repeat (first | (with_reducible first | exact HB.out | apply below_alloc | apply pw_below_drewN | apply below_drew1 | refine below_set ?_ GE780.out | refine below_set ?_ GE781.out) | exact HB.out))⟩)
          rintro ⟨v789, v792⟩ w52 ⟨hS_, h0_, h1_, h2_, h3_, h4_⟩
          have n0_ : Aside0 (Kd.R kimplLoan 30 w52 w.heap.size (fun k_ => some k_ ≠ (v792 : Value).ownBlock ∧ k_ ≠ gb781) v789 t788) := ⟨h0_⟩
          have n1_ : Aside0 (Kd.R kimplLoan 30 w52 w.heap.size (fun k_ => some k_ ≠ (v789 : Value).ownBlock ∧ k_ ≠ gb781) v792 y791) := ⟨h1_⟩
          have n2_ : Aside0 (w52.heap[gb780]? = some (.cells #[.slice A0_0 l0_0.length c0_0] 26 (0, 0))) := ⟨h2_⟩
          have n3_ : Aside0 (w52.heap[gb781]? = some (.cells #[.int .i64 a2_0, .int .i64 a2_1, .int .i64 a2_2, .int .i64 a2_3, .bool a2_4, .int .i64 a2_5, .int .i64 a2_6] 30 (0, 0))) := ⟨h3_⟩
          have n4_ : Aside0 (Below w.heap.size w w52) := ⟨h4_⟩
          clear BK780
          clear BK781
          clear HB
          clear h0_ h1_ h2_ h3_ h4_
          have HO790 := n0_
          have HO793 := n1_
          have BK780 := n2_
          have BK781 := n3_
          have HB := n4_
          clear n0_ n1_ n2_ n3_ n4_
          have hHeld : w52.cell? ⟨gb781, 0, none⟩ = some (.int .i64 a2_0) ∧ w52.cell? ⟨gb781, 1, none⟩ = some (.int .i64 a2_1) ∧ w52.cell? ⟨gb781, 2, none⟩ = some (.int .i64 a2_2) ∧ w52.cell? ⟨gb781, 3, none⟩ = some (.int .i64 a2_3) ∧ w52.cell? ⟨gb781, 4, none⟩ = some (.bool a2_4) ∧ w52.cell? ⟨gb781, 5, none⟩ = some (.int .i64 a2_5) ∧ w52.cell? ⟨gb781, 6, none⟩ = some (.int .i64 a2_6) := hS_
          obtain ⟨Ao54, co54, eo54⟩ := Kd.R_slice HO793.out
          (first | subst eo54 | (injection eo54 with f1_ f2_ f3_; have f4_ := f1_.symm; have f5_ := f3_.symm; clear f1_ f2_ f3_; subst f4_; subst f5_))
          refine norm_ (a' := ?_) ?_ ?_
          rotate_left
          · simp only [putAll, Act.put, List.setIfInBounds_toArray, List.set_cons_zero, List.set_cons_succ]
            rfl
          refine one_ (i := 4) (N := some 33) #[true, true, true, true, true, false, false, false] rfl rfl (one_of HT_.out (by kernel_rfl)) (by decide) (fun K hK => ?_)
          refine Kd.R_append_rows_step kimplLoan (w0 := w) w.heap.size (by rfl) (.tmp 30) (.tmp 32) 43 30 (.agg #[(.int .i64 0), (.int .i64 0), (.int .i64 0), (.int .i64 0), (.bool false), (.int .i64 0), (.int .i64 0)]) 56 rfl Try.underlying43 info30 rfl (by decide) (by omega) v789 t788 y791 _ _ _ (fun k_ => some k_ ≠ (.slice Ao54 y791.length co54 : Value).ownBlock ∧ k_ ≠ gb781) (fun _ => False) rfl rfl ?aO ?aR (fun _ _ h => h) (fun _ h => h.elim) ?aF ?aB ?aS ?aL ?_
          (case aR => repeat (first | exact (Kd.R_reads' HO793.out).2.2 | (with_reducible refine Kd.C_alloc ?_ _) | (with_reducible refine Kd.C_drewN ?_ _) | (with_reducible refine Kd.C_drew ?_)))
          (case aB => exact (by repeat (first | (with_reducible first | exact HB.out | apply below_alloc | apply pw_below_drewN | apply below_drew1 | refine below_set ?_ GE780.out | refine below_set ?_ GE781.out) | exact HB.out)))
          (case aF => exact (fun k_ hk => ⟨Kd.fresh' (Kd.R_lt (by (with_reducible repeat (first | apply Kd.R_alloc | apply Kd.R_drewN | apply Kd.R_drew)); exact HO793.out)) k_ hk, Kd.freshB (g := gb781) (o := .cells #[.int .i64 a2_0, .int .i64 a2_1, .int .i64 a2_2, .int .i64 a2_3, .bool a2_4, .int .i64 a2_5, .int .i64 a2_6] 30 (0, 0)) (by (with_reducible repeat (first | refine blk_drewN ?_ _ | refine blk_drew ?_ | refine blk_alloc ?_ _)); exact BK781.out) k_ hk⟩))
          (case aO => exact (by (with_reducible repeat (first | apply Kd.R_alloc | apply Kd.R_drewN | apply Kd.R_drew)); exact HO790.out))
          (case aS => exact (below_size (by repeat (first | (with_reducible first | exact HB.out | apply below_alloc | apply pw_below_drewN | apply below_drew1 | refine below_set ?_ GE780.out | refine below_set ?_ GE781.out) | exact HB.out))))
          (case aL => have := LMc46.out; omega)
          intro v795 w53 ho hb hg hat
          rw [← Ny794.out] at ho
          have n0_ := Aside0.mk (blk_grown (g := gb780) (o := .cells #[.slice A0_0 l0_0.length c0_0] 26 (0, 0)) (by (with_reducible repeat (first | refine blk_drewN ?_ _ | refine blk_drew ?_ | refine blk_alloc ?_ _)); exact BK780.out) hg (Kd.R_ne HO790.out BK780.out (by decide)))
          have n1_ := Aside0.mk (blk_grown (g := gb781) (o := .cells #[.int .i64 a2_0, .int .i64 a2_1, .int .i64 a2_2, .int .i64 a2_3, .bool a2_4, .int .i64 a2_5, .int .i64 a2_6] 30 (0, 0)) (by (with_reducible repeat (first | refine blk_drewN ?_ _ | refine blk_drew ?_ | refine blk_alloc ?_ _)); exact BK781.out) hg (Kd.R_away HO790.out (fun _ hk => hk.2)))
          have n2_ := Aside0.mk (Kd.R_after (ok := (fun k_ => k_ ≠ gb781)) (by (with_reducible repeat (first | apply Kd.R_alloc | apply Kd.R_drewN | apply Kd.R_drew)); exact Kd.R_mono HO793.out (fun _ hk => ⟨hk.2, hk.1⟩)) hg hat)
          have n3_ := Aside0.mk (hb)
          have n4_ := Aside0.mk (ho)
          clear BK780
          clear BK781
          clear HO793
          clear HB
          clear HO790
          have BK780 := n0_
          have BK781 := n1_
          have HO793 := n2_
          have HB := n3_
          have HO796 := n4_
          clear n0_ n1_ n2_ n3_ n4_
          clear ho hb hg hat
          obtain ⟨Ao55, co55, eo55⟩ := Kd.R_slice HO796.out
          (first | subst eo55 | (injection eo55 with f1_ f2_ f3_; have f4_ := f1_.symm; have f5_ := f3_.symm; clear f1_ f2_ f3_; subst f4_; subst f5_))
          refine hK.out _ _ ⟨(blk_cell BK781.out 0).trans rfl, (blk_cell BK781.out 1).trans rfl, (blk_cell BK781.out 2).trans rfl, (blk_cell BK781.out 3).trans rfl, (blk_cell BK781.out 4).trans rfl, (blk_cell BK781.out 5).trans rfl, (blk_cell BK781.out 6).trans rfl⟩ (fun hHeld => ?_)
          clear hK K
          refine norm_ (a' := ?_) ?_ ?_
          rotate_left
          · show Act.put _ (some 33) _ = _
            simp only [Act.put, List.setIfInBounds_toArray, List.set_cons_zero, List.set_cons_succ, i64_w, i32_w]
            rfl
          refine one_ (i := 5) (N := some 34) #[true, true, true, true, true, true, false, false] rfl rfl (one_of HT_.out (by kernel_rfl)) (by decide) (fun K hK => ?_)
          refine goes_ Try.func91 (by kernel_rfl) rfl #[.slice Ao55 y794.length co55] (by rfl) rfl rfl (by (try simp only [List.map_toArray, List.map_cons, List.map_nil]); first | done | rfl | (simp only [List.length_drop, List.length_take]; rfl)) ?_
          with_reducible refine (impl_areClean.calls kj3 _ _ y794 t797 _ ?side1 ?side2 A47.out).mono ?_
          (case side1 => repeat (first | exact (Kd.R_reads' HO796.out).2.2 | (with_reducible refine Kd.C_alloc ?_ _) | (with_reducible refine Kd.C_drewN ?_ _) | (with_reducible refine Kd.C_drew ?_)))
          (case side2 => exact (Kd.R_reads' HO796.out).2.1)
          rintro e w56 ⟨rfl, hb⟩
          refine ⟨_, rfl, ?_⟩
          have n0_ := Aside0.mk (Kd.R_below (by (with_reducible repeat (first | apply Kd.R_alloc | apply Kd.R_drewN | apply Kd.R_drew)); exact HO793.out) hb)
          have n1_ := Aside0.mk (Kd.R_below (by (with_reducible repeat (first | apply Kd.R_alloc | apply Kd.R_drewN | apply Kd.R_drew)); exact HO796.out) hb)
          have n2_ := Aside0.mk (blk_below (g := gb780) (o := .cells #[.slice A0_0 l0_0.length c0_0] 26 (0, 0)) (by (with_reducible repeat (first | refine blk_drewN ?_ _ | refine blk_drew ?_ | refine blk_alloc ?_ _)); exact BK780.out) hb)
          have n3_ := Aside0.mk (blk_below (g := gb781) (o := .cells #[.int .i64 a2_0, .int .i64 a2_1, .int .i64 a2_2, .int .i64 a2_3, .bool a2_4, .int .i64 a2_5, .int .i64 a2_6] 30 (0, 0)) (by (with_reducible repeat (first | refine blk_drewN ?_ _ | refine blk_drew ?_ | refine blk_alloc ?_ _)); exact BK781.out) hb)
          have n4_ := Aside0.mk (below_step (by repeat (first | (with_reducible first | exact HB.out | apply below_alloc | apply pw_below_drewN | apply below_drew1 | refine below_set ?_ GE780.out | refine below_set ?_ GE781.out) | exact HB.out)) hb)
          clear HO793
          clear HO796
          clear BK780
          clear BK781
          clear HB
          have HO793 := n0_
          have HO796 := n1_
          have BK780 := n2_
          have BK781 := n3_
          have HB := n4_
          clear n0_ n1_ n2_ n3_ n4_
          (try clear hb)
          (try clear hb2)
          (try clear hk)
          (try clear hi)
          refine hK.out _ _ ⟨(blk_cell BK781.out 0).trans rfl, (blk_cell BK781.out 1).trans rfl, (blk_cell BK781.out 2).trans rfl, (blk_cell BK781.out 3).trans rfl, (blk_cell BK781.out 4).trans rfl, (blk_cell BK781.out 5).trans rfl, (blk_cell BK781.out 6).trans rfl⟩ (fun hHeld => ?_)
          clear hK K
          refine norm_ (a' := ?_) ?_ ?_
          rotate_left
          · show Act.put _ (some 34) _ = _
            simp only [Act.put, List.setIfInBounds_toArray, List.set_cons_zero, List.set_cons_succ, i64_w, i32_w]
            rfl
          refine pure_ (i := 6) (N := some 6) (v := ?_) (a' := ?_) #[true, true, true, true, true, true, true, false] rfl rfl (any_of HT_.out (by kernel_rfl)) (fun _ _ _ h => h) (Or.inl ⟨by rfl, ?_⟩) ?_ ?_
          rotate_left
          · intro w'
            go_simp
            with_reducible rfl
          rotate_left
          · simp only [Act.put, List.setIfInBounds_toArray, List.set_cons_zero, List.set_cons_succ, i64_w, i32_w]
            rfl
          refine pure_ (i := 7) (N := some 7) (v := ?_) (a' := ?_) #[true, true, true, true, true, true, true, true] rfl rfl (any_of HT_.out (by kernel_rfl)) (fun _ _ _ h => h) (Or.inl ⟨by rfl, ?_⟩) ?_ ?_
          rotate_left
          · intro w'
            go_simp
            with_reducible rfl
          rotate_left
          · simp only [Act.put, List.setIfInBounds_toArray, List.set_cons_zero, List.set_cons_succ, i64_w, i32_w]
            rfl
          refine done_ (done_of HT_.out (by kernel_rfl)) ?_
          try go_wp2
          go_ret2
          exact ⟨by first | rfl | (simp [errW_none, errW_some] <;> rfl) | (simp [*, errW_none, errW_some] <;> rfl), by repeat (first | (with_reducible first | exact HB.out | apply below_alloc | apply pw_below_drewN | apply below_drew1 | refine below_set ?_ GE780.out | refine below_set ?_ GE781.out) | exact HB.out)⟩
        · rw [if_neg c46] at H
          exact absurd H (by simp)

end Go.Proofs.Ytpbboooeahmgpaa.P


namespace Go.Proofs.Ytpbboooeahmgpaa.P
open Go.RowKit Go.Proofs.YtpbboooeahmgpaaW.PrintWords Go.Proofs.YtpbboooeahmgpaaW.PrintLast Go.Proofs.YtpbboooeahmgpaaW.PrintMore
attribute [local go_sem] max2_int min2_int max_two min_two max_three min_three max_four min_four   -- for this text's walks alone
set_option linter.unusedVariables false
set_option linter.unusedSimpArgs false

/-! ### laws_FnExactCanLend: function 7 -/
def laws_FnExactCanLend.j0 : Nat → List (SlawsLoan) → List (SimplLoan) → Bool → List (List Int) → List (List Int) → Option (Bool)
  | 0, _, _, _, _, _ => none
  | k + 1, x1, x11, x53, x799000, x821000 => if x53 = true then (some false) else ((laws_toMemory.f x799000).bind fun t833 => ((laws_eqMemory.f k x821000 t833).bind fun t836 => (if t836 = true then ((laws_toLoanS.f k x1).bind fun t837 => ((laws_eqLoanS.f k x11 t837).bind fun t840 => (if t840 = true then (some true) else (some false)))) else (some false))))
def laws_FnExactCanLend.f (k : Nat) (l0_0 : List (List Int)) (l1 : List (SlawsLoan)) (a2_0 : Int) (a2_1 : Int) (a2_2 : Int) (a2_3 : Int) (a2_4 : Bool) (a2_5 : Int) (a2_6 : Int) : Option (Bool) := (laws_szMemory.f k l0_0 1048576).bind fun t800 => (if t800 < 0 then (some true) else ((laws_szLoanS.f l1 t800).bind fun t801 => (if t801 < 0 then (some true) else ((laws_toMemory.f l0_0).bind fun t802 => ((laws_toLoanS.f k l1).bind fun t805 => ((laws_toLoan.f a2_0 a2_1 a2_2 a2_3 a2_4 a2_5 a2_6).bind fun bt808 => ((spec_CanLend.f k t802 t805 bt808.1 bt808.2.1 bt808.2.2.1 bt808.2.2.2.1 bt808.2.2.2.2.1 bt808.2.2.2.2.2.1 bt808.2.2.2.2.2.2).bind fun bt815 => ((laws_toMemory.f l0_0).bind fun t817 => ((laws_toLoanS.f k l1).bind fun t821 => ((laws_toLoan.f a2_0 a2_1 a2_2 a2_3 a2_4 a2_5 a2_6).bind fun bt824 => ((impl_CanLend.f k t817 t821 bt824.1 bt824.2.1 bt824.2.2.1 bt824.2.2.2.1 bt824.2.2.2.2.1 bt824.2.2.2.2.2.1 bt824.2.2.2.2.2.2).bind fun bt831 => (if (bt831.1 != bt815.1) = true then (laws_FnExactCanLend.j0 k l1 t821 true l0_0 t817) else (laws_FnExactCanLend.j0 k l1 t821 (bt831.2 != bt815.2) l0_0 t817)))))))))))))
def laws_FnExactCanLend.T8 : Bool × List (List Nat × List Nat) := (true, [([], []), ([0], [0]), ([], []), ([2, 1], [2]), ([], []), ([4, 3], [4]), ([1, 3, 5, 5], [1, 3, 5]), ([6], [6]), ([7], [7]), ([7], [7]), ([8, 6, 0, 1, 2, 3, 4, 5, 6, 7, 8], [8]), ([9, 10, 0, 1, 2, 3, 4, 5, 6, 7, 8, 9, 10], [9])])
def laws_FnExactCanLend.B8 : List Nat := [0, 1, 0, 7, 0, 31, 63, 127, 255, 255, 511, 2047]
theorem laws_FnExactCanLend.tab8 : rtab .any (opsOf Try.f7 8) = laws_FnExactCanLend.T8 := by kernel_rfl
theorem laws_FnExactCanLend.bits8 : waitsOk laws_FnExactCanLend.T8.2 laws_FnExactCanLend.B8 = true := by kernel_rfl
def laws_FnExactCanLend.T11 : Bool × List (List Nat × List Nat) := (true, [([], []), ([], []), ([], []), ([2], [2]), ([0, 1, 3, 3], [0, 1, 3]), ([4], [4]), ([5], [5]), ([5], [5]), ([6, 4, 0, 1, 2, 3, 4, 5, 6], [6]), ([7, 8, 0, 1, 2, 3, 4, 5, 6, 7, 8], [7])])
def laws_FnExactCanLend.B11 : List Nat := [0, 0, 0, 4, 15, 31, 63, 63, 127, 511]
theorem laws_FnExactCanLend.tab11 : rtab .any (opsOf Try.f7 11) = laws_FnExactCanLend.T11 := by kernel_rfl
theorem laws_FnExactCanLend.bits11 : waitsOk laws_FnExactCanLend.T11.2 laws_FnExactCanLend.B11 = true := by kernel_rfl
set_option maxHeartbeats 8000000 in
set_option maxRecDepth 100000 in
theorem laws_FnExactCanLend.calls (k : Nat) (A0_0 : Option Addr) (c0_0 : Nat) (l0_0 : List (List Int)) (A1 : Option Addr) (c1 : Nat) (l1 : List (SlawsLoan)) (a2_0 : Int) (a2_1 : Int) (a2_2 : Int) (a2_3 : Int) (a2_4 : Bool) (a2_5 : Int) (a2_6 : Int) (r : Bool) (w : World) (hr0_0 : Kd.C (Kd.slice 5 (Kd.int .u8)) w A0_0 l0_0.length l0_0) (hc0_0 : l0_0.length ≤ c0_0) (hr1 : Kd.C klawsLoan w A1 l1.length l1) (hc1 : l1.length ≤ c1) (h : laws_FnExactCanLend.f k l0_0 l1 a2_0 a2_1 a2_2 a2_3 a2_4 a2_5 a2_6 = some r) :
    Calls Try.prog 7 #[.agg #[.slice A0_0 l0_0.length c0_0], .slice A1 l1.length c1, .agg #[.int .i64 a2_0, .int .i64 a2_1, .int .i64 a2_2, .int .i64 a2_3, .bool a2_4, .int .i64 a2_5, .int .i64 a2_6]] w fun e w' => e = .returned (.bool r) ∧ Below w.heap.size w w' := by
  have hu49 := Try.underlying49
  have hu53 := Try.underlying53
  have hu26 := Try.underlying26
  have HR0_0 := Aside0.mk hr0_0
  have HC0_0 := Aside0.mk hc0_0
  clear hr0_0 hc0_0
  have HR1 := Aside0.mk hr1
  have HC1 := Aside0.mk hc1
  clear hr1 hc1
  have HB := Aside0.mk (Below.refl w.heap.size w)
  have H : ((laws_szMemory.f k l0_0 1048576).bind fun t800 => (if t800 < 0 then (some true) else ((laws_szLoanS.f l1 t800).bind fun t801 => (if t801 < 0 then (some true) else ((laws_toMemory.f l0_0).bind fun t802 => ((laws_toLoanS.f k l1).bind fun t805 => ((laws_toLoan.f a2_0 a2_1 a2_2 a2_3 a2_4 a2_5 a2_6).bind fun bt808 => ((spec_CanLend.f k t802 t805 bt808.1 bt808.2.1 bt808.2.2.1 bt808.2.2.2.1 bt808.2.2.2.2.1 bt808.2.2.2.2.2.1 bt808.2.2.2.2.2.2).bind fun bt815 => ((laws_toMemory.f l0_0).bind fun t817 => ((laws_toLoanS.f k l1).bind fun t821 => ((laws_toLoan.f a2_0 a2_1 a2_2 a2_3 a2_4 a2_5 a2_6).bind fun bt824 => ((impl_CanLend.f k t817 t821 bt824.1 bt824.2.1 bt824.2.2.1 bt824.2.2.2.1 bt824.2.2.2.2.1 bt824.2.2.2.2.2.1 bt824.2.2.2.2.2.2).bind fun bt831 => (if (bt831.1 != bt815.1) = true then (laws_FnExactCanLend.j0 k l1 t821 true l0_0 t817) else (laws_FnExactCanLend.j0 k l1 t821 (bt831.2 != bt815.2) l0_0 t817)))))))))))))) = some r := h
  clear h
  replace H := Option.bind_eq_some_iff.mp H
  obtain ⟨t800, A40, H⟩ := H
  replace H : (if t800 < 0 then (some true) else ((laws_szLoanS.f l1 t800).bind fun t801 => (if t801 < 0 then (some true) else ((laws_toMemory.f l0_0).bind fun t802 => ((laws_toLoanS.f k l1).bind fun t805 => ((laws_toLoan.f a2_0 a2_1 a2_2 a2_3 a2_4 a2_5 a2_6).bind fun bt808 => ((spec_CanLend.f k t802 t805 bt808.1 bt808.2.1 bt808.2.2.1 bt808.2.2.2.1 bt808.2.2.2.2.1 bt808.2.2.2.2.2.1 bt808.2.2.2.2.2.2).bind fun bt815 => ((laws_toMemory.f l0_0).bind fun t817 => ((laws_toLoanS.f k l1).bind fun t821 => ((laws_toLoan.f a2_0 a2_1 a2_2 a2_3 a2_4 a2_5 a2_6).bind fun bt824 => ((impl_CanLend.f k t817 t821 bt824.1 bt824.2.1 bt824.2.2.1 bt824.2.2.2.1 bt824.2.2.2.2.1 bt824.2.2.2.2.2.1 bt824.2.2.2.2.2.2).bind fun bt831 => (if (bt831.1 != bt815.1) = true then (laws_FnExactCanLend.j0 k l1 t821 true l0_0 t817) else (laws_FnExactCanLend.j0 k l1 t821 (bt831.2 != bt815.2) l0_0 t817))))))))))))) = some r := H
  have A4 := Aside0.mk A40
  clear A40
  by_cases c5 : t800 < 0
  · rw [if_pos c5] at H
    have c5b0 : decide (t800 < 0) = true := decide_eq_true c5
    clear c5
    obtain rfl := Option.some.inj H
    go_enter Try.func7, Try.ntmps7
    go_wp2_with (first | ((with_reducible refine gate_dst (N := 3) rfl ?_); refine box_event ?hg (N := 3) ?hd (cs := #[.slice A0_0 l0_0.length c0_0]) (t := 49) ?hr ?_; (case hd => rfl); (case hg => rfl); (case hr => first | (go_simp; done) | (go_simp; rfl)); intro gb798 hg w6 hbox hb; have n0_ := Aside0.mk (below_step (by repeat (first | (with_reducible first | exact HB.out | apply below_alloc | apply pw_below_drewN | apply below_drew1) | exact HB.out)) hb); have n1_ := Aside0.mk (hbox); have n2_ := Aside0.mk ((by rw [hg]; exact (below_size (by repeat (first | (with_reducible first | exact HB.out | apply below_alloc | apply pw_below_drewN | apply below_drew1) | exact HB.out))) : w.heap.size ≤ gb798)); have n3_ := Aside0.mk ((by rw [hg]; exact (below_size (by repeat (first | (with_reducible first | exact HB.out | apply below_alloc | apply pw_below_drewN | apply below_drew1) | exact HB.out))) : w.heap.size ≤ gb798)); clear HB; have HB := n0_; have BK798 := n1_; have GW798 := n2_; have GE798 := n3_; clear n0_ n1_ n2_ n3_; clear hb hbox hg) | ((with_reducible refine gate_dst (N := 5) rfl ?_); refine box_event ?hg (N := 5) ?hd (cs := #[.int .i64 a2_0, .int .i64 a2_1, .int .i64 a2_2, .int .i64 a2_3, .bool a2_4, .int .i64 a2_5, .int .i64 a2_6]) (t := 53) ?hr ?_; (case hd => rfl); (case hg => rfl); (case hr => first | (go_simp; done) | (go_simp; rfl)); intro gb799 hg w7 hbox hb; have n0_ := Aside0.mk (blk_below (g := gb798) (o := .cells #[.slice A0_0 l0_0.length c0_0] 49 (0, 0)) (by (with_reducible repeat (first | refine blk_drewN ?_ _ | refine blk_drew ?_ | refine blk_alloc ?_ _)); exact BK798.out) hb); have n1_ := Aside0.mk (below_step (by repeat (first | (with_reducible first | exact HB.out | apply below_alloc | apply pw_below_drewN | apply below_drew1 | refine below_set ?_ GE798.out) | exact HB.out)) hb); have n2_ := Aside0.mk (hbox); have n3_ := Aside0.mk ((by rw [hg]; exact (below_size (by repeat (first | (with_reducible first | exact HB.out | apply below_alloc | apply pw_below_drewN | apply below_drew1 | refine below_set ?_ GE798.out) | exact HB.out))) : w.heap.size ≤ gb799)); have n4_ := Aside0.mk ((by rw [hg]; exact (below_size (by repeat (first | (with_reducible first | exact HB.out | apply below_alloc | apply pw_below_drewN | apply below_drew1 | refine below_set ?_ GE798.out) | exact HB.out))) : w.heap.size ≤ gb799)); have n5_ := Aside0.mk ((by rw [hg]; exact Nat.ne_of_lt (blk_lt (g := gb798) (o := .cells #[.slice A0_0 l0_0.length c0_0] 49 (0, 0)) (by (with_reducible repeat (first | refine blk_drewN ?_ _ | refine blk_drew ?_ | refine blk_alloc ?_ _)); exact BK798.out)) : gb798 ≠ gb799)); have n6_ := Aside0.mk ((by rw [hg]; exact Nat.ne_of_gt (blk_lt (g := gb798) (o := .cells #[.slice A0_0 l0_0.length c0_0] 49 (0, 0)) (by (with_reducible repeat (first | refine blk_drewN ?_ _ | refine blk_drew ?_ | refine blk_alloc ?_ _)); exact BK798.out)) : gb799 ≠ gb798)); clear BK798; clear HB; have BK798 := n0_; have HB := n1_; have BK799 := n2_; have GW799 := n3_; have GE799 := n4_; have NB798_799 := n5_; have NB799_798 := n6_; clear n0_ n1_ n2_ n3_ n4_ n5_ n6_; clear hb hbox hg; have hnb8 := NB798_799.out; have hnc8 := NB799_798.out; have hcz9_0 : w7.cell? ⟨gb798, 0, none⟩ = some (.slice A0_0 l0_0.length c0_0) := (blk_cell BK798.out 0).trans rfl; have hfz9_0 := blk_frozen BK798.out 0) | ((with_reducible refine gate_callee (f := 24) rfl ?_); refine goesL_ (some 16) rfl rfl Try.func24 (by kernel_rfl) rfl #[.agg #[.slice A0_0 l0_0.length c0_0], .int .i64 1048576] rfl (by (try simp only [List.map_toArray, List.map_cons, List.map_nil]); first | done | rfl | (simp only [List.length_drop, List.length_take]; rfl)) ?_; (with_reducible refine (laws_szMemory.calls k _ _ l0_0 1048576 t800 _ ?side1 ?side2 A4.out).mono ?_); (case side1 => repeat (first | exact (Kd.C_below HR0_0.out HB.out) | (with_reducible refine Kd.C_alloc ?_ _) | (with_reducible refine Kd.C_drewN ?_ _) | (with_reducible refine Kd.C_drew ?_))); (case side2 => exact HC0_0.out); rintro e w10 ⟨rfl, hb⟩; refine ⟨_, rfl, ?_⟩; have n0_ := Aside0.mk (blk_below (g := gb798) (o := .cells #[.slice A0_0 l0_0.length c0_0] 49 (0, 0)) (by (with_reducible repeat (first | refine blk_drewN ?_ _ | refine blk_drew ?_ | refine blk_alloc ?_ _)); exact BK798.out) hb); have n1_ := Aside0.mk (blk_below (g := gb799) (o := .cells #[.int .i64 a2_0, .int .i64 a2_1, .int .i64 a2_2, .int .i64 a2_3, .bool a2_4, .int .i64 a2_5, .int .i64 a2_6] 53 (0, 0)) (by (with_reducible repeat (first | refine blk_drewN ?_ _ | refine blk_drew ?_ | refine blk_alloc ?_ _)); exact BK799.out) hb); have n2_ := Aside0.mk (below_step (by repeat (first | (with_reducible first | exact HB.out | apply below_alloc | apply pw_below_drewN | apply below_drew1 | refine below_set ?_ GE798.out | refine below_set ?_ GE799.out) | exact HB.out)) hb); clear BK798; clear BK799; clear HB; have BK798 := n0_; have BK799 := n1_; have HB := n2_; clear n0_ n1_ n2_; (try clear hb); (try clear hb2); (try clear hk); (try clear hi)))
    go_ret
    exact ⟨by first | rfl | (simp [errW_none, errW_some] <;> rfl) | (simp [*, errW_none, errW_some] <;> rfl), by repeat (first | (with_reducible first | exact HB.out | apply below_alloc | apply pw_below_drewN | apply below_drew1 | refine below_set ?_ GE798.out | refine below_set ?_ GE799.out) | exact HB.out)⟩
  · rw [if_neg c5] at H
    have c5b0 : decide (t800 < 0) = false := decide_eq_false c5
    clear c5
    replace H := Option.bind_eq_some_iff.mp H
    obtain ⟨t801, A110, H⟩ := H
    replace H : (if t801 < 0 then (some true) else ((laws_toMemory.f l0_0).bind fun t802 => ((laws_toLoanS.f k l1).bind fun t805 => ((laws_toLoan.f a2_0 a2_1 a2_2 a2_3 a2_4 a2_5 a2_6).bind fun bt808 => ((spec_CanLend.f k t802 t805 bt808.1 bt808.2.1 bt808.2.2.1 bt808.2.2.2.1 bt808.2.2.2.2.1 bt808.2.2.2.2.2.1 bt808.2.2.2.2.2.2).bind fun bt815 => ((laws_toMemory.f l0_0).bind fun t817 => ((laws_toLoanS.f k l1).bind fun t821 => ((laws_toLoan.f a2_0 a2_1 a2_2 a2_3 a2_4 a2_5 a2_6).bind fun bt824 => ((impl_CanLend.f k t817 t821 bt824.1 bt824.2.1 bt824.2.2.1 bt824.2.2.2.1 bt824.2.2.2.2.1 bt824.2.2.2.2.2.1 bt824.2.2.2.2.2.2).bind fun bt831 => (if (bt831.1 != bt815.1) = true then (laws_FnExactCanLend.j0 k l1 t821 true l0_0 t817) else (laws_FnExactCanLend.j0 k l1 t821 (bt831.2 != bt815.2) l0_0 t817))))))))))) = some r := H
    have A11 := Aside0.mk A110
    clear A110
    by_cases c12 : t801 < 0
    · rw [if_pos c12] at H
      have c12b0 : decide (t801 < 0) = true := decide_eq_true c12
      clear c12
      obtain rfl := Option.some.inj H
      go_enter Try.func7, Try.ntmps7
      go_wp2_with (first | ((with_reducible refine gate_dst (N := 3) rfl ?_); refine box_event ?hg (N := 3) ?hd (cs := #[.slice A0_0 l0_0.length c0_0]) (t := 49) ?hr ?_; (case hd => rfl); (case hg => rfl); (case hr => first | (go_simp; done) | (go_simp; rfl)); intro gb798 hg w13 hbox hb; have n0_ := Aside0.mk (below_step (by repeat (first | (with_reducible first | exact HB.out | apply below_alloc | apply pw_below_drewN | apply below_drew1) | exact HB.out)) hb); have n1_ := Aside0.mk (hbox); have n2_ := Aside0.mk ((by rw [hg]; exact (below_size (by repeat (first | (with_reducible first | exact HB.out | apply below_alloc | apply pw_below_drewN | apply below_drew1) | exact HB.out))) : w.heap.size ≤ gb798)); have n3_ := Aside0.mk ((by rw [hg]; exact (below_size (by repeat (first | (with_reducible first | exact HB.out | apply below_alloc | apply pw_below_drewN | apply below_drew1) | exact HB.out))) : w.heap.size ≤ gb798)); clear HB; have HB := n0_; have BK798 := n1_; have GW798 := n2_; have GE798 := n3_; clear n0_ n1_ n2_ n3_; clear hb hbox hg) | ((with_reducible refine gate_dst (N := 5) rfl ?_); refine box_event ?hg (N := 5) ?hd (cs := #[.int .i64 a2_0, .int .i64 a2_1, .int .i64 a2_2, .int .i64 a2_3, .bool a2_4, .int .i64 a2_5, .int .i64 a2_6]) (t := 53) ?hr ?_; (case hd => rfl); (case hg => rfl); (case hr => first | (go_simp; done) | (go_simp; rfl)); intro gb799 hg w14 hbox hb; have n0_ := Aside0.mk (blk_below (g := gb798) (o := .cells #[.slice A0_0 l0_0.length c0_0] 49 (0, 0)) (by (with_reducible repeat (first | refine blk_drewN ?_ _ | refine blk_drew ?_ | refine blk_alloc ?_ _)); exact BK798.out) hb); have n1_ := Aside0.mk (below_step (by repeat (first | (with_reducible first | exact HB.out | apply below_alloc | apply pw_below_drewN | apply below_drew1 | refine below_set ?_ GE798.out) | exact HB.out)) hb); have n2_ := Aside0.mk (hbox); have n3_ := Aside0.mk ((by rw [hg]; exact (below_size (by repeat (first | (with_reducible first | exact HB.out | apply below_alloc | apply pw_below_drewN | apply below_drew1 | refine below_set ?_ GE798.out) | exact HB.out))) : w.heap.size ≤ gb799)); have n4_ := Aside0.mk ((by rw [hg]; exact (below_size (by repeat (first | (with_reducible first | exact HB.out | apply below_alloc | apply pw_below_drewN | apply below_drew1 | refine below_set ?_ GE798.out) | exact HB.out))) : w.heap.size ≤ gb799)); have n5_ := Aside0.mk ((by rw [hg]; exact Nat.ne_of_lt (blk_lt (g := gb798) (o := .cells #[.slice A0_0 l0_0.length c0_0] 49 (0, 0)) (by (with_reducible repeat (first | refine blk_drewN ?_ _ | refine blk_drew ?_ | refine blk_alloc ?_ _)); exact BK798.out)) : gb798 ≠ gb799)); have n6_ := Aside0.mk ((by rw [hg]; exact Nat.ne_of_gt (blk_lt (g := gb798) (o := .cells #[.slice A0_0 l0_0.length c0_0] 49 (0, 0)) (by (with_reducible repeat (first | refine blk_drewN ?_ _ | refine blk_drew ?_ | refine blk_alloc ?_ _)); exact BK798.out)) : gb799 ≠ gb798)); clear BK798; clear HB; have BK798 := n0_; have HB := n1_; have BK799 := n2_; have GW799 := n3_; have GE799 := n4_; have NB798_799 := n5_; have NB799_798 := n6_; clear n0_ n1_ n2_ n3_ n4_ n5_ n6_; clear hb hbox hg; have hnb15 := NB798_799.out; have hnc15 := NB799_798.out; have hcz16_0 : w14.cell? ⟨gb798, 0, none⟩ = some (.slice A0_0 l0_0.length c0_0) := (blk_cell BK798.out 0).trans rfl; have hfz16_0 := blk_frozen BK798.out 0) | ((with_reducible refine gate_callee (f := 24) rfl ?_); refine goesL_ (some 16) rfl rfl Try.func24 (by kernel_rfl) rfl #[.agg #[.slice A0_0 l0_0.length c0_0], .int .i64 1048576] rfl (by (try simp only [List.map_toArray, List.map_cons, List.map_nil]); first | done | rfl | (simp only [List.length_drop, List.length_take]; rfl)) ?_; (with_reducible refine (laws_szMemory.calls k _ _ l0_0 1048576 t800 _ ?side1 ?side2 A4.out).mono ?_); (case side1 => repeat (first | exact (Kd.C_below HR0_0.out HB.out) | (with_reducible refine Kd.C_alloc ?_ _) | (with_reducible refine Kd.C_drewN ?_ _) | (with_reducible refine Kd.C_drew ?_))); (case side2 => exact HC0_0.out); rintro e w17 ⟨rfl, hb⟩; refine ⟨_, rfl, ?_⟩; have n0_ := Aside0.mk (blk_below (g := gb798) (o := .cells #[.slice A0_0 l0_0.length c0_0] 49 (0, 0)) (by (with_reducible repeat (first | refine blk_drewN ?_ _ | refine blk_drew ?_ | refine blk_alloc ?_ _)); exact BK798.out) hb); have n1_ := Aside0.mk (blk_below (g := gb799) (o := .cells #[.int .i64 a2_0, .int .i64 a2_1, .int .i64 a2_2, .int .i64 a2_3, .bool a2_4, .int .i64 a2_5, .int .i64 a2_6] 53 (0, 0)) (by (with_reducible repeat (first | refine blk_drewN ?_ _ | refine blk_drew ?_ | refine blk_alloc ?_ _)); exact BK799.out) hb); have n2_ := Aside0.mk (below_step (by repeat (first | (with_reducible first | exact HB.out | apply below_alloc | apply pw_below_drewN | apply below_drew1 | refine below_set ?_ GE798.out | refine below_set ?_ GE799.out) | exact HB.out)) hb); clear BK798; clear BK799; clear HB; have BK798 := n0_; have BK799 := n1_; have HB := n2_; clear n0_ n1_ n2_; (try clear hb); (try clear hb2); (try clear hk); (try clear hi)) | ((with_reducible refine gate_callee (f := 25) rfl ?_); refine goesL_ (some 21) rfl rfl Try.func25 (by kernel_rfl) rfl #[.slice A1 l1.length c1, .int .i64 t800] rfl (by (try simp only [List.map_toArray, List.map_cons, List.map_nil]); first | done | rfl | (simp only [List.length_drop, List.length_take]; rfl)) ?_; (with_reducible refine (laws_szLoanS.calls _ _ l1 t800 t801 _ ?side1 ?side2 A11.out).mono ?_); (case side1 => repeat (first | exact (Kd.C_below HR1.out HB.out) | (with_reducible refine Kd.C_alloc ?_ _) | (with_reducible refine Kd.C_drewN ?_ _) | (with_reducible refine Kd.C_drew ?_))); (case side2 => exact HC1.out); rintro e w' ⟨rfl, ⟨nd, rfl⟩⟩; refine ⟨_, rfl, ?_⟩))
      go_ret
      exact ⟨by first | rfl | (simp [errW_none, errW_some] <;> rfl) | (simp [*, errW_none, errW_some] <;> rfl), by repeat (first | (with_reducible first | exact HB.out | apply below_alloc | apply pw_below_drewN | apply below_drew1 | refine below_set ?_ GE798.out | refine below_set ?_ GE799.out) | exact HB.out)⟩
    · rw [if_neg c12] at H
      have c12b0 : decide (t801 < 0) = false := decide_eq_false c12
      clear c12
      replace H := Option.bind_eq_some_iff.mp H
      obtain ⟨t802, A180, H⟩ := H
      replace H : ((laws_toLoanS.f k l1).bind fun t805 => ((laws_toLoan.f a2_0 a2_1 a2_2 a2_3 a2_4 a2_5 a2_6).bind fun bt808 => ((spec_CanLend.f k t802 t805 bt808.1 bt808.2.1 bt808.2.2.1 bt808.2.2.2.1 bt808.2.2.2.2.1 bt808.2.2.2.2.2.1 bt808.2.2.2.2.2.2).bind fun bt815 => ((laws_toMemory.f l0_0).bind fun t817 => ((laws_toLoanS.f k l1).bind fun t821 => ((laws_toLoan.f a2_0 a2_1 a2_2 a2_3 a2_4 a2_5 a2_6).bind fun bt824 => ((impl_CanLend.f k t817 t821 bt824.1 bt824.2.1 bt824.2.2.1 bt824.2.2.2.1 bt824.2.2.2.2.1 bt824.2.2.2.2.2.1 bt824.2.2.2.2.2.2).bind fun bt831 => (if (bt831.1 != bt815.1) = true then (laws_FnExactCanLend.j0 k l1 t821 true l0_0 t817) else (laws_FnExactCanLend.j0 k l1 t821 (bt831.2 != bt815.2) l0_0 t817))))))))) = some r := H
      have A18 := Aside0.mk A180
      clear A180
      replace H := Option.bind_eq_some_iff.mp H
      obtain ⟨t805, A190, H⟩ := H
      replace H : ((laws_toLoan.f a2_0 a2_1 a2_2 a2_3 a2_4 a2_5 a2_6).bind fun bt808 => ((spec_CanLend.f k t802 t805 bt808.1 bt808.2.1 bt808.2.2.1 bt808.2.2.2.1 bt808.2.2.2.2.1 bt808.2.2.2.2.2.1 bt808.2.2.2.2.2.2).bind fun bt815 => ((laws_toMemory.f l0_0).bind fun t817 => ((laws_toLoanS.f k l1).bind fun t821 => ((laws_toLoan.f a2_0 a2_1 a2_2 a2_3 a2_4 a2_5 a2_6).bind fun bt824 => ((impl_CanLend.f k t817 t821 bt824.1 bt824.2.1 bt824.2.2.1 bt824.2.2.2.1 bt824.2.2.2.2.1 bt824.2.2.2.2.2.1 bt824.2.2.2.2.2.2).bind fun bt831 => (if (bt831.1 != bt815.1) = true then (laws_FnExactCanLend.j0 k l1 t821 true l0_0 t817) else (laws_FnExactCanLend.j0 k l1 t821 (bt831.2 != bt815.2) l0_0 t817)))))))) = some r := H
      have A19 := Aside0.mk A190
      clear A190
      replace H := Option.bind_eq_some_iff.mp H
      obtain ⟨⟨t808, t809, t810, t811, t812, t813, t814⟩, A200, H⟩ := H
      replace H : ((spec_CanLend.f k t802 t805 t808 t809 t810 t811 t812 t813 t814).bind fun bt815 => ((laws_toMemory.f l0_0).bind fun t817 => ((laws_toLoanS.f k l1).bind fun t821 => ((laws_toLoan.f a2_0 a2_1 a2_2 a2_3 a2_4 a2_5 a2_6).bind fun bt824 => ((impl_CanLend.f k t817 t821 bt824.1 bt824.2.1 bt824.2.2.1 bt824.2.2.2.1 bt824.2.2.2.2.1 bt824.2.2.2.2.2.1 bt824.2.2.2.2.2.2).bind fun bt831 => (if (bt831.1 != bt815.1) = true then (laws_FnExactCanLend.j0 k l1 t821 true l0_0 t817) else (laws_FnExactCanLend.j0 k l1 t821 (bt831.2 != bt815.2) l0_0 t817))))))) = some r := H
      have A20 := Aside0.mk A200
      clear A200
      replace H := Option.bind_eq_some_iff.mp H
      obtain ⟨⟨t815, t816⟩, A210, H⟩ := H
      replace H : ((laws_toMemory.f l0_0).bind fun t817 => ((laws_toLoanS.f k l1).bind fun t821 => ((laws_toLoan.f a2_0 a2_1 a2_2 a2_3 a2_4 a2_5 a2_6).bind fun bt824 => ((impl_CanLend.f k t817 t821 bt824.1 bt824.2.1 bt824.2.2.1 bt824.2.2.2.1 bt824.2.2.2.2.1 bt824.2.2.2.2.2.1 bt824.2.2.2.2.2.2).bind fun bt831 => (if (bt831.1 != t815) = true then (laws_FnExactCanLend.j0 k l1 t821 true l0_0 t817) else (laws_FnExactCanLend.j0 k l1 t821 (bt831.2 != t816) l0_0 t817)))))) = some r := H
      have A21 := Aside0.mk A210
      clear A210
      replace H := Option.bind_eq_some_iff.mp H
      obtain ⟨t817, A220, H⟩ := H
      replace H : ((laws_toLoanS.f k l1).bind fun t821 => ((laws_toLoan.f a2_0 a2_1 a2_2 a2_3 a2_4 a2_5 a2_6).bind fun bt824 => ((impl_CanLend.f k t817 t821 bt824.1 bt824.2.1 bt824.2.2.1 bt824.2.2.2.1 bt824.2.2.2.2.1 bt824.2.2.2.2.2.1 bt824.2.2.2.2.2.2).bind fun bt831 => (if (bt831.1 != t815) = true then (laws_FnExactCanLend.j0 k l1 t821 true l0_0 t817) else (laws_FnExactCanLend.j0 k l1 t821 (bt831.2 != t816) l0_0 t817))))) = some r := H
      have A22 := Aside0.mk A220
      clear A220
      replace H := Option.bind_eq_some_iff.mp H
      obtain ⟨t821, A230, H⟩ := H
      replace H : ((laws_toLoan.f a2_0 a2_1 a2_2 a2_3 a2_4 a2_5 a2_6).bind fun bt824 => ((impl_CanLend.f k t817 t821 bt824.1 bt824.2.1 bt824.2.2.1 bt824.2.2.2.1 bt824.2.2.2.2.1 bt824.2.2.2.2.2.1 bt824.2.2.2.2.2.2).bind fun bt831 => (if (bt831.1 != t815) = true then (laws_FnExactCanLend.j0 k l1 t821 true l0_0 t817) else (laws_FnExactCanLend.j0 k l1 t821 (bt831.2 != t816) l0_0 t817)))) = some r := H
      have A23 := Aside0.mk A230
      clear A230
      replace H := Option.bind_eq_some_iff.mp H
      obtain ⟨⟨t824, t825, t826, t827, t828, t829, t830⟩, A240, H⟩ := H
      replace H : ((impl_CanLend.f k t817 t821 t824 t825 t826 t827 t828 t829 t830).bind fun bt831 => (if (bt831.1 != t815) = true then (laws_FnExactCanLend.j0 k l1 t821 true l0_0 t817) else (laws_FnExactCanLend.j0 k l1 t821 (bt831.2 != t816) l0_0 t817))) = some r := H
      have A24 := Aside0.mk A240
      clear A240
      replace H := Option.bind_eq_some_iff.mp H
      obtain ⟨⟨t831, t832⟩, A250, H⟩ := H
      replace H : (if (t831 != t815) = true then (laws_FnExactCanLend.j0 k l1 t821 true l0_0 t817) else (laws_FnExactCanLend.j0 k l1 t821 (t832 != t816) l0_0 t817)) = some r := H
      have A25 := Aside0.mk A250
      clear A250
      have HC26 := Aside0.mk H
      clear H
      go_enter Try.func7, Try.ntmps7
      try go_wp2_with (first | ((with_reducible refine gate_dst (N := 3) rfl ?_); refine box_event ?hg (N := 3) ?hd (cs := #[.slice A0_0 l0_0.length c0_0]) (t := 49) ?hr ?_; (case hd => rfl); (case hg => rfl); (case hr => first | (go_simp; done) | (go_simp; rfl)); intro gb798 hg w27 hbox hb; have n0_ := Aside0.mk (below_step (by repeat (first | (with_reducible first | exact HB.out | apply below_alloc | apply pw_below_drewN | apply below_drew1) | exact HB.out)) hb); have n1_ := Aside0.mk (hbox); have n2_ := Aside0.mk ((by rw [hg]; exact (below_size (by repeat (first | (with_reducible first | exact HB.out | apply below_alloc | apply pw_below_drewN | apply below_drew1) | exact HB.out))) : w.heap.size ≤ gb798)); have n3_ := Aside0.mk ((by rw [hg]; exact (below_size (by repeat (first | (with_reducible first | exact HB.out | apply below_alloc | apply pw_below_drewN | apply below_drew1) | exact HB.out))) : w.heap.size ≤ gb798)); clear HB; have HB := n0_; have BK798 := n1_; have GW798 := n2_; have GE798 := n3_; clear n0_ n1_ n2_ n3_; clear hb hbox hg) | ((with_reducible refine gate_dst (N := 5) rfl ?_); refine box_event ?hg (N := 5) ?hd (cs := #[.int .i64 a2_0, .int .i64 a2_1, .int .i64 a2_2, .int .i64 a2_3, .bool a2_4, .int .i64 a2_5, .int .i64 a2_6]) (t := 53) ?hr ?_; (case hd => rfl); (case hg => rfl); (case hr => first | (go_simp; done) | (go_simp; rfl)); intro gb799 hg w28 hbox hb; have n0_ := Aside0.mk (blk_below (g := gb798) (o := .cells #[.slice A0_0 l0_0.length c0_0] 49 (0, 0)) (by (with_reducible repeat (first | refine blk_drewN ?_ _ | refine blk_drew ?_ | refine blk_alloc ?_ _)); exact BK798.out) hb); have n1_ := Aside0.mk (below_step (by repeat (first | (with_reducible first | exact HB.out | apply below_alloc | apply pw_below_drewN | apply below_drew1 | refine below_set ?_ GE798.out) | exact HB.out)) hb); have n2_ := Aside0.mk (hbox); have n3_ := Aside0.mk ((by rw [hg]; exact (below_size (by repeat (first | (with_reducible first | exact HB.out | apply below_alloc | apply pw_below_drewN | apply below_drew1 | refine below_set ?_ GE798.out) | exact HB.out))) : w.heap.size ≤ gb799)); have n4_ := Aside0.mk ((by rw [hg]; exact (below_size (by repeat (first | (with_reducible first | exact HB.out | apply below_alloc | apply pw_below_drewN | apply below_drew1 | refine below_set ?_ GE798.out) | exact HB.out))) : w.heap.size ≤ gb799)); have n5_ := Aside0.mk ((by rw [hg]; exact Nat.ne_of_lt (blk_lt (g := gb798) (o := .cells #[.slice A0_0 l0_0.length c0_0] 49 (0, 0)) (by (with_reducible repeat (first | refine blk_drewN ?_ _ | refine blk_drew ?_ | refine blk_alloc ?_ _)); exact BK798.out)) : gb798 ≠ gb799)); have n6_ := Aside0.mk ((by rw [hg]; exact Nat.ne_of_gt (blk_lt (g := gb798) (o := .cells #[.slice A0_0 l0_0.length c0_0] 49 (0, 0)) (by (with_reducible repeat (first | refine blk_drewN ?_ _ | refine blk_drew ?_ | refine blk_alloc ?_ _)); exact BK798.out)) : gb799 ≠ gb798)); clear BK798; clear HB; have BK798 := n0_; have HB := n1_; have BK799 := n2_; have GW799 := n3_; have GE799 := n4_; have NB798_799 := n5_; have NB799_798 := n6_; clear n0_ n1_ n2_ n3_ n4_ n5_ n6_; clear hb hbox hg; have hnb29 := NB798_799.out; have hnc29 := NB799_798.out; have hcz30_0 : w28.cell? ⟨gb798, 0, none⟩ = some (.slice A0_0 l0_0.length c0_0) := (blk_cell BK798.out 0).trans rfl; have hfz30_0 := blk_frozen BK798.out 0) | ((with_reducible refine gate_callee (f := 24) rfl ?_); refine goesL_ (some 16) rfl rfl Try.func24 (by kernel_rfl) rfl #[.agg #[.slice A0_0 l0_0.length c0_0], .int .i64 1048576] rfl (by (try simp only [List.map_toArray, List.map_cons, List.map_nil]); first | done | rfl | (simp only [List.length_drop, List.length_take]; rfl)) ?_; (with_reducible refine (laws_szMemory.calls k _ _ l0_0 1048576 t800 _ ?side1 ?side2 A4.out).mono ?_); (case side1 => repeat (first | exact (Kd.C_below HR0_0.out HB.out) | (with_reducible refine Kd.C_alloc ?_ _) | (with_reducible refine Kd.C_drewN ?_ _) | (with_reducible refine Kd.C_drew ?_))); (case side2 => exact HC0_0.out); rintro e w31 ⟨rfl, hb⟩; refine ⟨_, rfl, ?_⟩; have n0_ := Aside0.mk (blk_below (g := gb798) (o := .cells #[.slice A0_0 l0_0.length c0_0] 49 (0, 0)) (by (with_reducible repeat (first | refine blk_drewN ?_ _ | refine blk_drew ?_ | refine blk_alloc ?_ _)); exact BK798.out) hb); have n1_ := Aside0.mk (blk_below (g := gb799) (o := .cells #[.int .i64 a2_0, .int .i64 a2_1, .int .i64 a2_2, .int .i64 a2_3, .bool a2_4, .int .i64 a2_5, .int .i64 a2_6] 53 (0, 0)) (by (with_reducible repeat (first | refine blk_drewN ?_ _ | refine blk_drew ?_ | refine blk_alloc ?_ _)); exact BK799.out) hb); have n2_ := Aside0.mk (below_step (by repeat (first | (with_reducible first | exact HB.out | apply below_alloc | apply pw_below_drewN | apply below_drew1 | refine below_set ?_ GE798.out | refine below_set ?_ GE799.out) | exact HB.out)) hb); clear BK798; clear BK799; clear HB; have BK798 := n0_; have BK799 := n1_; have HB := n2_; clear n0_ n1_ n2_; (try clear hb); (try clear hb2); (try clear hk); (try clear hi)) | ((with_reducible refine gate_callee (f := 25) rfl ?_); refine goesL_ (some 21) rfl rfl Try.func25 (by kernel_rfl) rfl #[.slice A1 l1.length c1, .int .i64 t800] rfl (by (try simp only [List.map_toArray, List.map_cons, List.map_nil]); first | done | rfl | (simp only [List.length_drop, List.length_take]; rfl)) ?_; (with_reducible refine (laws_szLoanS.calls _ _ l1 t800 t801 _ ?side1 ?side2 A11.out).mono ?_); (case side1 => repeat (first | exact (Kd.C_below HR1.out HB.out) | (with_reducible refine Kd.C_alloc ?_ _) | (with_reducible refine Kd.C_drewN ?_ _) | (with_reducible refine Kd.C_drew ?_))); (case side2 => exact HC1.out); rintro e w' ⟨rfl, ⟨nd, rfl⟩⟩; refine ⟨_, rfl, ?_⟩; (try (rw [drewN_self w31]; generalize hq_ : World.drewN w31 _ = w31; have n0_ : Aside0 (w31.heap[gb798]? = some (.cells #[.slice A0_0 l0_0.length c0_0] 49 (0, 0))) := ⟨by rw [← hq_]; exact (by (with_reducible repeat (first | refine blk_drewN ?_ _ | refine blk_drew ?_ | refine blk_alloc ?_ _)); exact BK798.out)⟩; have n1_ : Aside0 (w31.heap[gb799]? = some (.cells #[.int .i64 a2_0, .int .i64 a2_1, .int .i64 a2_2, .int .i64 a2_3, .bool a2_4, .int .i64 a2_5, .int .i64 a2_6] 53 (0, 0))) := ⟨by rw [← hq_]; exact (by (with_reducible repeat (first | refine blk_drewN ?_ _ | refine blk_drew ?_ | refine blk_alloc ?_ _)); exact BK799.out)⟩; have n2_ : Aside0 (Below w.heap.size w w31) := ⟨by rw [← hq_]; exact (by repeat (first | (with_reducible first | exact HB.out | apply below_alloc | apply pw_below_drewN | apply below_drew1 | refine below_set ?_ GE798.out | refine below_set ?_ GE799.out) | exact HB.out))⟩; clear BK798 BK799 HB hq_; have BK798 := n0_; have BK799 := n1_; have HB := n2_; clear n0_ n1_ n2_))))
      have n0_ := Aside0.mk (blk_drew BK798.out)
      have n1_ := Aside0.mk (blk_drew BK799.out)
      have n2_ := Aside0.mk (below_drew1 HB.out)
      clear BK798
      clear BK799
      clear HB
      have BK798 := n0_
      have BK799 := n1_
      have HB := n2_
      clear n0_ n1_ n2_
      refine start_ (n := 12) (S := fun w' => w'.cell? ⟨gb798, 0, none⟩ = some (.slice A0_0 l0_0.length c0_0) ∧ w'.cell? ⟨gb799, 0, none⟩ = some (.int .i64 a2_0) ∧ w'.cell? ⟨gb799, 1, none⟩ = some (.int .i64 a2_1) ∧ w'.cell? ⟨gb799, 2, none⟩ = some (.int .i64 a2_2) ∧ w'.cell? ⟨gb799, 3, none⟩ = some (.int .i64 a2_3) ∧ w'.cell? ⟨gb799, 4, none⟩ = some (.bool a2_4) ∧ w'.cell? ⟨gb799, 5, none⟩ = some (.int .i64 a2_5) ∧ w'.cell? ⟨gb799, 6, none⟩ = some (.int .i64 a2_6)) (ds := []) #[false, false, false, false, false, false, false, false, false, false, false, false] (by kernel_rfl) rfl rfl ⟨(blk_cell BK798.out 0).trans rfl, (blk_cell BK799.out 0).trans rfl, (blk_cell BK799.out 1).trans rfl, (blk_cell BK799.out 2).trans rfl, (blk_cell BK799.out 3).trans rfl, (blk_cell BK799.out 4).trans rfl, (blk_cell BK799.out 5).trans rfl, (blk_cell BK799.out 6).trans rfl⟩ (fun hHeld => ?_); refine with_tabW laws_FnExactCanLend.tab8 laws_FnExactCanLend.bits8 (fun HT_ HW_ => ?_)
      generalize w31.drew = w32 at BK798 BK799 HB hHeld ⊢
      refine pure_ (i := 2) (N := some 27) (v := ?_) (a' := ?_) #[false, false, true, false, false, false, false, false, false, false, false, false] rfl rfl (any_of HT_.out (by kernel_rfl)) (fun _ _ _ h => h) (Or.inl ⟨by rfl, ?_⟩) ?_ ?_
      rotate_left
      · intro w'
        go_simp
        with_reducible rfl
      rotate_left
      · simp only [Act.put, List.setIfInBounds_toArray, List.set_cons_zero, List.set_cons_succ, i64_w, i32_w]
        rfl
      refine take_ (i := 0) (N := some 25) (v := ?_) (a' := ?_) #[true, false, true, false, false, false, false, false, false, false, false, false] rfl rfl (take_ofW HT_.out HW_.out (by kernel_rfl)) (fun _ _ _ h => h) (Or.inl ⟨by rfl, ?_⟩) hHeld ?_ ?_
      rotate_left
      · rintro w' ⟨s0, s1, s2, s3, s4, s5, s6, s7⟩
        go_simp
        with_reducible rfl
      rotate_left
      · simp only [Act.put, List.setIfInBounds_toArray, List.set_cons_zero, List.set_cons_succ, i64_w, i32_w]
        rfl
      refine take_ (i := 4) (N := some 29) (v := ?_) (a' := ?_) #[true, false, true, false, true, false, false, false, false, false, false, false] rfl rfl (take_ofW HT_.out HW_.out (by kernel_rfl)) (fun _ _ _ h => h) (Or.inl ⟨by rfl, ?_⟩) hHeld ?_ ?_
      rotate_left
      · rintro w' ⟨s0, s1, s2, s3, s4, s5, s6, s7⟩
        go_simp
        with_reducible rfl
      rotate_left
      · simp only [Act.put, List.setIfInBounds_toArray, List.set_cons_zero, List.set_cons_succ, i64_w, i32_w]
        rfl
      refine one_ (i := 1) (N := some 26) #[true, true, true, false, true, false, false, false, false, false, false, false] rfl rfl (one_of HT_.out (by kernel_rfl)) (by decide) (fun K hK => ?_)
      refine goes_ Try.func27 (by kernel_rfl) rfl #[.agg #[.slice A0_0 l0_0.length c0_0]] (by rfl) rfl rfl (by (try simp only [List.map_toArray, List.map_cons, List.map_nil]); first | done | rfl | (simp only [List.length_drop, List.length_take]; rfl)) ?_
      with_reducible refine (laws_toMemory.calls _ _ l0_0 t802 _ ?side1 ?side2 A18.out).mono ?_
      (case side1 => repeat (first | exact (Kd.C_below HR0_0.out HB.out) | (with_reducible refine Kd.C_alloc ?_ _) | (with_reducible refine Kd.C_drewN ?_ _) | (with_reducible refine Kd.C_drew ?_)))
      (case side2 => exact HC0_0.out)
      rintro e w33 ⟨v803, rfl, ho0, hb⟩
      refine ⟨_, rfl, ?_⟩
      have n0_ := Aside0.mk (Kd.S_lower ho0 (below_size (by repeat (first | (with_reducible first | exact HB.out | apply below_alloc | apply pw_below_drewN | apply below_drew1 | refine below_set ?_ GE798.out | refine below_set ?_ GE799.out) | exact HB.out))))
      have n1_ := Aside0.mk (blk_below (g := gb798) (o := .cells #[.slice A0_0 l0_0.length c0_0] 49 (0, 0)) (by (with_reducible repeat (first | refine blk_drewN ?_ _ | refine blk_drew ?_ | refine blk_alloc ?_ _)); exact BK798.out) hb)
      have n2_ := Aside0.mk (blk_below (g := gb799) (o := .cells #[.int .i64 a2_0, .int .i64 a2_1, .int .i64 a2_2, .int .i64 a2_3, .bool a2_4, .int .i64 a2_5, .int .i64 a2_6] 53 (0, 0)) (by (with_reducible repeat (first | refine blk_drewN ?_ _ | refine blk_drew ?_ | refine blk_alloc ?_ _)); exact BK799.out) hb)
      have n3_ := Aside0.mk (below_step (by repeat (first | (with_reducible first | exact HB.out | apply below_alloc | apply pw_below_drewN | apply below_drew1 | refine below_set ?_ GE798.out | refine below_set ?_ GE799.out) | exact HB.out)) hb)
      clear BK798
      clear BK799
      clear HB
      have HO804 := n0_
      have BK798 := n1_
      have BK799 := n2_
      have HB := n3_
      clear n0_ n1_ n2_ n3_
      (try clear hb)
      (try clear hb2)
      (try clear hk)
      (try clear hi)
      (try clear ho0)
      refine hK.out _ _ ⟨(blk_cell BK798.out 0).trans rfl, (blk_cell BK799.out 0).trans rfl, (blk_cell BK799.out 1).trans rfl, (blk_cell BK799.out 2).trans rfl, (blk_cell BK799.out 3).trans rfl, (blk_cell BK799.out 4).trans rfl, (blk_cell BK799.out 5).trans rfl, (blk_cell BK799.out 6).trans rfl⟩ (fun hHeld => ?_)
      clear hK K
      refine norm_ (a' := ?_) ?_ ?_
      rotate_left
      · show Act.put _ (some 26) _ = _
        simp only [Act.put, List.setIfInBounds_toArray, List.set_cons_zero, List.set_cons_succ, i64_w, i32_w]
        rfl
      refine one_ (i := 3) (N := some 28) #[true, true, true, true, true, false, false, false, false, false, false, false] rfl rfl (one_of HT_.out (by kernel_rfl)) (by decide) (fun K hK => ?_)
      refine goes_ Try.func28 (by kernel_rfl) rfl #[.slice A1 l1.length c1] (by rfl) rfl rfl (by (try simp only [List.map_toArray, List.map_cons, List.map_nil]); first | done | rfl | (simp only [List.length_drop, List.length_take]; rfl)) ?_
      with_reducible refine (laws_toLoanS.calls k _ _ l1 t805 _ ?side1 ?side2 A19.out).mono ?_
      (case side1 => repeat (first | exact (Kd.C_below HR1.out HB.out) | (with_reducible refine Kd.C_alloc ?_ _) | (with_reducible refine Kd.C_drewN ?_ _) | (with_reducible refine Kd.C_drew ?_)))
      (case side2 => exact HC1.out)
      rintro e w34 ⟨v806, rfl, ho0, hb⟩
      refine ⟨_, rfl, ?_⟩
      have n0_ := Aside0.mk (Kd.S_below (by (with_reducible repeat (first | apply Kd.S_alloc | apply Kd.S_drewN | apply Kd.S_drew)); exact HO804.out) hb)
      have n1_ := Aside0.mk (Kd.R_lower ho0 (below_size (by repeat (first | (with_reducible first | exact HB.out | apply below_alloc | apply pw_below_drewN | apply below_drew1 | refine below_set ?_ GE798.out | refine below_set ?_ GE799.out) | exact HB.out))))
      have n2_ := Aside0.mk (blk_below (g := gb798) (o := .cells #[.slice A0_0 l0_0.length c0_0] 49 (0, 0)) (by (with_reducible repeat (first | refine blk_drewN ?_ _ | refine blk_drew ?_ | refine blk_alloc ?_ _)); exact BK798.out) hb)
      have n3_ := Aside0.mk (blk_below (g := gb799) (o := .cells #[.int .i64 a2_0, .int .i64 a2_1, .int .i64 a2_2, .int .i64 a2_3, .bool a2_4, .int .i64 a2_5, .int .i64 a2_6] 53 (0, 0)) (by (with_reducible repeat (first | refine blk_drewN ?_ _ | refine blk_drew ?_ | refine blk_alloc ?_ _)); exact BK799.out) hb)
      have n4_ := Aside0.mk (below_step (by repeat (first | (with_reducible first | exact HB.out | apply below_alloc | apply pw_below_drewN | apply below_drew1 | refine below_set ?_ GE798.out | refine below_set ?_ GE799.out) | exact HB.out)) hb)
      clear HO804
      clear BK798
      clear BK799
      clear HB
      have HO804 := n0_
      have HO807 := n1_
      have BK798 := n2_
      have BK799 := n3_
      have HB := n4_
      clear n0_ n1_ n2_ n3_ n4_
      (try clear hb)
      (try clear hb2)
      (try clear hk)
      (try clear hi)
      (try clear ho0)
      refine hK.out _ _ ⟨(blk_cell BK798.out 0).trans rfl, (blk_cell BK799.out 0).trans rfl, (blk_cell BK799.out 1).trans rfl, (blk_cell BK799.out 2).trans rfl, (blk_cell BK799.out 3).trans rfl, (blk_cell BK799.out 4).trans rfl, (blk_cell BK799.out 5).trans rfl, (blk_cell BK799.out 6).trans rfl⟩ (fun hHeld => ?_)
      clear hK K
      refine norm_ (a' := ?_) ?_ ?_
      rotate_left
      · show Act.put _ (some 28) _ = _
        simp only [Act.put, List.setIfInBounds_toArray, List.set_cons_zero, List.set_cons_succ, i64_w, i32_w]
        rfl
      refine one_ (i := 5) (N := some 30) #[true, true, true, true, true, true, false, false, false, false, false, false] rfl rfl (one_of HT_.out (by kernel_rfl)) (by decide) (fun K hK => ?_)
      refine goes_ Try.func29 (by kernel_rfl) rfl #[.agg #[.int .i64 a2_0, .int .i64 a2_1, .int .i64 a2_2, .int .i64 a2_3, .bool a2_4, .int .i64 a2_5, .int .i64 a2_6]] (by rfl) rfl rfl (by (try simp only [List.map_toArray, List.map_cons, List.map_nil]); first | done | rfl | (simp only [List.length_drop, List.length_take]; rfl)) ?_
      with_reducible refine (laws_toLoan.calls a2_0 a2_1 a2_2 a2_3 a2_4 a2_5 a2_6 t808 t809 t810 t811 t812 t813 t814 _ A20.out).mono ?_
      rintro e w35 ⟨rfl, hb⟩
      refine ⟨_, rfl, ?_⟩
      have n0_ := Aside0.mk (Kd.S_below (by (with_reducible repeat (first | apply Kd.S_alloc | apply Kd.S_drewN | apply Kd.S_drew)); exact HO804.out) hb)
      have n1_ := Aside0.mk (Kd.R_below (by (with_reducible repeat (first | apply Kd.R_alloc | apply Kd.R_drewN | apply Kd.R_drew)); exact HO807.out) hb)
      have n2_ := Aside0.mk (blk_below (g := gb798) (o := .cells #[.slice A0_0 l0_0.length c0_0] 49 (0, 0)) (by (with_reducible repeat (first | refine blk_drewN ?_ _ | refine blk_drew ?_ | refine blk_alloc ?_ _)); exact BK798.out) hb)
      have n3_ := Aside0.mk (blk_below (g := gb799) (o := .cells #[.int .i64 a2_0, .int .i64 a2_1, .int .i64 a2_2, .int .i64 a2_3, .bool a2_4, .int .i64 a2_5, .int .i64 a2_6] 53 (0, 0)) (by (with_reducible repeat (first | refine blk_drewN ?_ _ | refine blk_drew ?_ | refine blk_alloc ?_ _)); exact BK799.out) hb)
      have n4_ := Aside0.mk (below_step (by repeat (first | (with_reducible first | exact HB.out | apply below_alloc | apply pw_below_drewN | apply below_drew1 | refine below_set ?_ GE798.out | refine below_set ?_ GE799.out) | exact HB.out)) hb)
      clear HO804
      clear HO807
      clear BK798
      clear BK799
      clear HB
      have HO804 := n0_
      have HO807 := n1_
      have BK798 := n2_
      have BK799 := n3_
      have HB := n4_
      clear n0_ n1_ n2_ n3_ n4_
      (try clear hb)
      (try clear hb2)
      (try clear hk)
      (try clear hi)
      obtain ⟨Ao36, co36, eo36⟩ := Kd.S_slice HO804.out
      (first | subst eo36 | (injection eo36 with f1_ f2_ f3_; have f4_ := f1_.symm; have f5_ := f3_.symm; clear f1_ f2_ f3_; subst f4_; subst f5_))
      obtain ⟨Ao37, co37, eo37⟩ := Kd.R_slice HO807.out
      (first | subst eo37 | (injection eo37 with f1_ f2_ f3_; have f4_ := f1_.symm; have f5_ := f3_.symm; clear f1_ f2_ f3_; subst f4_; subst f5_))
      refine hK.out _ _ ⟨(blk_cell BK798.out 0).trans rfl, (blk_cell BK799.out 0).trans rfl, (blk_cell BK799.out 1).trans rfl, (blk_cell BK799.out 2).trans rfl, (blk_cell BK799.out 3).trans rfl, (blk_cell BK799.out 4).trans rfl, (blk_cell BK799.out 5).trans rfl, (blk_cell BK799.out 6).trans rfl⟩ (fun hHeld => ?_)
      clear hK K
      refine norm_ (a' := ?_) ?_ ?_
      rotate_left
      · show Act.put _ (some 30) _ = _
        simp only [Act.put, List.setIfInBounds_toArray, List.set_cons_zero, List.set_cons_succ, i64_w, i32_w]
        rfl
      refine one_ (i := 6) (N := some 31) #[true, true, true, true, true, true, true, false, false, false, false, false] rfl rfl (one_of HT_.out (by kernel_rfl)) (by decide) (fun K hK => ?_)
      refine goes_ Try.func42 (by kernel_rfl) rfl #[.agg #[.slice Ao36 t802.length co36], .slice Ao37 t805.length co37, .agg #[.int .i64 t808, .int .i64 t809, .int .i64 t810, .int .i64 t811, .bool t812, .int .i64 t813, .int .i64 t814]] (by rfl) rfl rfl (by (try simp only [List.map_toArray, List.map_cons, List.map_nil]); first | done | rfl | (simp only [List.length_drop, List.length_take]; rfl)) ?_
      with_reducible refine (spec_CanLend.calls k _ _ t802 _ _ t805 t808 t809 t810 t811 t812 t813 t814 t815 t816 _ ?side1 ?side2 ?side3 ?side4 A21.out).mono ?_
      (case side1 => repeat (first | exact (Kd.S_reads' HO804.out).2.2 | (with_reducible refine Kd.C_alloc ?_ _) | (with_reducible refine Kd.C_drewN ?_ _) | (with_reducible refine Kd.C_drew ?_)))
      (case side2 => exact (Kd.S_reads' HO804.out).2.1)
      (case side3 => repeat (first | exact (Kd.R_reads' HO807.out).2.2 | (with_reducible refine Kd.C_alloc ?_ _) | (with_reducible refine Kd.C_drewN ?_ _) | (with_reducible refine Kd.C_drew ?_)))
      (case side4 => exact (Kd.R_reads' HO807.out).2.1)
      rintro e w38 ⟨rfl, hb⟩
      refine ⟨_, rfl, ?_⟩
      have n0_ := Aside0.mk (Kd.S_below (by (with_reducible repeat (first | apply Kd.S_alloc | apply Kd.S_drewN | apply Kd.S_drew)); exact HO804.out) hb)
      have n1_ := Aside0.mk (Kd.R_below (by (with_reducible repeat (first | apply Kd.R_alloc | apply Kd.R_drewN | apply Kd.R_drew)); exact HO807.out) hb)
      have n2_ := Aside0.mk (blk_below (g := gb798) (o := .cells #[.slice A0_0 l0_0.length c0_0] 49 (0, 0)) (by (with_reducible repeat (first | refine blk_drewN ?_ _ | refine blk_drew ?_ | refine blk_alloc ?_ _)); exact BK798.out) hb)
      have n3_ := Aside0.mk (blk_below (g := gb799) (o := .cells #[.int .i64 a2_0, .int .i64 a2_1, .int .i64 a2_2, .int .i64 a2_3, .bool a2_4, .int .i64 a2_5, .int .i64 a2_6] 53 (0, 0)) (by (with_reducible repeat (first | refine blk_drewN ?_ _ | refine blk_drew ?_ | refine blk_alloc ?_ _)); exact BK799.out) hb)
      have n4_ := Aside0.mk (below_step (by repeat (first | (with_reducible first | exact HB.out | apply below_alloc | apply pw_below_drewN | apply below_drew1 | refine below_set ?_ GE798.out | refine below_set ?_ GE799.out) | exact HB.out)) hb)
      clear HO804
      clear HO807
      clear BK798
      clear BK799
      clear HB
      have HO804 := n0_
      have HO807 := n1_
      have BK798 := n2_
      have BK799 := n3_
      have HB := n4_
      clear n0_ n1_ n2_ n3_ n4_
      (try clear hb)
      (try clear hb2)
      (try clear hk)
      (try clear hi)
      refine hK.out _ _ ⟨(blk_cell BK798.out 0).trans rfl, (blk_cell BK799.out 0).trans rfl, (blk_cell BK799.out 1).trans rfl, (blk_cell BK799.out 2).trans rfl, (blk_cell BK799.out 3).trans rfl, (blk_cell BK799.out 4).trans rfl, (blk_cell BK799.out 5).trans rfl, (blk_cell BK799.out 6).trans rfl⟩ (fun hHeld => ?_)
      clear hK K
      refine norm_ (a' := ?_) ?_ ?_
      rotate_left
      · show Act.put _ (some 31) _ = _
        simp only [Act.put, List.setIfInBounds_toArray, List.set_cons_zero, List.set_cons_succ, i64_w, i32_w]
        rfl
      refine pure_ (i := 7) (N := some 24) (v := ?_) (a' := ?_) #[true, true, true, true, true, true, true, true, false, false, false, false] rfl rfl (any_of HT_.out (by kernel_rfl)) (fun _ _ _ h => h) (Or.inl ⟨by rfl, ?_⟩) ?_ ?_
      rotate_left
      · intro w'
        go_simp
        with_reducible rfl
      rotate_left
      · simp only [Act.put, List.setIfInBounds_toArray, List.set_cons_zero, List.set_cons_succ, i64_w, i32_w]
        rfl
      refine pure_ (i := 8) (N := some 32) (v := ?_) (a' := ?_) #[true, true, true, true, true, true, true, true, true, false, false, false] rfl rfl (any_of HT_.out (by kernel_rfl)) (fun _ _ _ h => h) (Or.inl ⟨by rfl, ?_⟩) ?_ ?_
      rotate_left
      · intro w'
        go_simp
        with_reducible rfl
      rotate_left
      · simp only [Act.put, List.setIfInBounds_toArray, List.set_cons_zero, List.set_cons_succ, i64_w, i32_w]
        rfl
      refine pure_ (i := 9) (N := some 33) (v := ?_) (a' := ?_) #[true, true, true, true, true, true, true, true, true, true, false, false] rfl rfl (any_of HT_.out (by kernel_rfl)) (fun _ _ _ h => h) (Or.inl ⟨by rfl, ?_⟩) ?_ ?_
      rotate_left
      · intro w'
        go_simp
        with_reducible rfl
      rotate_left
      · simp only [Act.put, List.setIfInBounds_toArray, List.set_cons_zero, List.set_cons_succ, i64_w, i32_w]
        rfl
      refine pure_ (i := 10) (N := some 8) (v := ?_) (a' := ?_) #[true, true, true, true, true, true, true, true, true, true, true, false] rfl rfl (any_of HT_.out (by kernel_rfl)) (fun _ _ _ h => h) (Or.inl ⟨by rfl, ?_⟩) ?_ ?_
      rotate_left
      · intro w'
        go_simp
        with_reducible rfl
      rotate_left
      · simp only [Act.put, List.setIfInBounds_toArray, List.set_cons_zero, List.set_cons_succ, i64_w, i32_w]
        rfl
      refine pure_ (i := 11) (N := some 9) (v := ?_) (a' := ?_) #[true, true, true, true, true, true, true, true, true, true, true, true] rfl rfl (any_of HT_.out (by kernel_rfl)) (fun _ _ _ h => h) (Or.inl ⟨by rfl, ?_⟩) ?_ ?_
      rotate_left
      · intro w'
        go_simp
        with_reducible rfl
      rotate_left
      · simp only [Act.put, List.setIfInBounds_toArray, List.set_cons_zero, List.set_cons_succ, i64_w, i32_w]
        rfl
      refine done_ (done_of HT_.out (by kernel_rfl)) ?_
      have hcz39_0 : w38.cell? ⟨gb798, 0, none⟩ = some (.slice A0_0 l0_0.length c0_0) := (blk_cell BK798.out 0).trans rfl
      have hfz39_0 := blk_frozen BK798.out 0
      try go_wp2_with (first | ((with_reducible refine gate_callee (f := 27) rfl ?_); refine goesL_ (some 35) rfl rfl Try.func27 (by kernel_rfl) rfl #[.agg #[.slice A0_0 l0_0.length c0_0]] rfl (by (try simp only [List.map_toArray, List.map_cons, List.map_nil]); first | done | rfl | (simp only [List.length_drop, List.length_take]; rfl)) ?_; (with_reducible refine (laws_toMemory.calls _ _ l0_0 t817 _ ?side1 ?side2 A22.out).mono ?_); (case side1 => repeat (first | exact (Kd.C_below HR0_0.out HB.out) | (with_reducible refine Kd.C_alloc ?_ _) | (with_reducible refine Kd.C_drewN ?_ _) | (with_reducible refine Kd.C_drew ?_))); (case side2 => exact HC0_0.out); rintro e w40 ⟨v818, rfl, ho0, hb⟩; refine ⟨_, rfl, ?_⟩; have n0_ := Aside0.mk (Kd.S_elder' (by (with_reducible repeat (first | apply Kd.S_alloc | apply Kd.S_drewN | apply Kd.S_drew)); exact HO804.out) (Kd.S_base ho0) hb); have n1_ := Aside0.mk (Kd.R_below (by (with_reducible repeat (first | apply Kd.R_alloc | apply Kd.R_drewN | apply Kd.R_drew)); exact HO807.out) hb); have n2_ := Aside0.mk (Kd.S_lower (Kd.S_new' ho0 (Kd.S_lt (by (with_reducible repeat (first | apply Kd.S_alloc | apply Kd.S_drewN | apply Kd.S_drew)); exact HO804.out))) (below_size (by repeat (first | (with_reducible first | exact HB.out | apply below_alloc | apply pw_below_drewN | apply below_drew1 | refine below_set ?_ GE798.out | refine below_set ?_ GE799.out) | exact HB.out)))); have n3_ := Aside0.mk (blk_below (g := gb798) (o := .cells #[.slice A0_0 l0_0.length c0_0] 49 (0, 0)) (by (with_reducible repeat (first | refine blk_drewN ?_ _ | refine blk_drew ?_ | refine blk_alloc ?_ _)); exact BK798.out) hb); have n4_ := Aside0.mk (blk_below (g := gb799) (o := .cells #[.int .i64 a2_0, .int .i64 a2_1, .int .i64 a2_2, .int .i64 a2_3, .bool a2_4, .int .i64 a2_5, .int .i64 a2_6] 53 (0, 0)) (by (with_reducible repeat (first | refine blk_drewN ?_ _ | refine blk_drew ?_ | refine blk_alloc ?_ _)); exact BK799.out) hb); have n5_ := Aside0.mk (below_step (by repeat (first | (with_reducible first | exact HB.out | apply below_alloc | apply pw_below_drewN | apply below_drew1 | refine below_set ?_ GE798.out | refine below_set ?_ GE799.out) | exact HB.out)) hb); clear HO804; clear HO807; clear BK798; clear BK799; clear HB; have HO804 := n0_; have HO807 := n1_; have HO819 := n2_; have BK798 := n3_; have BK799 := n4_; have HB := n5_; clear n0_ n1_ n2_ n3_ n4_ n5_; (try clear hb); (try clear hb2); (try clear hk); (try clear hi); (try clear ho0)) | ((with_reducible refine gate_dst (N := 10) rfl ?_); refine box_event ?hg (N := 10) ?hd (cs := #[.slice none 0 0]) (t := 26) ?hr ?_; (case hd => rfl); (case hg => rfl); (case hr => first | (go_simp; done) | (go_simp; rfl)); intro gb820 hg w41 hbox hb; have n0_ := Aside0.mk (Kd.S_below (by (with_reducible repeat (first | apply Kd.S_alloc | apply Kd.S_drewN | apply Kd.S_drew)); exact HO804.out) hb); have n1_ := Aside0.mk (Kd.R_below (by (with_reducible repeat (first | apply Kd.R_alloc | apply Kd.R_drewN | apply Kd.R_drew)); exact HO807.out) hb); have n2_ := Aside0.mk (Kd.S_below (by (with_reducible repeat (first | apply Kd.S_alloc | apply Kd.S_drewN | apply Kd.S_drew)); exact HO819.out) hb); have n3_ := Aside0.mk (blk_below (g := gb798) (o := .cells #[.slice A0_0 l0_0.length c0_0] 49 (0, 0)) (by (with_reducible repeat (first | refine blk_drewN ?_ _ | refine blk_drew ?_ | refine blk_alloc ?_ _)); exact BK798.out) hb); have n4_ := Aside0.mk (blk_below (g := gb799) (o := .cells #[.int .i64 a2_0, .int .i64 a2_1, .int .i64 a2_2, .int .i64 a2_3, .bool a2_4, .int .i64 a2_5, .int .i64 a2_6] 53 (0, 0)) (by (with_reducible repeat (first | refine blk_drewN ?_ _ | refine blk_drew ?_ | refine blk_alloc ?_ _)); exact BK799.out) hb); have n5_ := Aside0.mk (below_step (by repeat (first | (with_reducible first | exact HB.out | apply below_alloc | apply pw_below_drewN | apply below_drew1 | refine below_set ?_ GE798.out | refine below_set ?_ GE799.out) | exact HB.out)) hb); have n6_ := Aside0.mk (hbox); have n7_ := Aside0.mk ((by rw [hg]; exact (below_size (by repeat (first | (with_reducible first | exact HB.out | apply below_alloc | apply pw_below_drewN | apply below_drew1 | refine below_set ?_ GE798.out | refine below_set ?_ GE799.out) | exact HB.out))) : w.heap.size ≤ gb820)); have n8_ := Aside0.mk ((by rw [hg]; exact (below_size (by repeat (first | (with_reducible first | exact HB.out | apply below_alloc | apply pw_below_drewN | apply below_drew1 | refine below_set ?_ GE798.out | refine below_set ?_ GE799.out) | exact HB.out))) : w.heap.size ≤ gb820)); have n9_ := Aside0.mk ((by rw [hg]; exact Nat.ne_of_lt (blk_lt (g := gb798) (o := .cells #[.slice A0_0 l0_0.length c0_0] 49 (0, 0)) (by (with_reducible repeat (first | refine blk_drewN ?_ _ | refine blk_drew ?_ | refine blk_alloc ?_ _)); exact BK798.out)) : gb798 ≠ gb820)); have n10_ := Aside0.mk ((by rw [hg]; exact Nat.ne_of_gt (blk_lt (g := gb798) (o := .cells #[.slice A0_0 l0_0.length c0_0] 49 (0, 0)) (by (with_reducible repeat (first | refine blk_drewN ?_ _ | refine blk_drew ?_ | refine blk_alloc ?_ _)); exact BK798.out)) : gb820 ≠ gb798)); have n11_ := Aside0.mk ((by rw [hg]; exact Nat.ne_of_lt (blk_lt (g := gb799) (o := .cells #[.int .i64 a2_0, .int .i64 a2_1, .int .i64 a2_2, .int .i64 a2_3, .bool a2_4, .int .i64 a2_5, .int .i64 a2_6] 53 (0, 0)) (by (with_reducible repeat (first | refine blk_drewN ?_ _ | refine blk_drew ?_ | refine blk_alloc ?_ _)); exact BK799.out)) : gb799 ≠ gb820)); have n12_ := Aside0.mk ((by rw [hg]; exact Nat.ne_of_gt (blk_lt (g := gb799) (o := .cells #[.int .i64 a2_0, .int .i64 a2_1, .int .i64 a2_2, .int .i64 a2_3, .bool a2_4, .int .i64 a2_5, .int .i64 a2_6] 53 (0, 0)) (by (with_reducible repeat (first | refine blk_drewN ?_ _ | refine blk_drew ?_ | refine blk_alloc ?_ _)); exact BK799.out)) : gb820 ≠ gb799)); clear HO804; clear HO807; clear HO819; clear BK798; clear BK799; clear HB; have HO804 := n0_; have HO807 := n1_; have HO819 := n2_; have BK798 := n3_; have BK799 := n4_; have HB := n5_; have BK820 := n6_; have GW820 := n7_; have GE820 := n8_; have NB798_820 := n9_; have NB820_798 := n10_; have NB799_820 := n11_; have NB820_799 := n12_; clear n0_ n1_ n2_ n3_ n4_ n5_ n6_ n7_ n8_ n9_ n10_ n11_ n12_; clear hb hbox hg; obtain ⟨Ao42, co42, eo42⟩ := Kd.S_slice HO819.out; subst eo42; have hnb43 := NB820_798.out; have hnc43 := NB798_820.out; have hnb44 := NB820_799.out; have hnc44 := NB799_820.out; have hcz45_0 : w41.cell? ⟨gb820, 0, none⟩ = some (.slice none 0 0) := (blk_cell BK820.out 0).trans rfl; have hfz45_0 := blk_frozen BK820.out 0) | ((with_reducible refine gate_callee (f := 28) rfl ?_); refine goesL_ (some 37) rfl rfl Try.func28 (by kernel_rfl) rfl #[.slice A1 l1.length c1] rfl (by (try simp only [List.map_toArray, List.map_cons, List.map_nil]); first | done | rfl | (simp only [List.length_drop, List.length_take]; rfl)) ?_; (with_reducible refine (laws_toLoanS.calls k _ _ l1 t821 _ ?side1 ?side2 A23.out).mono ?_); (case side1 => exact Kd.C_below HR1.out (by repeat (first | (with_reducible first | exact HB.out | apply below_alloc | apply pw_below_drewN | apply below_drew1 | refine below_set ?_ GE798.out | refine below_set ?_ GE799.out | refine below_set ?_ GE820.out) | exact HB.out))); (case side2 => exact HC1.out); rintro e w46 ⟨v822, rfl, ho0, hb⟩; refine ⟨_, rfl, ?_⟩; have n0_ := Aside0.mk (Kd.S_below (by (with_reducible repeat (first | apply Kd.S_alloc | apply Kd.S_drewN | apply Kd.S_drew)); exact (Kd.S_mono (Kd.S_far (p := ⟨gb820, 0, none⟩) (Kd.S_types HO804.out BK820.out (by decide)) (fun _ hk => hk.2) (.slice Ao42 t817.length co42)) (fun _ h_ => h_.1))) hb); have n1_ := Aside0.mk (Kd.R_elder' (by (with_reducible repeat (first | apply Kd.R_alloc | apply Kd.R_drewN | apply Kd.R_drew)); exact (Kd.R_mono (Kd.R_far (p := ⟨gb820, 0, none⟩) (Kd.R_types HO807.out BK820.out (by decide)) (fun _ hk => hk.2) (.slice Ao42 t817.length co42)) (fun _ h_ => h_.1))) (Kd.R_base ho0) hb); have n2_ := Aside0.mk (Kd.S_below (by (with_reducible repeat (first | apply Kd.S_alloc | apply Kd.S_drewN | apply Kd.S_drew)); exact (Kd.S_mono (Kd.S_far (p := ⟨gb820, 0, none⟩) (Kd.S_types HO819.out BK820.out (by decide)) (fun _ hk => hk.2) (.slice Ao42 t817.length co42)) (fun _ h_ => h_.1))) hb); have n3_ := Aside0.mk (Kd.R_lower (Kd.R_new' ho0 (Kd.R_lt (by (with_reducible repeat (first | apply Kd.R_alloc | apply Kd.R_drewN | apply Kd.R_drew)); exact (Kd.R_mono (Kd.R_far (p := ⟨gb820, 0, none⟩) (Kd.R_types HO807.out BK820.out (by decide)) (fun _ hk => hk.2) (.slice Ao42 t817.length co42)) (fun _ h_ => h_.1))))) (below_size (by repeat (first | (with_reducible first | exact HB.out | apply below_alloc | apply pw_below_drewN | apply below_drew1 | refine below_set ?_ GE798.out | refine below_set ?_ GE799.out | refine below_set ?_ GE820.out) | exact HB.out)))); have n4_ := Aside0.mk (blk_below (g := gb798) (o := .cells #[.slice A0_0 l0_0.length c0_0] 49 (0, 0)) (by (with_reducible repeat (first | refine blk_drewN ?_ _ | refine blk_drew ?_ | refine blk_alloc ?_ _)); refine blk_far ?_ NB798_820.out _; (with_reducible repeat (first | refine blk_drewN ?_ _ | refine blk_drew ?_ | refine blk_alloc ?_ _)); exact BK798.out) hb); have n5_ := Aside0.mk (blk_below (g := gb799) (o := .cells #[.int .i64 a2_0, .int .i64 a2_1, .int .i64 a2_2, .int .i64 a2_3, .bool a2_4, .int .i64 a2_5, .int .i64 a2_6] 53 (0, 0)) (by (with_reducible repeat (first | refine blk_drewN ?_ _ | refine blk_drew ?_ | refine blk_alloc ?_ _)); refine blk_far ?_ NB799_820.out _; (with_reducible repeat (first | refine blk_drewN ?_ _ | refine blk_drew ?_ | refine blk_alloc ?_ _)); exact BK799.out) hb); have n6_ := Aside0.mk (blk_below (g := gb820) (o := .cells #[.slice Ao42 t817.length co42] 26 (0, 0)) (by (with_reducible repeat (first | refine blk_drewN ?_ _ | refine blk_drew ?_ | refine blk_alloc ?_ _)); refine blk_put (cs := #[.slice none 0 0]) ?_ 0 _ rfl; (with_reducible repeat (first | refine blk_drewN ?_ _ | refine blk_drew ?_ | refine blk_alloc ?_ _)); exact BK820.out) hb); have n7_ := Aside0.mk (below_step (by repeat (first | (with_reducible first | exact HB.out | apply below_alloc | apply pw_below_drewN | apply below_drew1 | refine below_set ?_ GE798.out | refine below_set ?_ GE799.out | refine below_set ?_ GE820.out) | exact HB.out)) hb); clear HO804; clear HO807; clear HO819; clear BK798; clear BK799; clear BK820; clear HB; have HO804 := n0_; have HO807 := n1_; have HO819 := n2_; have HO823 := n3_; have BK798 := n4_; have BK799 := n5_; have BK820 := n6_; have HB := n7_; clear n0_ n1_ n2_ n3_ n4_ n5_ n6_ n7_; (try clear hb); (try clear hb2); (try clear hk); (try clear hi); (try clear ho0)))
      have n0_ := Aside0.mk (Kd.S_drew HO804.out)
      have n1_ := Aside0.mk (Kd.R_drew HO807.out)
      have n2_ := Aside0.mk (Kd.S_drew HO819.out)
      have n3_ := Aside0.mk (Kd.R_drew HO823.out)
      have n4_ := Aside0.mk (blk_drew BK798.out)
      have n5_ := Aside0.mk (blk_drew BK799.out)
      have n6_ := Aside0.mk (blk_drew BK820.out)
      have n7_ := Aside0.mk (below_drew1 HB.out)
      clear HO804
      clear HO807
      clear HO819
      clear HO823
      clear BK798
      clear BK799
      clear BK820
      clear HB
      have HO804 := n0_
      have HO807 := n1_
      have HO819 := n2_
      have HO823 := n3_
      have BK798 := n4_
      have BK799 := n5_
      have BK820 := n6_
      have HB := n7_
      clear n0_ n1_ n2_ n3_ n4_ n5_ n6_ n7_
      refine start_ (n := 10) (S := fun w' => w'.cell? ⟨gb820, 0, none⟩ = some (.slice Ao42 t817.length co42) ∧ w'.cell? ⟨gb799, 0, none⟩ = some (.int .i64 a2_0) ∧ w'.cell? ⟨gb799, 1, none⟩ = some (.int .i64 a2_1) ∧ w'.cell? ⟨gb799, 2, none⟩ = some (.int .i64 a2_2) ∧ w'.cell? ⟨gb799, 3, none⟩ = some (.int .i64 a2_3) ∧ w'.cell? ⟨gb799, 4, none⟩ = some (.bool a2_4) ∧ w'.cell? ⟨gb799, 5, none⟩ = some (.int .i64 a2_5) ∧ w'.cell? ⟨gb799, 6, none⟩ = some (.int .i64 a2_6)) (ds := []) #[false, false, false, false, false, false, false, false, false, false] (by kernel_rfl) rfl rfl ⟨(blk_cell BK820.out 0).trans rfl, (blk_cell BK799.out 0).trans rfl, (blk_cell BK799.out 1).trans rfl, (blk_cell BK799.out 2).trans rfl, (blk_cell BK799.out 3).trans rfl, (blk_cell BK799.out 4).trans rfl, (blk_cell BK799.out 5).trans rfl, (blk_cell BK799.out 6).trans rfl⟩ (fun hHeld => ?_); refine with_tabW laws_FnExactCanLend.tab11 laws_FnExactCanLend.bits11 (fun HT_ HW_ => ?_)
      generalize w46.drew = w47 at HO804 HO807 HO819 HO823 BK798 BK799 BK820 HB hHeld ⊢
      refine pure_ (i := 1) (N := some 40) (v := ?_) (a' := ?_) #[false, true, false, false, false, false, false, false, false, false] rfl rfl (any_of HT_.out (by kernel_rfl)) (fun _ _ _ h => h) (Or.inl ⟨by rfl, ?_⟩) ?_ ?_
      rotate_left
      · intro w'
        go_simp
        with_reducible rfl
      rotate_left
      · simp only [Act.put, List.setIfInBounds_toArray, List.set_cons_zero, List.set_cons_succ, i64_w, i32_w]
        rfl
      refine take_ (i := 0) (N := some 39) (v := ?_) (a' := ?_) #[true, true, false, false, false, false, false, false, false, false] rfl rfl (take_ofW HT_.out HW_.out (by kernel_rfl)) (fun _ _ _ h => h) (Or.inl ⟨by rfl, ?_⟩) hHeld ?_ ?_
      rotate_left
      · rintro w' ⟨s0, s1, s2, s3, s4, s5, s6, s7⟩
        go_simp
        with_reducible rfl
      rotate_left
      · simp only [Act.put, List.setIfInBounds_toArray, List.set_cons_zero, List.set_cons_succ, i64_w, i32_w]
        rfl
      refine take_ (i := 2) (N := some 41) (v := ?_) (a' := ?_) #[true, true, true, false, false, false, false, false, false, false] rfl rfl (take_ofW HT_.out HW_.out (by kernel_rfl)) (fun _ _ _ h => h) (Or.inl ⟨by rfl, ?_⟩) hHeld ?_ ?_
      rotate_left
      · rintro w' ⟨s0, s1, s2, s3, s4, s5, s6, s7⟩
        go_simp
        with_reducible rfl
      rotate_left
      · simp only [Act.put, List.setIfInBounds_toArray, List.set_cons_zero, List.set_cons_succ, i64_w, i32_w]
        rfl
      refine one_ (i := 3) (N := some 42) #[true, true, true, true, false, false, false, false, false, false] rfl rfl (one_of HT_.out (by kernel_rfl)) (by decide) (fun K hK => ?_)
      refine goes_ Try.func29 (by kernel_rfl) rfl #[.agg #[.int .i64 a2_0, .int .i64 a2_1, .int .i64 a2_2, .int .i64 a2_3, .bool a2_4, .int .i64 a2_5, .int .i64 a2_6]] (by rfl) rfl rfl (by (try simp only [List.map_toArray, List.map_cons, List.map_nil]); first | done | rfl | (simp only [List.length_drop, List.length_take]; rfl)) ?_
      with_reducible refine (laws_toLoan.calls a2_0 a2_1 a2_2 a2_3 a2_4 a2_5 a2_6 t824 t825 t826 t827 t828 t829 t830 _ A24.out).mono ?_
      rintro e w48 ⟨rfl, hb⟩
      refine ⟨_, rfl, ?_⟩
      have n0_ := Aside0.mk (Kd.S_below (by (with_reducible repeat (first | apply Kd.S_alloc | apply Kd.S_drewN | apply Kd.S_drew)); exact HO804.out) hb)
      have n1_ := Aside0.mk (Kd.R_below (by (with_reducible repeat (first | apply Kd.R_alloc | apply Kd.R_drewN | apply Kd.R_drew)); exact HO807.out) hb)
      have n2_ := Aside0.mk (Kd.S_below (by (with_reducible repeat (first | apply Kd.S_alloc | apply Kd.S_drewN | apply Kd.S_drew)); exact HO819.out) hb)
      have n3_ := Aside0.mk (Kd.R_below (by (with_reducible repeat (first | apply Kd.R_alloc | apply Kd.R_drewN | apply Kd.R_drew)); exact HO823.out) hb)
      have n4_ := Aside0.mk (blk_below (g := gb798) (o := .cells #[.slice A0_0 l0_0.length c0_0] 49 (0, 0)) (by (with_reducible repeat (first | refine blk_drewN ?_ _ | refine blk_drew ?_ | refine blk_alloc ?_ _)); exact BK798.out) hb)
      have n5_ := Aside0.mk (blk_below (g := gb799) (o := .cells #[.int .i64 a2_0, .int .i64 a2_1, .int .i64 a2_2, .int .i64 a2_3, .bool a2_4, .int .i64 a2_5, .int .i64 a2_6] 53 (0, 0)) (by (with_reducible repeat (first | refine blk_drewN ?_ _ | refine blk_drew ?_ | refine blk_alloc ?_ _)); exact BK799.out) hb)
      have n6_ := Aside0.mk (blk_below (g := gb820) (o := .cells #[.slice Ao42 t817.length co42] 26 (0, 0)) (by (with_reducible repeat (first | refine blk_drewN ?_ _ | refine blk_drew ?_ | refine blk_alloc ?_ _)); exact BK820.out) hb)
      have n7_ := Aside0.mk (below_step (by repeat (first | (with_reducible first | exact HB.out | apply below_alloc | apply pw_below_drewN | apply below_drew1 | refine below_set ?_ GE798.out | refine below_set ?_ GE799.out | refine below_set ?_ GE820.out) | exact HB.out)) hb)
      clear HO804
      clear HO807
      clear HO819
      clear HO823
      clear BK798
      clear BK799
      clear BK820
      clear HB
      have HO804 := n0_
      have HO807 := n1_
      have HO819 := n2_
      have HO823 := n3_
      have BK798 := n4_
      have BK799 := n5_
      have BK820 := n6_
      have HB := n7_
      clear n0_ n1_ n2_ n3_ n4_ n5_ n6_ n7_
      (try clear hb)
      (try clear hb2)
      (try clear hk)
      (try clear hi)
      obtain ⟨Ao49, co49, eo49⟩ := Kd.R_slice HO823.out
      (first | subst eo49 | (injection eo49 with f1_ f2_ f3_; have f4_ := f1_.symm; have f5_ := f3_.symm; clear f1_ f2_ f3_; subst f4_; subst f5_))
      refine hK.out _ _ ⟨(blk_cell BK820.out 0).trans rfl, (blk_cell BK799.out 0).trans rfl, (blk_cell BK799.out 1).trans rfl, (blk_cell BK799.out 2).trans rfl, (blk_cell BK799.out 3).trans rfl, (blk_cell BK799.out 4).trans rfl, (blk_cell BK799.out 5).trans rfl, (blk_cell BK799.out 6).trans rfl⟩ (fun hHeld => ?_)
      clear hK K
      refine norm_ (a' := ?_) ?_ ?_
      rotate_left
      · show Act.put _ (some 42) _ = _
        simp only [Act.put, List.setIfInBounds_toArray, List.set_cons_zero, List.set_cons_succ, i64_w, i32_w]
        rfl
      refine one_ (i := 4) (N := some 43) #[true, true, true, true, true, false, false, false, false, false] rfl rfl (one_of HT_.out (by kernel_rfl)) (by decide) (fun K hK => ?_)
      refine goes_ Try.func43 (by kernel_rfl) rfl #[.agg #[.slice Ao42 t817.length co42], .slice Ao49 t821.length co49, .agg #[.int .i64 t824, .int .i64 t825, .int .i64 t826, .int .i64 t827, .bool t828, .int .i64 t829, .int .i64 t830]] (by rfl) rfl rfl (by (try simp only [List.map_toArray, List.map_cons, List.map_nil]); first | done | rfl | (simp only [List.length_drop, List.length_take]; rfl)) ?_
      with_reducible refine (impl_CanLend.calls k _ _ t817 _ _ t821 t824 t825 t826 t827 t828 t829 t830 t831 t832 _ ?side1 ?side2 ?side3 ?side4 A25.out).mono ?_
      (case side1 => repeat (first | exact (Kd.S_reads' HO819.out).2.2 | (with_reducible refine Kd.C_alloc ?_ _) | (with_reducible refine Kd.C_drewN ?_ _) | (with_reducible refine Kd.C_drew ?_)))
      (case side2 => exact (Kd.S_reads' HO819.out).2.1)
      (case side3 => repeat (first | exact (Kd.R_reads' HO823.out).2.2 | (with_reducible refine Kd.C_alloc ?_ _) | (with_reducible refine Kd.C_drewN ?_ _) | (with_reducible refine Kd.C_drew ?_)))
      (case side4 => exact (Kd.R_reads' HO823.out).2.1)
      rintro e w50 ⟨rfl, hb⟩
      refine ⟨_, rfl, ?_⟩
      have n0_ := Aside0.mk (Kd.S_below (by (with_reducible repeat (first | apply Kd.S_alloc | apply Kd.S_drewN | apply Kd.S_drew)); exact HO804.out) hb)
      have n1_ := Aside0.mk (Kd.R_below (by (with_reducible repeat (first | apply Kd.R_alloc | apply Kd.R_drewN | apply Kd.R_drew)); exact HO807.out) hb)
      have n2_ := Aside0.mk (Kd.S_below (by (with_reducible repeat (first | apply Kd.S_alloc | apply Kd.S_drewN | apply Kd.S_drew)); exact HO819.out) hb)
      have n3_ := Aside0.mk (Kd.R_below (by (with_reducible repeat (first | apply Kd.R_alloc | apply Kd.R_drewN | apply Kd.R_drew)); exact HO823.out) hb)
      have n4_ := Aside0.mk (blk_below (g := gb798) (o := .cells #[.slice A0_0 l0_0.length c0_0] 49 (0, 0)) (by (with_reducible repeat (first | refine blk_drewN ?_ _ | refine blk_drew ?_ | refine blk_alloc ?_ _)); exact BK798.out) hb)
      have n5_ := Aside0.mk (blk_below (g := gb799) (o := .cells #[.int .i64 a2_0, .int .i64 a2_1, .int .i64 a2_2, .int .i64 a2_3, .bool a2_4, .int .i64 a2_5, .int .i64 a2_6] 53 (0, 0)) (by (with_reducible repeat (first | refine blk_drewN ?_ _ | refine blk_drew ?_ | refine blk_alloc ?_ _)); exact BK799.out) hb)
      have n6_ := Aside0.mk (blk_below (g := gb820) (o := .cells #[.slice Ao42 t817.length co42] 26 (0, 0)) (by (with_reducible repeat (first | refine blk_drewN ?_ _ | refine blk_drew ?_ | refine blk_alloc ?_ _)); exact BK820.out) hb)
      have n7_ := Aside0.mk (below_step (by repeat (first | (with_reducible first | exact HB.out | apply below_alloc | apply pw_below_drewN | apply below_drew1 | refine below_set ?_ GE798.out | refine below_set ?_ GE799.out | refine below_set ?_ GE820.out) | exact HB.out)) hb)
      clear HO804
      clear HO807
      clear HO819
      clear HO823
      clear BK798
      clear BK799
      clear BK820
      clear HB
      have HO804 := n0_
      have HO807 := n1_
      have HO819 := n2_
      have HO823 := n3_
      have BK798 := n4_
      have BK799 := n5_
      have BK820 := n6_
      have HB := n7_
      clear n0_ n1_ n2_ n3_ n4_ n5_ n6_ n7_
      (try clear hb)
      (try clear hb2)
      (try clear hk)
      (try clear hi)
      refine hK.out _ _ ⟨(blk_cell BK820.out 0).trans rfl, (blk_cell BK799.out 0).trans rfl, (blk_cell BK799.out 1).trans rfl, (blk_cell BK799.out 2).trans rfl, (blk_cell BK799.out 3).trans rfl, (blk_cell BK799.out 4).trans rfl, (blk_cell BK799.out 5).trans rfl, (blk_cell BK799.out 6).trans rfl⟩ (fun hHeld => ?_)
      clear hK K
      refine norm_ (a' := ?_) ?_ ?_
      rotate_left
      · show Act.put _ (some 43) _ = _
        simp only [Act.put, List.setIfInBounds_toArray, List.set_cons_zero, List.set_cons_succ, i64_w, i32_w]
        rfl
      refine pure_ (i := 5) (N := some 38) (v := ?_) (a' := ?_) #[true, true, true, true, true, true, false, false, false, false] rfl rfl (any_of HT_.out (by kernel_rfl)) (fun _ _ _ h => h) (Or.inl ⟨by rfl, ?_⟩) ?_ ?_
      rotate_left
      · intro w'
        go_simp
        with_reducible rfl
      rotate_left
      · simp only [Act.put, List.setIfInBounds_toArray, List.set_cons_zero, List.set_cons_succ, i64_w, i32_w]
        rfl
      refine pure_ (i := 6) (N := some 44) (v := ?_) (a' := ?_) #[true, true, true, true, true, true, true, false, false, false] rfl rfl (any_of HT_.out (by kernel_rfl)) (fun _ _ _ h => h) (Or.inl ⟨by rfl, ?_⟩) ?_ ?_
      rotate_left
      · intro w'
        go_simp
        with_reducible rfl
      rotate_left
      · simp only [Act.put, List.setIfInBounds_toArray, List.set_cons_zero, List.set_cons_succ, i64_w, i32_w]
        rfl
      refine pure_ (i := 7) (N := some 45) (v := ?_) (a' := ?_) #[true, true, true, true, true, true, true, true, false, false] rfl rfl (any_of HT_.out (by kernel_rfl)) (fun _ _ _ h => h) (Or.inl ⟨by rfl, ?_⟩) ?_ ?_
      rotate_left
      · intro w'
        go_simp
        with_reducible rfl
      rotate_left
      · simp only [Act.put, List.setIfInBounds_toArray, List.set_cons_zero, List.set_cons_succ, i64_w, i32_w]
        rfl
      refine pure_ (i := 8) (N := some 12) (v := ?_) (a' := ?_) #[true, true, true, true, true, true, true, true, true, false] rfl rfl (any_of HT_.out (by kernel_rfl)) (fun _ _ _ h => h) (Or.inl ⟨by rfl, ?_⟩) ?_ ?_
      rotate_left
      · intro w'
        go_simp
        with_reducible rfl
      rotate_left
      · simp only [Act.put, List.setIfInBounds_toArray, List.set_cons_zero, List.set_cons_succ, i64_w, i32_w]
        rfl
      refine pure_ (i := 9) (N := some 13) (v := ?_) (a' := ?_) #[true, true, true, true, true, true, true, true, true, true] rfl rfl (any_of HT_.out (by kernel_rfl)) (fun _ _ _ h => h) (Or.inl ⟨by rfl, ?_⟩) ?_ ?_
      rotate_left
      · intro w'
        go_simp
        with_reducible rfl
      rotate_left
      · simp only [Act.put, List.setIfInBounds_toArray, List.set_cons_zero, List.set_cons_succ, i64_w, i32_w]
        rfl
      refine done_ (done_of HT_.out (by kernel_rfl)) ?_
      go_upto_region 12 with (fail)
      go_cut [53] (fun v53 wc => ∃ (kq : Nat) (x53_25 : Bool), v53 = .bool x53_25 ∧ Aside0 (laws_FnExactCanLend.j0 kq l1 t821 x53_25 l0_0 t817 = some r) ∧ Aside0 (kq ≤ k) ∧ Aside0 (Kd.R kimplLoan 30 wc w.heap.size (fun _ => True) (.slice Ao49 t821.length co49) t821) ∧ Aside0 (Kd.S (Kd.slice 5 (Kd.int .u8)) 22 wc w.heap.size (fun _ => True) (.slice Ao42 t817.length co42) t817) ∧ Aside0 (wc.heap[gb798]? = some (.cells #[(.slice A0_0 l0_0.length c0_0)] 49 (0, 0))) ∧ Aside0 (wc.heap[gb799]? = some (.cells #[.int .i64 a2_0, .int .i64 a2_1, .int .i64 a2_2, .int .i64 a2_3, .bool a2_4, .int .i64 a2_5, .int .i64 a2_6] 53 (0, 0))) ∧ Aside0 (wc.heap[gb820]? = some (.cells #[(.slice Ao42 t817.length co42)] 26 (0, 0))) ∧ Aside0 (Below w.heap.size w wc))
      case first =>
        have H := HC26.out
        clear HC26
        by_cases c51 : (t831 != t815) = true
        · rw [if_pos c51] at H
          have c51b0 : (t831 != t815) = true := c51
          (try (have c51b1 : decide (t831 = t815) = false := by simpa using c51))
          (try (have c51b2 : (t831 == t815) = false := by simpa using c51))
          (try (have c51b3 : ¬ (t831 = t815) := by simpa using c51))
          clear c51
          (first | rw [c51b0] | (simp only [i64_w, i32_w]; rw [c51b0]) | skip)
          have H' := Aside0.mk H
          clear H
          go_wp2
          go_meet
          case rel => exact ⟨_, (true), (by first | rfl | (simp; done) | (simp [*]; done)), H', ⟨by first | omega | exact Nat.le_refl _⟩, ⟨by (with_reducible repeat (first | apply Kd.R_alloc | apply Kd.R_drewN | apply Kd.R_drew)); exact Kd.R_mono HO823.out (fun _ hk => trivial)⟩, ⟨by (with_reducible repeat (first | apply Kd.S_alloc | apply Kd.S_drewN | apply Kd.S_drew)); exact Kd.S_mono HO819.out (fun _ hk => trivial)⟩, ⟨by (with_reducible repeat (first | refine blk_drewN ?_ _ | refine blk_drew ?_ | refine blk_alloc ?_ _)); exact BK798.out⟩, ⟨by (with_reducible repeat (first | refine blk_drewN ?_ _ | refine blk_drew ?_ | refine blk_alloc ?_ _)); exact BK799.out⟩, ⟨by (with_reducible repeat (first | refine blk_drewN ?_ _ | refine blk_drew ?_ | refine blk_alloc ?_ _)); exact BK820.out⟩, ⟨by repeat (first | (with_reducible first | exact HB.out | apply below_alloc | apply pw_below_drewN | apply below_drew1 | refine below_set ?_ GE798.out | refine below_set ?_ GE799.out | refine below_set ?_ GE820.out) | exact HB.out)⟩⟩
        · rw [if_neg c51] at H
          have c51b0 : (t831 != t815) = false := by simpa using c51
          (try (have c51b1 : decide (t831 = t815) = true := by simpa using c51))
          (try (have c51b2 : (t831 == t815) = true := by simpa using c51))
          clear c51
          (first | rw [c51b0] | (simp only [i64_w, i32_w]; rw [c51b0]) | skip)
          have H' := Aside0.mk H
          clear H
          go_wp2
          go_meet
          case rel => exact ⟨_, ((t832 != t816)), (by first | rfl | (simp; done) | (simp [*]; done)), H', ⟨by first | omega | exact Nat.le_refl _⟩, ⟨by (with_reducible repeat (first | apply Kd.R_alloc | apply Kd.R_drewN | apply Kd.R_drew)); exact Kd.R_mono HO823.out (fun _ hk => trivial)⟩, ⟨by (with_reducible repeat (first | apply Kd.S_alloc | apply Kd.S_drewN | apply Kd.S_drew)); exact Kd.S_mono HO819.out (fun _ hk => trivial)⟩, ⟨by (with_reducible repeat (first | refine blk_drewN ?_ _ | refine blk_drew ?_ | refine blk_alloc ?_ _)); exact BK798.out⟩, ⟨by (with_reducible repeat (first | refine blk_drewN ?_ _ | refine blk_drew ?_ | refine blk_alloc ?_ _)); exact BK799.out⟩, ⟨by (with_reducible repeat (first | refine blk_drewN ?_ _ | refine blk_drew ?_ | refine blk_alloc ?_ _)); exact BK820.out⟩, ⟨by repeat (first | (with_reducible first | exact HB.out | apply below_alloc | apply pw_below_drewN | apply below_drew1 | refine below_set ?_ GE798.out | refine below_set ?_ GE799.out | refine below_set ?_ GE820.out) | exact HB.out)⟩⟩
      case rest =>
        clear HC26
        try clear c1
        try clear c2
        try clear p2
        try clear c4
        try clear c5
        try clear c5b0
        try clear c7
        try clear c8
        try clear c12
        try clear c12b0
        try clear c15
        try clear c24
        try clear c25
        try clear c27
        try clear c28
        try clear c29
        try clear c42
        try clear c43
        try clear c44
        try clear c51
        try clear c51b0
        try clear c51b1
        try clear c51b2
        try clear hcz16_0
        try clear hcz30_0
        try clear hcz39_0
        try clear hcz45_0
        try clear hcz9_0
        try clear hfz16_0
        try clear hfz30_0
        try clear hfz39_0
        try clear hfz45_0
        try clear hfz9_0
        obtain ⟨kq, x53_25, rfl, HA, HJ25, HO_11, HO_821000, BK798, BK799, BK820, HB⟩ := hcut
        cases kq with
        | zero => exact absurd HA.out (by simp [laws_FnExactCanLend.j0])
        | succ kj25 =>
          have H := HA.out
          clear HA
          simp only [laws_FnExactCanLend.j0] at H
          by_cases c52 : x53_25 = true
          · subst c52
            have H1 : (some false) = some r := by rw [if_pos rfl] at H; exact H
            clear H
            have H := H1
            clear H1
            obtain rfl := Option.some.inj H
            go_wp2
            go_ret
            exact ⟨by first | rfl | (simp [errW_none, errW_some] <;> rfl) | (simp [*, errW_none, errW_some] <;> rfl), by repeat (first | (with_reducible first | exact HB.out | apply below_alloc | apply pw_below_drewN | apply below_drew1 | refine below_set ?_ GE798.out | refine below_set ?_ GE799.out | refine below_set ?_ GE820.out) | exact HB.out)⟩
          · replace c52 := Bool.eq_false_iff.mpr c52
            subst c52
            have H1 : ((laws_toMemory.f l0_0).bind fun t833 => ((laws_eqMemory.f kj25 t817 t833).bind fun t836 => (if t836 = true then ((laws_toLoanS.f kj25 l1).bind fun t837 => ((laws_eqLoanS.f kj25 t821 t837).bind fun t840 => (if t840 = true then (some true) else (some false)))) else (some false)))) = some r := by rw [if_neg (show ¬ (false = true) by decide)] at H; exact H
            clear H
            have H := H1
            clear H1
            replace H := Option.bind_eq_some_iff.mp H
            obtain ⟨t833, A530, H⟩ := H
            replace H : ((laws_eqMemory.f kj25 t817 t833).bind fun t836 => (if t836 = true then ((laws_toLoanS.f kj25 l1).bind fun t837 => ((laws_eqLoanS.f kj25 t821 t837).bind fun t840 => (if t840 = true then (some true) else (some false)))) else (some false))) = some r := H
            have A53 := Aside0.mk A530
            clear A530
            replace H := Option.bind_eq_some_iff.mp H
            obtain ⟨t836, A540, H⟩ := H
            replace H : (if t836 = true then ((laws_toLoanS.f kj25 l1).bind fun t837 => ((laws_eqLoanS.f kj25 t821 t837).bind fun t840 => (if t840 = true then (some true) else (some false)))) else (some false)) = some r := H
            have A54 := Aside0.mk A540
            clear A540
            by_cases c55 : t836 = true
            · subst c55
              have H1 : ((laws_toLoanS.f kj25 l1).bind fun t837 => ((laws_eqLoanS.f kj25 t821 t837).bind fun t840 => (if t840 = true then (some true) else (some false)))) = some r := by rw [if_pos rfl] at H; exact H
              clear H
              have H := H1
              clear H1
              replace H := Option.bind_eq_some_iff.mp H
              obtain ⟨t837, A560, H⟩ := H
              replace H : ((laws_eqLoanS.f kj25 t821 t837).bind fun t840 => (if t840 = true then (some true) else (some false))) = some r := H
              have A56 := Aside0.mk A560
              clear A560
              replace H := Option.bind_eq_some_iff.mp H
              obtain ⟨t840, A570, H⟩ := H
              replace H : (if t840 = true then (some true) else (some false)) = some r := H
              have A57 := Aside0.mk A570
              clear A570
              by_cases c58 : t840 = true
              · subst c58
                have H1 : (some true) = some r := by rw [if_pos rfl] at H; exact H
                clear H
                have H := H1
                clear H1
                obtain rfl := Option.some.inj H
                try go_wp2
                have n0_ := Aside0.mk (Kd.R_drew HO_11.out)
                have n1_ := Aside0.mk (Kd.S_drew HO_821000.out)
                have n2_ := Aside0.mk (blk_drew BK798.out)
                have n3_ := Aside0.mk (blk_drew BK799.out)
                have n4_ := Aside0.mk (blk_drew BK820.out)
                have n5_ := Aside0.mk (below_drew1 HB.out)
                clear HO_11
                clear HO_821000
                clear BK798
                clear BK799
                clear BK820
                clear HB
                have HO_11 := n0_
                have HO_821000 := n1_
                have BK798 := n2_
                have BK799 := n3_
                have BK820 := n4_
                have HB := n5_
                clear n0_ n1_ n2_ n3_ n4_ n5_
                refine start_ (n := 5) (S := fun w' => w'.cell? ⟨gb820, 0, none⟩ = some (.slice Ao42 t817.length co42) ∧ w'.cell? ⟨gb798, 0, none⟩ = some (.slice A0_0 l0_0.length c0_0)) (ds := []) #[false, false, false, false, false] (by kernel_rfl) rfl rfl ⟨(blk_cell BK820.out 0).trans rfl, (blk_cell BK798.out 0).trans rfl⟩ (fun hHeld => ?_)
                generalize wc.drew = w59 at HO_11 HO_821000 BK798 BK799 BK820 HB hHeld ⊢
                refine take_ (i := 0) (N := some 54) (v := ?_) (a' := ?_) #[true, false, false, false, false] rfl rfl (by kernel_rfl) (fun _ _ _ h => h) (Or.inl ⟨by rfl, ?_⟩) hHeld ?_ ?_
                rotate_left
                · rintro w' ⟨s0, s1⟩
                  go_simp
                  with_reducible rfl
                rotate_left
                · simp only [Act.put, List.setIfInBounds_toArray, List.set_cons_zero, List.set_cons_succ, i64_w, i32_w]
                  rfl
                refine take_ (i := 1) (N := some 55) (v := ?_) (a' := ?_) #[true, true, false, false, false] rfl rfl (by kernel_rfl) (fun _ _ _ h => h) (Or.inl ⟨by rfl, ?_⟩) hHeld ?_ ?_
                rotate_left
                · rintro w' ⟨s0, s1⟩
                  go_simp
                  with_reducible rfl
                rotate_left
                · simp only [Act.put, List.setIfInBounds_toArray, List.set_cons_zero, List.set_cons_succ, i64_w, i32_w]
                  rfl
                refine one_ (i := 2) (N := some 56) #[true, true, true, false, false] rfl rfl (by kernel_rfl) (by decide) (fun K hK => ?_)
                refine goes_ Try.func27 (by kernel_rfl) rfl #[.agg #[.slice A0_0 l0_0.length c0_0]] (by rfl) rfl rfl (by (try simp only [List.map_toArray, List.map_cons, List.map_nil]); first | done | rfl | (simp only [List.length_drop, List.length_take]; rfl)) ?_
                with_reducible refine (laws_toMemory.calls _ _ l0_0 t833 _ ?side1 ?side2 A53.out).mono ?_
                (case side1 => repeat (first | exact (Kd.C_below HR0_0.out HB.out) | (with_reducible refine Kd.C_alloc ?_ _) | (with_reducible refine Kd.C_drewN ?_ _) | (with_reducible refine Kd.C_drew ?_)))
                (case side2 => exact HC0_0.out)
                rintro e w60 ⟨v834, rfl, ho0, hb⟩
                refine ⟨_, rfl, ?_⟩
                have n0_ := Aside0.mk (Kd.R_below (by (with_reducible repeat (first | apply Kd.R_alloc | apply Kd.R_drewN | apply Kd.R_drew)); exact HO_11.out) hb)
                have n1_ := Aside0.mk (Kd.S_elder' (by (with_reducible repeat (first | apply Kd.S_alloc | apply Kd.S_drewN | apply Kd.S_drew)); exact HO_821000.out) (Kd.S_base ho0) hb)
                have n2_ := Aside0.mk (Kd.S_lower (Kd.S_new' ho0 (Kd.S_lt (by (with_reducible repeat (first | apply Kd.S_alloc | apply Kd.S_drewN | apply Kd.S_drew)); exact HO_821000.out))) (below_size (by repeat (first | (with_reducible first | exact HB.out | apply below_alloc | apply pw_below_drewN | apply below_drew1 | refine below_set ?_ GE798.out | refine below_set ?_ GE799.out | refine below_set ?_ GE820.out) | exact HB.out))))
                have n3_ := Aside0.mk (blk_below (g := gb798) (o := .cells #[.slice A0_0 l0_0.length c0_0] 49 (0, 0)) (by (with_reducible repeat (first | refine blk_drewN ?_ _ | refine blk_drew ?_ | refine blk_alloc ?_ _)); exact BK798.out) hb)
                have n4_ := Aside0.mk (blk_below (g := gb799) (o := .cells #[.int .i64 a2_0, .int .i64 a2_1, .int .i64 a2_2, .int .i64 a2_3, .bool a2_4, .int .i64 a2_5, .int .i64 a2_6] 53 (0, 0)) (by (with_reducible repeat (first | refine blk_drewN ?_ _ | refine blk_drew ?_ | refine blk_alloc ?_ _)); exact BK799.out) hb)
                have n5_ := Aside0.mk (blk_below (g := gb820) (o := .cells #[.slice Ao42 t817.length co42] 26 (0, 0)) (by (with_reducible repeat (first | refine blk_drewN ?_ _ | refine blk_drew ?_ | refine blk_alloc ?_ _)); exact BK820.out) hb)
                have n6_ := Aside0.mk (below_step (by repeat (first | (with_reducible first | exact HB.out | apply below_alloc | apply pw_below_drewN | apply below_drew1 | refine below_set ?_ GE798.out | refine below_set ?_ GE799.out | refine below_set ?_ GE820.out) | exact HB.out)) hb)
                clear HO_11
                clear HO_821000
                clear BK798
                clear BK799
                clear BK820
                clear HB
                have HO_11 := n0_
                have HO_821000 := n1_
                have HO835 := n2_
                have BK798 := n3_
                have BK799 := n4_
                have BK820 := n5_
                have HB := n6_
                clear n0_ n1_ n2_ n3_ n4_ n5_ n6_
                (try clear hb)
                (try clear hb2)
                (try clear hk)
                (try clear hi)
                (try clear ho0)
                obtain ⟨Ao61, co61, eo61⟩ := Kd.S_slice HO835.out
                (first | subst eo61 | (injection eo61 with f1_ f2_ f3_; have f4_ := f1_.symm; have f5_ := f3_.symm; clear f1_ f2_ f3_; subst f4_; subst f5_))
                refine hK.out _ _ ⟨(blk_cell BK820.out 0).trans rfl, (blk_cell BK798.out 0).trans rfl⟩ (fun hHeld => ?_)
                clear hK K
                refine norm_ (a' := ?_) ?_ ?_
                rotate_left
                · show Act.put _ (some 56) _ = _
                  simp only [Act.put, List.setIfInBounds_toArray, List.set_cons_zero, List.set_cons_succ, i64_w, i32_w]
                  rfl
                refine one_ (i := 3) (N := some 57) #[true, true, true, true, false] rfl rfl (by kernel_rfl) (by decide) (fun K hK => ?_)
                refine goes_ Try.func31 (by kernel_rfl) rfl #[.agg #[.slice Ao42 t817.length co42], .agg #[.slice Ao61 t833.length co61]] (by rfl) rfl rfl (by (try simp only [List.map_toArray, List.map_cons, List.map_nil]); first | done | rfl | (simp only [List.length_drop, List.length_take]; rfl)) ?_
                with_reducible refine (laws_eqMemory.calls kj25 _ _ t817 _ _ t833 true _ ?side1 ?side2 ?side3 ?side4 A54.out).mono ?_
                (case side1 => repeat (first | exact (Kd.S_reads' HO_821000.out).2.2 | (with_reducible refine Kd.C_alloc ?_ _) | (with_reducible refine Kd.C_drewN ?_ _) | (with_reducible refine Kd.C_drew ?_)))
                (case side2 => exact (Kd.S_reads' HO_821000.out).2.1)
                (case side3 => repeat (first | exact (Kd.S_reads' HO835.out).2.2 | (with_reducible refine Kd.C_alloc ?_ _) | (with_reducible refine Kd.C_drewN ?_ _) | (with_reducible refine Kd.C_drew ?_)))
                (case side4 => exact (Kd.S_reads' HO835.out).2.1)
                rintro e w62 ⟨rfl, hb⟩
                refine ⟨_, rfl, ?_⟩
                have n0_ := Aside0.mk (Kd.R_below (by (with_reducible repeat (first | apply Kd.R_alloc | apply Kd.R_drewN | apply Kd.R_drew)); exact HO_11.out) hb)
                have n1_ := Aside0.mk (Kd.S_below (by (with_reducible repeat (first | apply Kd.S_alloc | apply Kd.S_drewN | apply Kd.S_drew)); exact HO_821000.out) hb)
                have n2_ := Aside0.mk (Kd.S_below (by (with_reducible repeat (first | apply Kd.S_alloc | apply Kd.S_drewN | apply Kd.S_drew)); exact HO835.out) hb)
                have n3_ := Aside0.mk (blk_below (g := gb798) (o := .cells #[.slice A0_0 l0_0.length c0_0] 49 (0, 0)) (by (with_reducible repeat (first | refine blk_drewN ?_ _ | refine blk_drew ?_ | refine blk_alloc ?_ _)); exact BK798.out) hb)
                have n4_ := Aside0.mk (blk_below (g := gb799) (o := .cells #[.int .i64 a2_0, .int .i64 a2_1, .int .i64 a2_2, .int .i64 a2_3, .bool a2_4, .int .i64 a2_5, .int .i64 a2_6] 53 (0, 0)) (by (with_reducible repeat (first | refine blk_drewN ?_ _ | refine blk_drew ?_ | refine blk_alloc ?_ _)); exact BK799.out) hb)
                have n5_ := Aside0.mk (blk_below (g := gb820) (o := .cells #[.slice Ao42 t817.length co42] 26 (0, 0)) (by (with_reducible repeat (first | refine blk_drewN ?_ _ | refine blk_drew ?_ | refine blk_alloc ?_ _)); exact BK820.out) hb)
                have n6_ := Aside0.mk (below_step (by repeat (first | (with_reducible first | exact HB.out | apply below_alloc | apply pw_below_drewN | apply below_drew1 | refine below_set ?_ GE798.out | refine below_set ?_ GE799.out | refine below_set ?_ GE820.out) | exact HB.out)) hb)
                clear HO_11
                clear HO_821000
                clear HO835
                clear BK798
                clear BK799
                clear BK820
                clear HB
                have HO_11 := n0_
                have HO_821000 := n1_
                have HO835 := n2_
                have BK798 := n3_
                have BK799 := n4_
                have BK820 := n5_
                have HB := n6_
                clear n0_ n1_ n2_ n3_ n4_ n5_ n6_
                (try clear hb)
                (try clear hb2)
                (try clear hk)
                (try clear hi)
                refine hK.out _ _ ⟨(blk_cell BK820.out 0).trans rfl, (blk_cell BK798.out 0).trans rfl⟩ (fun hHeld => ?_)
                clear hK K
                refine norm_ (a' := ?_) ?_ ?_
                rotate_left
                · show Act.put _ (some 57) _ = _
                  simp only [Act.put, List.setIfInBounds_toArray, List.set_cons_zero, List.set_cons_succ, i64_w, i32_w]
                  rfl
                refine pure_ (i := 4) (N := some 58) (v := ?_) (a' := ?_) #[true, true, true, true, true] rfl rfl (by kernel_rfl) (fun _ _ _ h => h) (Or.inl ⟨by rfl, ?_⟩) ?_ ?_
                rotate_left
                · intro w'
                  go_simp
                  with_reducible rfl
                rotate_left
                · simp only [Act.put, List.setIfInBounds_toArray, List.set_cons_zero, List.set_cons_succ, i64_w, i32_w]
                  rfl
                refine done_ (by kernel_rfl) ?_
                try go_wp2_with (first | ((with_reducible refine gate_callee (f := 28) rfl ?_); refine goesL_ (some 61) rfl rfl Try.func28 (by kernel_rfl) rfl #[.slice A1 l1.length c1] rfl (by (try simp only [List.map_toArray, List.map_cons, List.map_nil]); first | done | rfl | (simp only [List.length_drop, List.length_take]; rfl)) ?_; (with_reducible refine (laws_toLoanS.calls kj25 _ _ l1 t837 _ ?side1 ?side2 A56.out).mono ?_); (case side1 => repeat (first | exact (Kd.C_below HR1.out HB.out) | (with_reducible refine Kd.C_alloc ?_ _) | (with_reducible refine Kd.C_drewN ?_ _) | (with_reducible refine Kd.C_drew ?_))); (case side2 => exact HC1.out); rintro e w63 ⟨v838, rfl, ho0, hb⟩; refine ⟨_, rfl, ?_⟩; have n0_ := Aside0.mk (Kd.R_elder' (by (with_reducible repeat (first | apply Kd.R_alloc | apply Kd.R_drewN | apply Kd.R_drew)); exact HO_11.out) (Kd.R_base ho0) hb); have n1_ := Aside0.mk (Kd.S_below (by (with_reducible repeat (first | apply Kd.S_alloc | apply Kd.S_drewN | apply Kd.S_drew)); exact HO_821000.out) hb); have n2_ := Aside0.mk (Kd.S_below (by (with_reducible repeat (first | apply Kd.S_alloc | apply Kd.S_drewN | apply Kd.S_drew)); exact HO835.out) hb); have n3_ := Aside0.mk (Kd.R_lower (Kd.R_new' ho0 (Kd.R_lt (by (with_reducible repeat (first | apply Kd.R_alloc | apply Kd.R_drewN | apply Kd.R_drew)); exact HO_11.out))) (below_size (by repeat (first | (with_reducible first | exact HB.out | apply below_alloc | apply pw_below_drewN | apply below_drew1 | refine below_set ?_ GE798.out | refine below_set ?_ GE799.out | refine below_set ?_ GE820.out) | exact HB.out)))); have n4_ := Aside0.mk (blk_below (g := gb798) (o := .cells #[.slice A0_0 l0_0.length c0_0] 49 (0, 0)) (by (with_reducible repeat (first | refine blk_drewN ?_ _ | refine blk_drew ?_ | refine blk_alloc ?_ _)); exact BK798.out) hb); have n5_ := Aside0.mk (blk_below (g := gb799) (o := .cells #[.int .i64 a2_0, .int .i64 a2_1, .int .i64 a2_2, .int .i64 a2_3, .bool a2_4, .int .i64 a2_5, .int .i64 a2_6] 53 (0, 0)) (by (with_reducible repeat (first | refine blk_drewN ?_ _ | refine blk_drew ?_ | refine blk_alloc ?_ _)); exact BK799.out) hb); have n6_ := Aside0.mk (blk_below (g := gb820) (o := .cells #[.slice Ao42 t817.length co42] 26 (0, 0)) (by (with_reducible repeat (first | refine blk_drewN ?_ _ | refine blk_drew ?_ | refine blk_alloc ?_ _)); exact BK820.out) hb); have n7_ := Aside0.mk (below_step (by repeat (first | (with_reducible first | exact HB.out | apply below_alloc | apply pw_below_drewN | apply below_drew1 | refine below_set ?_ GE798.out | refine below_set ?_ GE799.out | refine below_set ?_ GE820.out) | exact HB.out)) hb); clear HO_11; clear HO_821000; clear HO835; clear BK798; clear BK799; clear BK820; clear HB; have HO_11 := n0_; have HO_821000 := n1_; have HO835 := n2_; have HO839 := n3_; have BK798 := n4_; have BK799 := n5_; have BK820 := n6_; have HB := n7_; clear n0_ n1_ n2_ n3_ n4_ n5_ n6_ n7_; (try clear hb); (try clear hb2); (try clear hk); (try clear hi); (try clear ho0); obtain ⟨Ao64, co64, eo64⟩ := Kd.R_slice HO839.out; subst eo64) | ((with_reducible refine gate_callee (f := 32) rfl ?_); refine goesL_ (some 62) rfl rfl Try.func32 (by kernel_rfl) rfl #[.slice Ao49 t821.length co49, .slice Ao64 t837.length co64] rfl (by (try simp only [List.map_toArray, List.map_cons, List.map_nil]); first | done | rfl | (simp only [List.length_drop, List.length_take]; rfl)) ?_; (with_reducible refine (laws_eqLoanS.calls kj25 _ _ t821 _ _ t837 true _ ?side1 ?side2 ?side3 ?side4 A57.out).mono ?_); (case side1 => repeat (first | exact (Kd.R_reads' HO_11.out).2.2 | (with_reducible refine Kd.C_alloc ?_ _) | (with_reducible refine Kd.C_drewN ?_ _) | (with_reducible refine Kd.C_drew ?_))); (case side2 => exact (Kd.R_reads' HO_11.out).2.1); (case side3 => repeat (first | exact (Kd.R_reads' HO839.out).2.2 | (with_reducible refine Kd.C_alloc ?_ _) | (with_reducible refine Kd.C_drewN ?_ _) | (with_reducible refine Kd.C_drew ?_))); (case side4 => exact (Kd.R_reads' HO839.out).2.1); rintro e w65 ⟨rfl, hb⟩; refine ⟨_, rfl, ?_⟩; have n0_ := Aside0.mk (Kd.R_below (by (with_reducible repeat (first | apply Kd.R_alloc | apply Kd.R_drewN | apply Kd.R_drew)); exact HO_11.out) hb); have n1_ := Aside0.mk (Kd.S_below (by (with_reducible repeat (first | apply Kd.S_alloc | apply Kd.S_drewN | apply Kd.S_drew)); exact HO_821000.out) hb); have n2_ := Aside0.mk (Kd.S_below (by (with_reducible repeat (first | apply Kd.S_alloc | apply Kd.S_drewN | apply Kd.S_drew)); exact HO835.out) hb); have n3_ := Aside0.mk (Kd.R_below (by (with_reducible repeat (first | apply Kd.R_alloc | apply Kd.R_drewN | apply Kd.R_drew)); exact HO839.out) hb); have n4_ := Aside0.mk (blk_below (g := gb798) (o := .cells #[.slice A0_0 l0_0.length c0_0] 49 (0, 0)) (by (with_reducible repeat (first | refine blk_drewN ?_ _ | refine blk_drew ?_ | refine blk_alloc ?_ _)); exact BK798.out) hb); have n5_ := Aside0.mk (blk_below (g := gb799) (o := .cells #[.int .i64 a2_0, .int .i64 a2_1, .int .i64 a2_2, .int .i64 a2_3, .bool a2_4, .int .i64 a2_5, .int .i64 a2_6] 53 (0, 0)) (by (with_reducible repeat (first | refine blk_drewN ?_ _ | refine blk_drew ?_ | refine blk_alloc ?_ _)); exact BK799.out) hb); have n6_ := Aside0.mk (blk_below (g := gb820) (o := .cells #[.slice Ao42 t817.length co42] 26 (0, 0)) (by (with_reducible repeat (first | refine blk_drewN ?_ _ | refine blk_drew ?_ | refine blk_alloc ?_ _)); exact BK820.out) hb); have n7_ := Aside0.mk (below_step (by repeat (first | (with_reducible first | exact HB.out | apply below_alloc | apply pw_below_drewN | apply below_drew1 | refine below_set ?_ GE798.out | refine below_set ?_ GE799.out | refine below_set ?_ GE820.out) | exact HB.out)) hb); clear HO_11; clear HO_821000; clear HO835; clear HO839; clear BK798; clear BK799; clear BK820; clear HB; have HO_11 := n0_; have HO_821000 := n1_; have HO835 := n2_; have HO839 := n3_; have BK798 := n4_; have BK799 := n5_; have BK820 := n6_; have HB := n7_; clear n0_ n1_ n2_ n3_ n4_ n5_ n6_ n7_; (try clear hb); (try clear hb2); (try clear hk); (try clear hi)))
                go_ret
                exact ⟨by first | rfl | (simp [errW_none, errW_some] <;> rfl) | (simp [*, errW_none, errW_some] <;> rfl), by repeat (first | (with_reducible first | exact HB.out | apply below_alloc | apply pw_below_drewN | apply below_drew1 | refine below_set ?_ GE798.out | refine below_set ?_ GE799.out | refine below_set ?_ GE820.out) | exact HB.out)⟩
              · replace c58 := Bool.eq_false_iff.mpr c58
                subst c58
                have H1 : (some false) = some r := by rw [if_neg (show ¬ (false = true) by decide)] at H; exact H
                clear H
                have H := H1
                clear H1
                obtain rfl := Option.some.inj H
                try go_wp2
                have n0_ := Aside0.mk (Kd.R_drew HO_11.out)
                have n1_ := Aside0.mk (Kd.S_drew HO_821000.out)
                have n2_ := Aside0.mk (blk_drew BK798.out)
                have n3_ := Aside0.mk (blk_drew BK799.out)
                have n4_ := Aside0.mk (blk_drew BK820.out)
                have n5_ := Aside0.mk (below_drew1 HB.out)
                clear HO_11
                clear HO_821000
                clear BK798
                clear BK799
                clear BK820
                clear HB
                have HO_11 := n0_
                have HO_821000 := n1_
                have BK798 := n2_
                have BK799 := n3_
                have BK820 := n4_
                have HB := n5_
                clear n0_ n1_ n2_ n3_ n4_ n5_
                refine start_ (n := 5) (S := fun w' => w'.cell? ⟨gb820, 0, none⟩ = some (.slice Ao42 t817.length co42) ∧ w'.cell? ⟨gb798, 0, none⟩ = some (.slice A0_0 l0_0.length c0_0)) (ds := []) #[false, false, false, false, false] (by kernel_rfl) rfl rfl ⟨(blk_cell BK820.out 0).trans rfl, (blk_cell BK798.out 0).trans rfl⟩ (fun hHeld => ?_)
                generalize wc.drew = w66 at HO_11 HO_821000 BK798 BK799 BK820 HB hHeld ⊢
                refine take_ (i := 0) (N := some 54) (v := ?_) (a' := ?_) #[true, false, false, false, false] rfl rfl (by kernel_rfl) (fun _ _ _ h => h) (Or.inl ⟨by rfl, ?_⟩) hHeld ?_ ?_
                rotate_left
                · rintro w' ⟨s0, s1⟩
                  go_simp
                  with_reducible rfl
                rotate_left
                · simp only [Act.put, List.setIfInBounds_toArray, List.set_cons_zero, List.set_cons_succ, i64_w, i32_w]
                  rfl
                refine take_ (i := 1) (N := some 55) (v := ?_) (a' := ?_) #[true, true, false, false, false] rfl rfl (by kernel_rfl) (fun _ _ _ h => h) (Or.inl ⟨by rfl, ?_⟩) hHeld ?_ ?_
                rotate_left
                · rintro w' ⟨s0, s1⟩
                  go_simp
                  with_reducible rfl
                rotate_left
                · simp only [Act.put, List.setIfInBounds_toArray, List.set_cons_zero, List.set_cons_succ, i64_w, i32_w]
                  rfl
                refine one_ (i := 2) (N := some 56) #[true, true, true, false, false] rfl rfl (by kernel_rfl) (by decide) (fun K hK => ?_)
                refine goes_ Try.func27 (by kernel_rfl) rfl #[.agg #[.slice A0_0 l0_0.length c0_0]] (by rfl) rfl rfl (by (try simp only [List.map_toArray, List.map_cons, List.map_nil]); first | done | rfl | (simp only [List.length_drop, List.length_take]; rfl)) ?_
                with_reducible refine (laws_toMemory.calls _ _ l0_0 t833 _ ?side1 ?side2 A53.out).mono ?_
                (case side1 => repeat (first | exact (Kd.C_below HR0_0.out HB.out) | (with_reducible refine Kd.C_alloc ?_ _) | (with_reducible refine Kd.C_drewN ?_ _) | (with_reducible refine Kd.C_drew ?_)))
                (case side2 => exact HC0_0.out)
                rintro e w67 ⟨v834, rfl, ho0, hb⟩
                refine ⟨_, rfl, ?_⟩
                have n0_ := Aside0.mk (Kd.R_below (by (with_reducible repeat (first | apply Kd.R_alloc | apply Kd.R_drewN | apply Kd.R_drew)); exact HO_11.out) hb)
                have n1_ := Aside0.mk (Kd.S_elder' (by (with_reducible repeat (first | apply Kd.S_alloc | apply Kd.S_drewN | apply Kd.S_drew)); exact HO_821000.out) (Kd.S_base ho0) hb)
                have n2_ := Aside0.mk (Kd.S_lower (Kd.S_new' ho0 (Kd.S_lt (by (with_reducible repeat (first | apply Kd.S_alloc | apply Kd.S_drewN | apply Kd.S_drew)); exact HO_821000.out))) (below_size (by repeat (first | (with_reducible first | exact HB.out | apply below_alloc | apply pw_below_drewN | apply below_drew1 | refine below_set ?_ GE798.out | refine below_set ?_ GE799.out | refine below_set ?_ GE820.out) | exact HB.out))))
                have n3_ := Aside0.mk (blk_below (g := gb798) (o := .cells #[.slice A0_0 l0_0.length c0_0] 49 (0, 0)) (by (with_reducible repeat (first | refine blk_drewN ?_ _ | refine blk_drew ?_ | refine blk_alloc ?_ _)); exact BK798.out) hb)
                have n4_ := Aside0.mk (blk_below (g := gb799) (o := .cells #[.int .i64 a2_0, .int .i64 a2_1, .int .i64 a2_2, .int .i64 a2_3, .bool a2_4, .int .i64 a2_5, .int .i64 a2_6] 53 (0, 0)) (by (with_reducible repeat (first | refine blk_drewN ?_ _ | refine blk_drew ?_ | refine blk_alloc ?_ _)); exact BK799.out) hb)
                have n5_ := Aside0.mk (blk_below (g := gb820) (o := .cells #[.slice Ao42 t817.length co42] 26 (0, 0)) (by (with_reducible repeat (first | refine blk_drewN ?_ _ | refine blk_drew ?_ | refine blk_alloc ?_ _)); exact BK820.out) hb)
                have n6_ := Aside0.mk (below_step (by repeat (first | (with_reducible first | exact HB.out | apply below_alloc | apply pw_below_drewN | apply below_drew1 | refine below_set ?_ GE798.out | refine below_set ?_ GE799.out | refine below_set ?_ GE820.out) | exact HB.out)) hb)
                clear HO_11
                clear HO_821000
                clear BK798
                clear BK799
                clear BK820
                clear HB
                have HO_11 := n0_
                have HO_821000 := n1_
                have HO835 := n2_
                have BK798 := n3_
                have BK799 := n4_
                have BK820 := n5_
                have HB := n6_
                clear n0_ n1_ n2_ n3_ n4_ n5_ n6_
                (try clear hb)
                (try clear hb2)
                (try clear hk)
                (try clear hi)
                (try clear ho0)
                obtain ⟨Ao68, co68, eo68⟩ := Kd.S_slice HO835.out
                (first | subst eo68 | (injection eo68 with f1_ f2_ f3_; have f4_ := f1_.symm; have f5_ := f3_.symm; clear f1_ f2_ f3_; subst f4_; subst f5_))
                refine hK.out _ _ ⟨(blk_cell BK820.out 0).trans rfl, (blk_cell BK798.out 0).trans rfl⟩ (fun hHeld => ?_)
                clear hK K
                refine norm_ (a' := ?_) ?_ ?_
                rotate_left
                · show Act.put _ (some 56) _ = _
                  simp only [Act.put, List.setIfInBounds_toArray, List.set_cons_zero, List.set_cons_succ, i64_w, i32_w]
                  rfl
                refine one_ (i := 3) (N := some 57) #[true, true, true, true, false] rfl rfl (by kernel_rfl) (by decide) (fun K hK => ?_)
                refine goes_ Try.func31 (by kernel_rfl) rfl #[.agg #[.slice Ao42 t817.length co42], .agg #[.slice Ao68 t833.length co68]] (by rfl) rfl rfl (by (try simp only [List.map_toArray, List.map_cons, List.map_nil]); first | done | rfl | (simp only [List.length_drop, List.length_take]; rfl)) ?_
                with_reducible refine (laws_eqMemory.calls kj25 _ _ t817 _ _ t833 true _ ?side1 ?side2 ?side3 ?side4 A54.out).mono ?_
                (case side1 => repeat (first | exact (Kd.S_reads' HO_821000.out).2.2 | (with_reducible refine Kd.C_alloc ?_ _) | (with_reducible refine Kd.C_drewN ?_ _) | (with_reducible refine Kd.C_drew ?_)))
                (case side2 => exact (Kd.S_reads' HO_821000.out).2.1)
                (case side3 => repeat (first | exact (Kd.S_reads' HO835.out).2.2 | (with_reducible refine Kd.C_alloc ?_ _) | (with_reducible refine Kd.C_drewN ?_ _) | (with_reducible refine Kd.C_drew ?_)))
                (case side4 => exact (Kd.S_reads' HO835.out).2.1)
                rintro e w69 ⟨rfl, hb⟩
                refine ⟨_, rfl, ?_⟩
                have n0_ := Aside0.mk (Kd.R_below (by (with_reducible repeat (first | apply Kd.R_alloc | apply Kd.R_drewN | apply Kd.R_drew)); exact HO_11.out) hb)
                have n1_ := Aside0.mk (Kd.S_below (by (with_reducible repeat (first | apply Kd.S_alloc | apply Kd.S_drewN | apply Kd.S_drew)); exact HO_821000.out) hb)
                have n2_ := Aside0.mk (Kd.S_below (by (with_reducible repeat (first | apply Kd.S_alloc | apply Kd.S_drewN | apply Kd.S_drew)); exact HO835.out) hb)
                have n3_ := Aside0.mk (blk_below (g := gb798) (o := .cells #[.slice A0_0 l0_0.length c0_0] 49 (0, 0)) (by (with_reducible repeat (first | refine blk_drewN ?_ _ | refine blk_drew ?_ | refine blk_alloc ?_ _)); exact BK798.out) hb)
                have n4_ := Aside0.mk (blk_below (g := gb799) (o := .cells #[.int .i64 a2_0, .int .i64 a2_1, .int .i64 a2_2, .int .i64 a2_3, .bool a2_4, .int .i64 a2_5, .int .i64 a2_6] 53 (0, 0)) (by (with_reducible repeat (first | refine blk_drewN ?_ _ | refine blk_drew ?_ | refine blk_alloc ?_ _)); exact BK799.out) hb)
                have n5_ := Aside0.mk (blk_below (g := gb820) (o := .cells #[.slice Ao42 t817.length co42] 26 (0, 0)) (by (with_reducible repeat (first | refine blk_drewN ?_ _ | refine blk_drew ?_ | refine blk_alloc ?_ _)); exact BK820.out) hb)
                have n6_ := Aside0.mk (below_step (by repeat (first | (with_reducible first | exact HB.out | apply below_alloc | apply pw_below_drewN | apply below_drew1 | refine below_set ?_ GE798.out | refine below_set ?_ GE799.out | refine below_set ?_ GE820.out) | exact HB.out)) hb)
                clear HO_11
                clear HO_821000
                clear HO835
                clear BK798
                clear BK799
                clear BK820
                clear HB
                have HO_11 := n0_
                have HO_821000 := n1_
                have HO835 := n2_
                have BK798 := n3_
                have BK799 := n4_
                have BK820 := n5_
                have HB := n6_
                clear n0_ n1_ n2_ n3_ n4_ n5_ n6_
                (try clear hb)
                (try clear hb2)
                (try clear hk)
                (try clear hi)
                refine hK.out _ _ ⟨(blk_cell BK820.out 0).trans rfl, (blk_cell BK798.out 0).trans rfl⟩ (fun hHeld => ?_)
                clear hK K
                refine norm_ (a' := ?_) ?_ ?_
                rotate_left
                · show Act.put _ (some 57) _ = _
                  simp only [Act.put, List.setIfInBounds_toArray, List.set_cons_zero, List.set_cons_succ, i64_w, i32_w]
                  rfl
                refine pure_ (i := 4) (N := some 58) (v := ?_) (a' := ?_) #[true, true, true, true, true] rfl rfl (by kernel_rfl) (fun _ _ _ h => h) (Or.inl ⟨by rfl, ?_⟩) ?_ ?_
                rotate_left
                · intro w'
                  go_simp
                  with_reducible rfl
                rotate_left
                · simp only [Act.put, List.setIfInBounds_toArray, List.set_cons_zero, List.set_cons_succ, i64_w, i32_w]
                  rfl
                refine done_ (by kernel_rfl) ?_
                try go_wp2_with (first | ((with_reducible refine gate_callee (f := 28) rfl ?_); refine goesL_ (some 61) rfl rfl Try.func28 (by kernel_rfl) rfl #[.slice A1 l1.length c1] rfl (by (try simp only [List.map_toArray, List.map_cons, List.map_nil]); first | done | rfl | (simp only [List.length_drop, List.length_take]; rfl)) ?_; (with_reducible refine (laws_toLoanS.calls kj25 _ _ l1 t837 _ ?side1 ?side2 A56.out).mono ?_); (case side1 => repeat (first | exact (Kd.C_below HR1.out HB.out) | (with_reducible refine Kd.C_alloc ?_ _) | (with_reducible refine Kd.C_drewN ?_ _) | (with_reducible refine Kd.C_drew ?_))); (case side2 => exact HC1.out); rintro e w70 ⟨v838, rfl, ho0, hb⟩; refine ⟨_, rfl, ?_⟩; have n0_ := Aside0.mk (Kd.R_elder' (by (with_reducible repeat (first | apply Kd.R_alloc | apply Kd.R_drewN | apply Kd.R_drew)); exact HO_11.out) (Kd.R_base ho0) hb); have n1_ := Aside0.mk (Kd.S_below (by (with_reducible repeat (first | apply Kd.S_alloc | apply Kd.S_drewN | apply Kd.S_drew)); exact HO_821000.out) hb); have n2_ := Aside0.mk (Kd.S_below (by (with_reducible repeat (first | apply Kd.S_alloc | apply Kd.S_drewN | apply Kd.S_drew)); exact HO835.out) hb); have n3_ := Aside0.mk (Kd.R_lower (Kd.R_new' ho0 (Kd.R_lt (by (with_reducible repeat (first | apply Kd.R_alloc | apply Kd.R_drewN | apply Kd.R_drew)); exact HO_11.out))) (below_size (by repeat (first | (with_reducible first | exact HB.out | apply below_alloc | apply pw_below_drewN | apply below_drew1 | refine below_set ?_ GE798.out | refine below_set ?_ GE799.out | refine below_set ?_ GE820.out) | exact HB.out)))); have n4_ := Aside0.mk (blk_below (g := gb798) (o := .cells #[.slice A0_0 l0_0.length c0_0] 49 (0, 0)) (by (with_reducible repeat (first | refine blk_drewN ?_ _ | refine blk_drew ?_ | refine blk_alloc ?_ _)); exact BK798.out) hb); have n5_ := Aside0.mk (blk_below (g := gb799) (o := .cells #[.int .i64 a2_0, .int .i64 a2_1, .int .i64 a2_2, .int .i64 a2_3, .bool a2_4, .int .i64 a2_5, .int .i64 a2_6] 53 (0, 0)) (by (with_reducible repeat (first | refine blk_drewN ?_ _ | refine blk_drew ?_ | refine blk_alloc ?_ _)); exact BK799.out) hb); have n6_ := Aside0.mk (blk_below (g := gb820) (o := .cells #[.slice Ao42 t817.length co42] 26 (0, 0)) (by (with_reducible repeat (first | refine blk_drewN ?_ _ | refine blk_drew ?_ | refine blk_alloc ?_ _)); exact BK820.out) hb); have n7_ := Aside0.mk (below_step (by repeat (first | (with_reducible first | exact HB.out | apply below_alloc | apply pw_below_drewN | apply below_drew1 | refine below_set ?_ GE798.out | refine below_set ?_ GE799.out | refine below_set ?_ GE820.out) | exact HB.out)) hb); clear HO_11; clear HO_821000; clear HO835; clear BK798; clear BK799; clear BK820; clear HB; have HO_11 := n0_; have HO_821000 := n1_; have HO835 := n2_; have HO839 := n3_; have BK798 := n4_; have BK799 := n5_; have BK820 := n6_; have HB := n7_; clear n0_ n1_ n2_ n3_ n4_ n5_ n6_ n7_; (try clear hb); (try clear hb2); (try clear hk); (try clear hi); (try clear ho0); obtain ⟨Ao71, co71, eo71⟩ := Kd.R_slice HO839.out; subst eo71) | ((with_reducible refine gate_callee (f := 32) rfl ?_); refine goesL_ (some 62) rfl rfl Try.func32 (by kernel_rfl) rfl #[.slice Ao49 t821.length co49, .slice Ao71 t837.length co71] rfl (by (try simp only [List.map_toArray, List.map_cons, List.map_nil]); first | done | rfl | (simp only [List.length_drop, List.length_take]; rfl)) ?_; (with_reducible refine (laws_eqLoanS.calls kj25 _ _ t821 _ _ t837 false _ ?side1 ?side2 ?side3 ?side4 A57.out).mono ?_); (case side1 => repeat (first | exact (Kd.R_reads' HO_11.out).2.2 | (with_reducible refine Kd.C_alloc ?_ _) | (with_reducible refine Kd.C_drewN ?_ _) | (with_reducible refine Kd.C_drew ?_))); (case side2 => exact (Kd.R_reads' HO_11.out).2.1); (case side3 => repeat (first | exact (Kd.R_reads' HO839.out).2.2 | (with_reducible refine Kd.C_alloc ?_ _) | (with_reducible refine Kd.C_drewN ?_ _) | (with_reducible refine Kd.C_drew ?_))); (case side4 => exact (Kd.R_reads' HO839.out).2.1); rintro e w72 ⟨rfl, hb⟩; refine ⟨_, rfl, ?_⟩; have n0_ := Aside0.mk (Kd.R_below (by (with_reducible repeat (first | apply Kd.R_alloc | apply Kd.R_drewN | apply Kd.R_drew)); exact HO_11.out) hb); have n1_ := Aside0.mk (Kd.S_below (by (with_reducible repeat (first | apply Kd.S_alloc | apply Kd.S_drewN | apply Kd.S_drew)); exact HO_821000.out) hb); have n2_ := Aside0.mk (Kd.S_below (by (with_reducible repeat (first | apply Kd.S_alloc | apply Kd.S_drewN | apply Kd.S_drew)); exact HO835.out) hb); have n3_ := Aside0.mk (Kd.R_below (by (with_reducible repeat (first | apply Kd.R_alloc | apply Kd.R_drewN | apply Kd.R_drew)); exact HO839.out) hb); have n4_ := Aside0.mk (blk_below (g := gb798) (o := .cells #[.slice A0_0 l0_0.length c0_0] 49 (0, 0)) (by (with_reducible repeat (first | refine blk_drewN ?_ _ | refine blk_drew ?_ | refine blk_alloc ?_ _)); exact BK798.out) hb); have n5_ := Aside0.mk (blk_below (g := gb799) (o := .cells #[.int .i64 a2_0, .int .i64 a2_1, .int .i64 a2_2, .int .i64 a2_3, .bool a2_4, .int .i64 a2_5, .int .i64 a2_6] 53 (0, 0)) (by (with_reducible repeat (first | refine blk_drewN ?_ _ | refine blk_drew ?_ | refine blk_alloc ?_ _)); exact BK799.out) hb); have n6_ := Aside0.mk (blk_below (g := gb820) (o := .cells #[.slice Ao42 t817.length co42] 26 (0, 0)) (by (with_reducible repeat (first | refine blk_drewN ?_ _ | refine blk_drew ?_ | refine blk_alloc ?_ _)); exact BK820.out) hb); have n7_ := Aside0.mk (below_step (by repeat (first | (with_reducible first | exact HB.out | apply below_alloc | apply pw_below_drewN | apply below_drew1 | refine below_set ?_ GE798.out | refine below_set ?_ GE799.out | refine below_set ?_ GE820.out) | exact HB.out)) hb); clear HO_11; clear HO_821000; clear HO835; clear HO839; clear BK798; clear BK799; clear BK820; clear HB; have HO_11 := n0_; have HO_821000 := n1_; have HO835 := n2_; have HO839 := n3_; have BK798 := n4_; have BK799 := n5_; have BK820 := n6_; have HB := n7_; clear n0_ n1_ n2_ n3_ n4_ n5_ n6_ n7_; (try clear hb); (try clear hb2); (try clear hk); (try clear hi)))
                go_ret
                exact ⟨by first | rfl | (simp [errW_none, errW_some] <;> rfl) | (simp [*, errW_none, errW_some] <;> rfl), by repeat (first | (with_reducible first | exact HB.out | apply below_alloc | apply pw_below_drewN | apply below_drew1 | refine below_set ?_ GE798.out | refine below_set ?_ GE799.out | refine below_set ?_ GE820.out) | exact HB.out)⟩
            · replace c55 := Bool.eq_false_iff.mpr c55
              subst c55
              have H1 : (some false) = some r := by rw [if_neg (show ¬ (false = true) by decide)] at H; exact H
              clear H
              have H := H1
              clear H1
              obtain rfl := Option.some.inj H
              try go_wp2
              have n0_ := Aside0.mk (Kd.R_drew HO_11.out)
              have n1_ := Aside0.mk (Kd.S_drew HO_821000.out)
              have n2_ := Aside0.mk (blk_drew BK798.out)
              have n3_ := Aside0.mk (blk_drew BK799.out)
              have n4_ := Aside0.mk (blk_drew BK820.out)
              have n5_ := Aside0.mk (below_drew1 HB.out)
              clear HO_11
              clear HO_821000
              clear BK798
              clear BK799
              clear BK820
              clear HB
              have HO_11 := n0_
              have HO_821000 := n1_
              have BK798 := n2_
              have BK799 := n3_
              have BK820 := n4_
              have HB := n5_
              clear n0_ n1_ n2_ n3_ n4_ n5_
              refine start_ (n := 5) (S := fun w' => w'.cell? ⟨gb820, 0, none⟩ = some (.slice Ao42 t817.length co42) ∧ w'.cell? ⟨gb798, 0, none⟩ = some (.slice A0_0 l0_0.length c0_0)) (ds := []) #[false, false, false, false, false] (by kernel_rfl) rfl rfl ⟨(blk_cell BK820.out 0).trans rfl, (blk_cell BK798.out 0).trans rfl⟩ (fun hHeld => ?_)
              generalize wc.drew = w73 at HO_11 HO_821000 BK798 BK799 BK820 HB hHeld ⊢
              refine take_ (i := 0) (N := some 54) (v := ?_) (a' := ?_) #[true, false, false, false, false] rfl rfl (by kernel_rfl) (fun _ _ _ h => h) (Or.inl ⟨by rfl, ?_⟩) hHeld ?_ ?_
              rotate_left
              · rintro w' ⟨s0, s1⟩
                go_simp
                with_reducible rfl
              rotate_left
              · simp only [Act.put, List.setIfInBounds_toArray, List.set_cons_zero, List.set_cons_succ, i64_w, i32_w]
                rfl
              refine take_ (i := 1) (N := some 55) (v := ?_) (a' := ?_) #[true, true, false, false, false] rfl rfl (by kernel_rfl) (fun _ _ _ h => h) (Or.inl ⟨by rfl, ?_⟩) hHeld ?_ ?_
              rotate_left
              · rintro w' ⟨s0, s1⟩
                go_simp
                with_reducible rfl
              rotate_left
              · simp only [Act.put, List.setIfInBounds_toArray, List.set_cons_zero, List.set_cons_succ, i64_w, i32_w]
                rfl
              refine one_ (i := 2) (N := some 56) #[true, true, true, false, false] rfl rfl (by kernel_rfl) (by decide) (fun K hK => ?_)
              refine goes_ Try.func27 (by kernel_rfl) rfl #[.agg #[.slice A0_0 l0_0.length c0_0]] (by rfl) rfl rfl (by (try simp only [List.map_toArray, List.map_cons, List.map_nil]); first | done | rfl | (simp only [List.length_drop, List.length_take]; rfl)) ?_
              with_reducible refine (laws_toMemory.calls _ _ l0_0 t833 _ ?side1 ?side2 A53.out).mono ?_
              (case side1 => repeat (first | exact (Kd.C_below HR0_0.out HB.out) | (with_reducible refine Kd.C_alloc ?_ _) | (with_reducible refine Kd.C_drewN ?_ _) | (with_reducible refine Kd.C_drew ?_)))
              (case side2 => exact HC0_0.out)
              rintro e w74 ⟨v834, rfl, ho0, hb⟩
              refine ⟨_, rfl, ?_⟩
              have n0_ := Aside0.mk (Kd.R_below (by (with_reducible repeat (first | apply Kd.R_alloc | apply Kd.R_drewN | apply Kd.R_drew)); exact HO_11.out) hb)
              have n1_ := Aside0.mk (Kd.S_elder' (by (with_reducible repeat (first | apply Kd.S_alloc | apply Kd.S_drewN | apply Kd.S_drew)); exact HO_821000.out) (Kd.S_base ho0) hb)
              have n2_ := Aside0.mk (Kd.S_lower (Kd.S_new' ho0 (Kd.S_lt (by (with_reducible repeat (first | apply Kd.S_alloc | apply Kd.S_drewN | apply Kd.S_drew)); exact HO_821000.out))) (below_size (by repeat (first | (with_reducible first | exact HB.out | apply below_alloc | apply pw_below_drewN | apply below_drew1 | refine below_set ?_ GE798.out | refine below_set ?_ GE799.out | refine below_set ?_ GE820.out) | exact HB.out))))
              have n3_ := Aside0.mk (blk_below (g := gb798) (o := .cells #[.slice A0_0 l0_0.length c0_0] 49 (0, 0)) (by (with_reducible repeat (first | refine blk_drewN ?_ _ | refine blk_drew ?_ | refine blk_alloc ?_ _)); exact BK798.out) hb)
              have n4_ := Aside0.mk (blk_below (g := gb799) (o := .cells #[.int .i64 a2_0, .int .i64 a2_1, .int .i64 a2_2, .int .i64 a2_3, .bool a2_4, .int .i64 a2_5, .int .i64 a2_6] 53 (0, 0)) (by (with_reducible repeat (first | refine blk_drewN ?_ _ | refine blk_drew ?_ | refine blk_alloc ?_ _)); exact BK799.out) hb)
              have n5_ := Aside0.mk (blk_below (g := gb820) (o := .cells #[.slice Ao42 t817.length co42] 26 (0, 0)) (by (with_reducible repeat (first | refine blk_drewN ?_ _ | refine blk_drew ?_ | refine blk_alloc ?_ _)); exact BK820.out) hb)
              have n6_ := Aside0.mk (below_step (by repeat (first | (with_reducible first | exact HB.out | apply below_alloc | apply pw_below_drewN | apply below_drew1 | refine below_set ?_ GE798.out | refine below_set ?_ GE799.out | refine below_set ?_ GE820.out) | exact HB.out)) hb)
              clear HO_11
              clear HO_821000
              clear BK798
              clear BK799
              clear BK820
              clear HB
              have HO_11 := n0_
              have HO_821000 := n1_
              have HO835 := n2_
              have BK798 := n3_
              have BK799 := n4_
              have BK820 := n5_
              have HB := n6_
              clear n0_ n1_ n2_ n3_ n4_ n5_ n6_
              (try clear hb)
              (try clear hb2)
              (try clear hk)
              (try clear hi)
              (try clear ho0)
              obtain ⟨Ao75, co75, eo75⟩ := Kd.S_slice HO835.out
              (first | subst eo75 | (injection eo75 with f1_ f2_ f3_; have f4_ := f1_.symm; have f5_ := f3_.symm; clear f1_ f2_ f3_; subst f4_; subst f5_))
              refine hK.out _ _ ⟨(blk_cell BK820.out 0).trans rfl, (blk_cell BK798.out 0).trans rfl⟩ (fun hHeld => ?_)
              clear hK K
              refine norm_ (a' := ?_) ?_ ?_
              rotate_left
              · show Act.put _ (some 56) _ = _
                simp only [Act.put, List.setIfInBounds_toArray, List.set_cons_zero, List.set_cons_succ, i64_w, i32_w]
                rfl
              refine one_ (i := 3) (N := some 57) #[true, true, true, true, false] rfl rfl (by kernel_rfl) (by decide) (fun K hK => ?_)
              refine goes_ Try.func31 (by kernel_rfl) rfl #[.agg #[.slice Ao42 t817.length co42], .agg #[.slice Ao75 t833.length co75]] (by rfl) rfl rfl (by (try simp only [List.map_toArray, List.map_cons, List.map_nil]); first | done | rfl | (simp only [List.length_drop, List.length_take]; rfl)) ?_
              with_reducible refine (laws_eqMemory.calls kj25 _ _ t817 _ _ t833 false _ ?side1 ?side2 ?side3 ?side4 A54.out).mono ?_
              (case side1 => repeat (first | exact (Kd.S_reads' HO_821000.out).2.2 | (with_reducible refine Kd.C_alloc ?_ _) | (with_reducible refine Kd.C_drewN ?_ _) | (with_reducible refine Kd.C_drew ?_)))
              (case side2 => exact (Kd.S_reads' HO_821000.out).2.1)
              (case side3 => repeat (first | exact (Kd.S_reads' HO835.out).2.2 | (with_reducible refine Kd.C_alloc ?_ _) | (with_reducible refine Kd.C_drewN ?_ _) | (with_reducible refine Kd.C_drew ?_)))
              (case side4 => exact (Kd.S_reads' HO835.out).2.1)
              rintro e w76 ⟨rfl, hb⟩
              refine ⟨_, rfl, ?_⟩
              have n0_ := Aside0.mk (Kd.R_below (by (with_reducible repeat (first | apply Kd.R_alloc | apply Kd.R_drewN | apply Kd.R_drew)); exact HO_11.out) hb)
              have n1_ := Aside0.mk (Kd.S_below (by (with_reducible repeat (first | apply Kd.S_alloc | apply Kd.S_drewN | apply Kd.S_drew)); exact HO_821000.out) hb)
              have n2_ := Aside0.mk (Kd.S_below (by (with_reducible repeat (first | apply Kd.S_alloc | apply Kd.S_drewN | apply Kd.S_drew)); exact HO835.out) hb)
              have n3_ := Aside0.mk (blk_below (g := gb798) (o := .cells #[.slice A0_0 l0_0.length c0_0] 49 (0, 0)) (by (with_reducible repeat (first | refine blk_drewN ?_ _ | refine blk_drew ?_ | refine blk_alloc ?_ _)); exact BK798.out) hb)
              have n4_ := Aside0.mk (blk_below (g := gb799) (o := .cells #[.int .i64 a2_0, .int .i64 a2_1, .int .i64 a2_2, .int .i64 a2_3, .bool a2_4, .int .i64 a2_5, .int .i64 a2_6] 53 (0, 0)) (by (with_reducible repeat (first | refine blk_drewN ?_ _ | refine blk_drew ?_ | refine blk_alloc ?_ _)); exact BK799.out) hb)
              have n5_ := Aside0.mk (blk_below (g := gb820) (o := .cells #[.slice Ao42 t817.length co42] 26 (0, 0)) (by (with_reducible repeat (first | refine blk_drewN ?_ _ | refine blk_drew ?_ | refine blk_alloc ?_ _)); exact BK820.out) hb)
              have n6_ := Aside0.mk (below_step (by repeat (first | (with_reducible first | exact HB.out | apply below_alloc | apply pw_below_drewN | apply below_drew1 | refine below_set ?_ GE798.out | refine below_set ?_ GE799.out | refine below_set ?_ GE820.out) | exact HB.out)) hb)
              clear HO_11
              clear HO_821000
              clear HO835
              clear BK798
              clear BK799
              clear BK820
              clear HB
              have HO_11 := n0_
              have HO_821000 := n1_
              have HO835 := n2_
              have BK798 := n3_
              have BK799 := n4_
              have BK820 := n5_
              have HB := n6_
              clear n0_ n1_ n2_ n3_ n4_ n5_ n6_
              (try clear hb)
              (try clear hb2)
              (try clear hk)
              (try clear hi)
              refine hK.out _ _ ⟨(blk_cell BK820.out 0).trans rfl, (blk_cell BK798.out 0).trans rfl⟩ (fun hHeld => ?_)
              clear hK K
              refine norm_ (a' := ?_) ?_ ?_
              rotate_left
              · show Act.put _ (some 57) _ = _
                simp only [Act.put, List.setIfInBounds_toArray, List.set_cons_zero, List.set_cons_succ, i64_w, i32_w]
                rfl
              refine pure_ (i := 4) (N := some 58) (v := ?_) (a' := ?_) #[true, true, true, true, true] rfl rfl (by kernel_rfl) (fun _ _ _ h => h) (Or.inl ⟨by rfl, ?_⟩) ?_ ?_
              rotate_left
              · intro w'
                go_simp
                with_reducible rfl
              rotate_left
              · simp only [Act.put, List.setIfInBounds_toArray, List.set_cons_zero, List.set_cons_succ, i64_w, i32_w]
                rfl
              refine done_ (by kernel_rfl) ?_
              try go_wp2
              go_ret
              exact ⟨by first | rfl | (simp [errW_none, errW_some] <;> rfl) | (simp [*, errW_none, errW_some] <;> rfl), by repeat (first | (with_reducible first | exact HB.out | apply below_alloc | apply pw_below_drewN | apply below_drew1 | refine below_set ?_ GE798.out | refine below_set ?_ GE799.out | refine below_set ?_ GE820.out) | exact HB.out)⟩

end Go.Proofs.Ytpbboooeahmgpaa.P


/- RunClean and CanLend: what both sides come to. -/
namespace Go.Proofs.Ytpbboooeahmgpaa.P
open Go.RowKit Go.Proofs.YtpbboooeahmgpaaW.PrintWords Go.Proofs.YtpbboooeahmgpaaW.PrintMore
set_option linter.unusedVariables false
set_option linter.unusedSimpArgs false
theorem loansB_of {m : List (List Int)} {l : List SimplLoan} (h : loansB m l = true) : memB m = true ∧ (∀ x ∈ l, rangeL x) ∧ l.length ≤ 8 := by
  unfold loansB at h
  simp only [Bool.and_eq_true, decide_eq_true_eq, List.all_eq_true] at h
  exact ⟨h.1.1, fun x hx => rangeL_of h.1.1 (h.1.2 x hx), h.2⟩
/-! CanLend -/
def canLend (m : List (List Int)) (l : List SimplLoan) (x : SimplLoan) : Bool × Bool := if (loansB m l && loanB m x && decide (l.length ≠ 8) && cleanB l) = true then (aloneB l x, true) else (false, false)
theorem specCan_f (m : List (List Int)) (l : List SimplLoan) (x : SimplLoan) (hm : okM m) (hl : l.length ≤ 1048576) (hw : ∀ x ∈ l, wfL x) (hx : wfL x) : Ev (fun k => spec_CanLend.f k m l x.f0.f0 x.f0.f1 x.f0.f2 x.f0.f3 x.f1 x.f2 x.f3) (canLend m l x) := by
  refine Ev.bind (l10Loans_f m l hm (by omega) hw) ?_
  unfold canLend
  cases h : loansB m l
  · exact Ev.now _
  · simp only [if_true, Bool.true_and]
    obtain ⟨hmb, h1, h2⟩ := loansB_of h
    refine Ev.bind (l10Loan_f m x hm hx) ?_
    rw [hmb, Bool.true_and]
    cases h3 : loanB m x
    · exact Ev.now _
    · simp only [if_true, Bool.true_and]
      have hxr := rangeL_of hmb h3
      by_cases h4 : l.length = 8
      · simp only [if_pos (show (l.length : Int) = 8 by omega)]
        rw [decide_eq_false (by omega)]
        exact Ev.now _
      · simp only [if_neg (show ¬ (l.length : Int) = 8 by omega)]
        rw [decide_eq_true (by omega), Bool.true_and]
        refine Ev.bind (pairs_f l h1 (by omega)) ?_
        have hc : ((prs 0 l).length : Int) > 0 ↔ cleanB l = false := by
          unfold cleanB
          cases prs 0 l <;> simp
        cases h5 : cleanB l
        · simp only [if_pos (hc.2 h5)]
          exact Ev.now _
        · simp only [if_neg (show ¬ ((prs 0 l).length : Int) > 0 from fun h6 => by rw [hc.1 h6] at h5; cases h5), if_true]
          exact Ev.bind (alone_f l x hxr (by omega) h1) (Ev.now _)
theorem implCan_f (m : List (List Int)) (l : List SimplLoan) (x : SimplLoan) : Ev (fun k => impl_CanLend.f k m l x.f0.f0 x.f0.f1 x.f0.f2 x.f0.f3 x.f1 x.f2 x.f3) (canLend m l x) := by
  unfold canLend impl_CanLend.f
  rw [areLoans_f]
  simp only [Option.bind_some]
  have hout : ∀ (b0 b1 b2 b3 : Int) (o : Bool) (b4 b5 : Int), Ev (fun k => impl_CanLend.j0 k l true b0 b1 b2 b3 o b4 b5) (false, false) := by
    intro b0 b1 b2 b3 o b4 b5
    refine Ev.step (fun k => ?_) (Ev.now _)
    simp only [impl_CanLend.j0]
    rw [if_pos trivial]
  cases h : loansB m l
  · simpa using hout _ _ _ _ _ _ _
  · simp only [if_true, Bool.true_and]
    obtain ⟨hmb, h1, h2⟩ := loansB_of h
    have h0 : impl_areAnyLoans.f m [(⟨⟨x.f0.f0, x.f0.f1, x.f0.f2, x.f0.f3⟩, x.f1, x.f2, x.f3⟩ : SimplLoan)] = some (loanB m x) := by
      unfold impl_areAnyLoans.f
      rw [hmb]
      simp
    simp only [h0, Option.bind_some]
    cases h3 : loanB m x
    · simpa using hout _ _ _ _ _ _ _
    · simp only [if_true, Bool.true_and]
      have hxr := rangeL_of hmb h3
      by_cases h4 : l.length = 8
      · simp only [if_pos (show (l.length : Int) = 8 by omega)]
        rw [decide_eq_false (by omega)]
        simpa using hout _ _ _ _ _ _ _
      · simp only [if_neg (show ¬ (l.length : Int) = 8 by omega)]
        rw [decide_eq_true (by omega), Bool.true_and]
        refine Ev.bind (areClean_f l h1 (by omega)) ?_
        cases h5 : cleanB l
        · simpa using hout _ _ _ _ _ _ _
        · simp only [Bool.not_true, if_true]
          refine Ev.step (f := fun k => (impl_areClean.f k (l ++ [x])).bind fun t => some (t, true)) (fun k => ?_) ?_
          · simp only [impl_CanLend.j0]
            have hcl : slices_Clone_impl_Loan_impl_Loan.f l = some l := by
              unfold slices_Clone_impl_Loan_impl_Loan.f
              rw [if_pos (by omega)]
            rw [if_neg (by decide), hcl]
            simp only [Option.bind_some]
            rw [if_pos (by simp; omega)]
          · have hcc := areClean_f (l ++ [x]) (by intro y hy; rcases List.mem_append.1 hy with hy | hy; exact h1 y hy; rw [List.mem_singleton.1 hy]; exact hxr) (by simp; omega)
            rw [cleanB_snoc, h5, Bool.true_and] at hcc
            exact Ev.bind hcc (Ev.now _)
theorem canLend_j (l1 : List SlawsLoan) (m : List (List Int)) (hm : okM m) (hl : l1.length ≤ 1048576) : Ev (fun k => laws_FnExactCanLend.j0 k l1 (l1.map loanOf) false m m) true := by
  refine Ev.step (f := fun k => (laws_toMemory.f m).bind fun t => (laws_eqMemory.f k m t).bind fun t2 => if t2 = true then (laws_toLoanS.f k l1).bind fun t3 => (laws_eqLoanS.f k (l1.map loanOf) t3).bind fun t4 => if t4 = true then some true else some false else some false) (fun k => ?_) ?_
  · simp only [laws_FnExactCanLend.j0]
    rw [if_neg (by decide)]
  · simp only [toMemory_f m hm, Option.bind_some]
    refine Ev.bind (eqMemory_f m hm.len hm.rows) ?_
    simp only [if_true]
    refine Ev.bind (toLoanS_f l1 hl) ?_
    refine Ev.bind (eqLoanS_f _ (by simp; omega)) ?_
    exact Ev.now _
theorem FnExactCanLend_ev (m : List (List Int)) (ls : List SlawsLoan) (a0 a1 a2 a3 : Int) (o : Bool) (a4 a5 : Int) (hl : m.length ≤ 9223372036854775807) (h3 : ∀ x ∈ m, x.length ≤ 9223372036854775807) (hw : ls.length ≤ 9223372036854775807) (hwf : ∀ x ∈ ls, wfL (loanOf x)) (hx : -9223372036854775808 ≤ a1 ∧ a1 ≤ 9223372036854775807) :
    Ev (fun k => laws_FnExactCanLend.f k m ls a0 a1 a2 a3 o a4 a5) true := by
  obtain ⟨r, hr, hh⟩ := szMemory_f m 1048576 (by omega) (by omega) hl h3
  refine Ev.bind hr ?_
  rcases hh with ⟨hm, h5, h6⟩ | rfl
  · simp only [if_neg (show ¬ r < 0 by omega), szLoanS_f ls r h5 h6 hw, Option.bind_some]
    by_cases h7 : (ls.length : Int) ≤ r
    · simp only [if_pos h7, if_neg (show ¬ r - (ls.length : Int) < 0 by omega), toMemory_f m hm, toLoan_f, Option.bind_some]
      have hn : ls.length ≤ 1048576 := by omega
      refine Ev.bind (toLoanS_f ls hn) ?_
      refine Ev.bind (specCan_f m (ls.map loanOf) ⟨⟨a0, a1, a2, a3⟩, o, a4, a5⟩ hm (by simp; omega) (by intro x hx; obtain ⟨y, hy, rfl⟩ := List.mem_map.1 hx; exact hwf y hy) hx) ?_
      refine Ev.bind (toLoanS_f ls hn) ?_
      refine Ev.bind (implCan_f m (ls.map loanOf) ⟨⟨a0, a1, a2, a3⟩, o, a4, a5⟩) ?_
      simp only [bne_self_eq_false, Bool.false_eq_true, if_false]
      exact canLend_j ls m hm hn
    · simp only [if_neg h7, if_pos (show (-1 : Int) < 0 by omega)]
      exact Ev.now _
  · simp only [if_pos (show (-1 : Int) < 0 by omega)]
    exact Ev.now _
end Go.Proofs.Ytpbboooeahmgpaa.P


/- From a row's reading of an argument to what the print's kinds say of it. -/
namespace Go.Proofs.YtpbboooeahmgpaaW.Mine
open Go.RowKit Go.Proofs.YtpbboooeahmgpaaW.PrintWords
set_option linter.unusedVariables false
/-- Whatever reads as data of type T is of the kind d, and ok. -/
def ReadsK {α : Type} (P : Program) (T : TypeId) (d : Kd α) (ok : α → Prop) : Prop :=
  ∀ {H : Type} {enc : TypeId × Value → H} {w : World} {base : Nat} {spare : Nat → Bool} {held : Bool} {fuel : Nat} {cs : List Value} {x : DataW H × List MemPlace}, DataW.trod enc P w base spare held fuel T cs = some x → ∃ a : α, d.K w a cs ∧ ok a
theorem ReadsK.int {P : Program} {T : TypeId} {k : IntKind} (hT : P.underlying T = some (.int k)) : ReadsK P T (Kd.int k) (fun n => (Lit.int k n).wf = true) := by
  intro H enc w base spare held fuel cs x h
  obtain ⟨n, rfl, _, hw⟩ := DataW.trod_int hT h
  exact ⟨n, rfl, hw⟩
theorem ReadsK.bool {P : Program} {T : TypeId} (hT : P.underlying T = some .bool) : ReadsK P T Kd.bool (fun _ => True) := by
  intro H enc w base spare held fuel cs x h
  obtain ⟨b, rfl, _⟩ := DataW.trod_bool hT h
  exact ⟨b, rfl, trivial⟩
theorem exists_list {α : Type} {n : Nat} {p : Nat → α → Prop} (h : ∀ i, i < n → ∃ a, p i a) : ∃ l : List α, l.length = n ∧ ∀ i a, l[i]? = some a → p i a := by
  induction n with
  | zero => exact ⟨[], rfl, fun i a hi => by simp at hi⟩
  | succ n ih =>
    obtain ⟨l, hl, hp⟩ := ih (fun i hi => h i (by omega))
    obtain ⟨a, ha⟩ := h n (by omega)
    refine ⟨l ++ [a], by simp [hl], fun i b hb => ?_⟩
    rcases Nat.lt_or_ge i n with hi | hi
    · rw [List.getElem?_append_left (by omega)] at hb
      exact hp i b hb
    · have hi2 : i = n := by
        have := (List.getElem?_eq_some_iff.1 hb).1
        simp [hl] at this
        omega
      subst hi2
      rw [← hl, List.getElem?_append_right (Nat.le_refl _)] at hb
      simp at hb
      rw [← hb]
      exact ha
theorem ReadsK.slice {α : Type} {P : Program} {T e : TypeId} {d : Kd α} {ok : α → Prop} (hT : P.underlying T = some (.slice e)) (hc : P.cellsOf e = d.sz) (h1 : ReadsK P e d ok) : ReadsK P T (Kd.slice e d) (fun xs => ∀ x ∈ xs, ok x) := by
  intro H enc w base spare held fuel cs x h
  rcases Deep.open_slice hT h with ⟨rfl, _⟩ | ⟨a, len, cap, m, n, D, Pl, rfl, hb, hl, hm, hmm, _, hx⟩
  · exact ⟨[], ⟨none, 0, rfl, Nat.le_refl _, rfl, by simp, fun h => absurd h (by simp)⟩, fun x hx => by simp at hx⟩
  · have hlm : len ≤ m := by rw [hmm]; split <;> omega
    obtain ⟨l, hll, hp⟩ := exists_list (n := len) (p := fun i y => ∃ cs', w.cells? base (a.add (i * P.cellsOf e)) (P.cellsOf e) = some cs' ∧ d.K w y cs' ∧ ok y) (fun i hi => by
      obtain ⟨cs', h2, h3⟩ := hx i (by omega)
      obtain ⟨y, hy, hok⟩ := h1 h3
      exact ⟨y, cs', h2, hy, hok⟩)
    refine ⟨l, ⟨some a, cap, by rw [hll], by omega, rfl, ?_, fun hn => ⟨a, rfl, fun j p hj => ?_⟩⟩, fun y hy => ?_⟩
    · rw [hll]; unfold maxLen at hm; omega
    · obtain ⟨cs', h2, h3, _⟩ := hp j p hj
      obtain ⟨_, hlen, hcell⟩ := World.cells?_some h2
      refine ⟨cs', by rw [hlen, hc], h3, fun i u hu => ?_⟩
      have hi : i < P.cellsOf e := by
        have := (List.getElem?_eq_some_iff.1 hu).1
        omega
      have h4 := hcell i hi
      rw [hu] at h4
      rw [← h4, ← hc]
      congr 1
      unfold Addr.add
      by_cases z1 : j * P.cellsOf e = 0 <;> by_cases z2 : i = 0 <;> simp [z1, z2, Nat.add_assoc]
    · obtain ⟨j, hj, rfl⟩ := List.mem_iff_getElem.1 hy
      obtain ⟨_, _, _, hok⟩ := hp j _ (List.getElem?_eq_getElem hj)
      exact hok
/-- The fields from offset o on. -/
def ReadsF {α : Type} (P : Program) (o : Nat) (fs : List Field) (d : Kd α) (ok : α → Prop) : Prop :=
  ∀ {H : Type} {enc : TypeId × Value → H} {w : World} {base : Nat} {spare : Nat → Bool} {held : Bool} {n : Nat} {cs : List Value}, (∀ f ∈ fs, ∃ x, DataW.trod enc P w base spare held n f.type ((cs.drop f.offset).take (P.cellsOf f.type)) = some x) → ∃ a : α, d.K w a ((cs.drop o).take d.sz) ∧ ok a
theorem ReadsF.last {α : Type} {P : Program} {o : Nat} {f : Field} {d : Kd α} {ok : α → Prop} (ho : f.offset = o) (h : ReadsK P f.type d ok) (hc : P.cellsOf f.type = d.sz) : ReadsF P o [f] d ok := by
  intro H enc w base spare held n cs hh
  obtain ⟨x, hx⟩ := hh f (by simp)
  rw [ho, hc] at hx
  exact h hx
theorem ReadsF.cons {α β : Type} {P : Program} {o : Nat} {f : Field} {fs : List Field} {d : Kd α} {d2 : Kd β} {ok : α → Prop} {ok2 : β → Prop} (ho : f.offset = o) (h : ReadsK P f.type d ok) (hc : P.cellsOf f.type = d.sz) (h2 : ReadsF P (o + d.sz) fs d2 ok2) : ReadsF P o (f :: fs) (Kd.pair d d2) (fun p => ok p.1 ∧ ok2 p.2) := by
  intro H enc w base spare held n cs hh
  obtain ⟨x, hx⟩ := hh f (by simp)
  rw [ho, hc] at hx
  obtain ⟨a, ha, hok⟩ := h hx
  obtain ⟨b, hb, hok2⟩ := h2 (fun g hg => hh g (by simp [hg]))
  refine ⟨(a, b), ⟨_, _, ?_, ha, hb⟩, hok, hok2⟩
  show (cs.drop o).take (d.sz + d2.sz) = _
  rw [List.take_add, List.drop_drop]
theorem ReadsK.struct {α : Type} {P : Program} {T : TypeId} {fs : Array Field} {d : Kd α} {ok : α → Prop} (hT : P.underlying T = some (.struct fs)) (hc : P.cellsOf T = d.sz) (h : ReadsF P 0 fs.toList d ok) : ReadsK P T d ok := by
  intro H enc w base spare held fuel cs x hx
  obtain ⟨xs, n, _, _, hl, hlen, hf⟩ := DataW.trod_struct hT hx
  obtain ⟨a, ha, hok⟩ := h (n := n) (cs := cs) (enc := enc) (w := w) (base := base) (spare := spare) (held := held) (fun f hf2 => by
    obtain ⟨i, hi, rfl⟩ := List.mem_iff_getElem.1 hf2
    have h1 := hf i fs[i] (by simp at hi; exact Array.getElem?_eq_getElem hi)
    have hi2 : i < xs.length := by simp at hi; omega
    rw [List.getElem?_eq_getElem hi2] at h1
    exact ⟨_, by simpa using h1⟩)
  refine ⟨a, ?_, hok⟩
  rwa [List.drop_zero, ← hc, ← hl, List.take_length] at ha
theorem ReadsK.iso {α β : Type} {P : Program} {T : TypeId} {d : Kd α} {ok : α → Prop} (h : ReadsK P T d ok) (f : β → α) (g : α → β) (hfg : ∀ a, f (g a) = a) : ReadsK P T (Kd.iso d f) (fun b => ok (f b)) := by
  intro H enc w base spare held fuel cs x hx
  obtain ⟨a, ha, hok⟩ := h hx
  refine ⟨g a, ?_, by show ok (f (g a)); rw [hfg]; exact hok⟩
  show d.K w (f (g a)) cs
  rw [hfg]
  exact ha
theorem agg_of {cs : Array Value} {L : List Value} (h : cs.toList = L) : cs = L.toArray := by rw [← h]
end Go.Proofs.YtpbboooeahmgpaaW.Mine


/- The law FnExactCanLend. -/
namespace Go.Proofs.Ytpbboooeahmgpaa.P
open Go.RowKit Go.Proofs.YtpbboooeahmgpaaW.PrintWords Go.Proofs.YtpbboooeahmgpaaW.Mine
set_option linter.unusedVariables false
theorem FnExactCanLend_walk (w : World) (cs0 : Array Value) (a0 : (List (List Int))) (hK0 : (Kd.slice 22 (Kd.slice 5 (Kd.int .u8))).K w a0 cs0.toList) (ok0 : (∀ y1 ∈ a0, (∀ y2 ∈ y1, (Lit.int .u8 y2).wf = true))) (A1 : Option Addr) (len1 cap1 : Nat) (a1 : (List SlawsLoan)) (hK1 : (Kd.slice 53 klawsLoan).K w a1 [.slice A1 len1 cap1]) (ok1 : (∀ y1 ∈ a1, (((Lit.int .i64 y1.f0.f0).wf = true ∧ (Lit.int .i64 y1.f0.f1).wf = true ∧ (Lit.int .i64 y1.f0.f2).wf = true ∧ (Lit.int .i64 y1.f0.f3).wf = true) ∧ True ∧ (Lit.int .i64 y1.f2).wf = true ∧ (Lit.int .i64 y1.f3).wf = true))) (cs2 : Array Value) (a2 : ((Int × (Int × (Int × Int))) × (Bool × (Int × Int)))) (hK2 : (Kd.pair (Kd.pair (Kd.int .i64) (Kd.pair (Kd.int .i64) (Kd.pair (Kd.int .i64) (Kd.int .i64)))) (Kd.pair Kd.bool (Kd.pair (Kd.int .i64) (Kd.int .i64)))).K w a2 cs2.toList) (ok2 : (((Lit.int .i64 a2.1.1).wf = true ∧ ((Lit.int .i64 a2.1.2.1).wf = true ∧ ((Lit.int .i64 a2.1.2.2.1).wf = true ∧ (Lit.int .i64 a2.1.2.2.2).wf = true))) ∧ (True ∧ ((Lit.int .i64 a2.2.2.1).wf = true ∧ (Lit.int .i64 a2.2.2.2).wf = true)))) :
    Calls Try.prog 7 #[.agg cs0, .slice A1 len1 cap1, .agg cs2] w fun e w' => e = .returned (.bool true) ∧ Below w.heap.size w w' := by
  obtain ⟨A0, c0, hcs0, hc0, hr0⟩ := hK0
  obtain rfl := agg_of hcs0
  obtain ⟨_, _, he1, hc1, hr1⟩ := hK1
  cases he1
  obtain ⟨⟨x20, x21, x22, x23⟩, x24, x25, x26⟩ := a2
  obtain ⟨_, _, hcs2, ⟨_, _, rfl, rfl, ⟨_, _, rfl, rfl, ⟨_, _, rfl, rfl, rfl⟩⟩⟩, ⟨_, _, rfl, rfl, ⟨_, _, rfl, rfl, rfl⟩⟩⟩ := hK2
  obtain rfl := agg_of hcs2
  have hwf : ∀ x ∈ a1, wfL (loanOf x) := fun x hx => wf_i64 (ok1 x hx).1.2.1
  obtain ⟨k, hk⟩ := (FnExactCanLend_ev a0 a1 x20 x21 x22 x23 x24 x25 x26 hr0.2.1 (C_inner_len hr0) hr1.2.1 hwf (wf_i64 ok2.1.2.1)).rounds
  exact laws_FnExactCanLend.calls (hr0_0 := hr0) (hc0_0 := hc0) (hr1 := hr1) (hc1 := hc1) (h := hk)
end Go.Proofs.Ytpbboooeahmgpaa.P


namespace Go.Proofs.Ytpbboooeahmgpaa.fnExactCanLend
open Go.ChangeShapes Go.WideShapes Go.ChangeAt Go.RowKit Go.Proofs.YtpbboooeahmgpaaW.PrintWords Go.Proofs.YtpbboooeahmgpaaW.Mine Go.Proofs.Ytpbboooeahmgpaa.P
open Go.ChangeMaps (open_string shut_string)
set_option linter.unusedVariables false
theorem own : ownKnob Try.prog.godebug = none := by kernel_rfl
theorem laidOut : laidOutB Try.prog = true := by kernel_rfl
set_option maxRecDepth 100000 in
theorem lifted (os : Os) (started : os.Started) (H : Type) (enc : TypeId × Value → H) :
    ReturnsInHanded {} Try.checked os 7 .any (Rows.fnExactCanLendSpec.pre6 enc Try.prog Try.f7 Rows.fnExactCanLendRow.domain false) (Rows.fnExactCanLendSpec.post enc Try.prog Try.f7 false true false false) := by
  refine returnsInHanded_of_change_sized (C := Try.checked) own started (by kernel_rfl) Try.func7
    (ChangeSpec.witness6 (enc := enc) (C := Try.checked) false ⟨#[], #[.agg #[.slice none 0 0], .slice none 0 0, .agg #[.int .i64 0, .int .i64 0, .int .i64 0, .int .i64 0, .bool false, .int .i64 0, .int .i64 0]], []⟩ 8 (by kernel_rfl) (by kernel_rfl) (by kernel_rfl) (by kernel_rfl)) ?_
  intro W base args ds gs before hval0 hW hcnd hsz0 _
  have hval : ∀ (j : Nat) t v, Try.f7.params[j]? = some t → args[j]? = some v → Value.okWide Try.prog W .any base t v := hval0
  have hW' := hW
  obtain ⟨p, q, hA0, hV, rfl, hfz, hnd⟩ := hW
  have hA : DataW.TrodAll enc Try.prog W 0 (fun _ => true) true Try.f7.params.toList args.toList ds p := hA0
  rw [Try.params7] at hA hval
  obtain ⟨v0, vs0, d0, ds0, p0, q0, hargs, rfl, rfl, h0, r0⟩ := trodAll_cons hA
  obtain ⟨v1, vs1, d1, ds1, p1, q1, rfl, rfl, rfl, h1, r1⟩ := trodAll_cons r0
  obtain ⟨v2, vs2, d2, ds2, p2, q2, rfl, rfl, rfl, h2, r2⟩ := trodAll_cons r1
  obtain ⟨rfl, rfl, rfl⟩ := trodAll_nil r2
  obtain rfl : args = #[v0, v1, v2] := by cases args; simp_all
  obtain ⟨rfl, rfl⟩ := trodVars_none hV
  have k0 := h0
  have lt0 : ∀ x ∈ p0, x.block < W.heap.size := by obtain ⟨m, hm⟩ := k0; exact DataW.trod_lt m _ _ _ hm
  obtain ⟨cs0, rfl, _⟩ := okWide_struct Try.underlying49 (hval 0 49 v0 rfl rfl)
  obtain ⟨a0, hK0, ok0⟩ : ∃ a : (List (List Int)), (Kd.slice 22 (Kd.slice 5 (Kd.int .u8))).K W a cs0.toList ∧ (∀ y1 ∈ a, (∀ y2 ∈ y1, (Lit.int .u8 y2).wf = true)) := by obtain ⟨fuel, hf⟩ := h0; exact (ReadsK.struct Try.underlying49 (by kernel_rfl) (ReadsF.last rfl (ReadsK.slice Try.underlying24 (by kernel_rfl) (ReadsK.slice Try.underlying22 (by kernel_rfl) (ReadsK.int Try.underlying5))) (by kernel_rfl))) hf
  have k1 := h1
  have lt1 : ∀ x ∈ p1, x.block < W.heap.size := by obtain ⟨m, hm⟩ := k1; exact DataW.trod_lt m _ _ _ hm
  obtain ⟨A1, len1, cap1, rfl⟩ := okWide_slice Try.underlying50 (hval 1 50 v1 rfl rfl)
  obtain ⟨a1, hK1, ok1⟩ : ∃ a : (List SlawsLoan), (Kd.slice 53 klawsLoan).K W a [.slice A1 len1 cap1] ∧ (∀ y1 ∈ a, (((Lit.int .i64 y1.f0.f0).wf = true ∧ (Lit.int .i64 y1.f0.f1).wf = true ∧ (Lit.int .i64 y1.f0.f2).wf = true ∧ (Lit.int .i64 y1.f0.f3).wf = true) ∧ True ∧ (Lit.int .i64 y1.f2).wf = true ∧ (Lit.int .i64 y1.f3).wf = true)) := by obtain ⟨fuel, hf⟩ := h1; exact (ReadsK.slice Try.underlying50 (by kernel_rfl) (ReadsK.iso (ReadsK.struct Try.underlying53 (by kernel_rfl) (ReadsF.cons rfl (ReadsK.iso (ReadsK.struct Try.underlying51 (by kernel_rfl) (ReadsF.cons rfl (ReadsK.int Try.underlying3) (by kernel_rfl) (ReadsF.cons rfl (ReadsK.int Try.underlying3) (by kernel_rfl) (ReadsF.cons rfl (ReadsK.int Try.underlying3) (by kernel_rfl) (ReadsF.last rfl (ReadsK.int Try.underlying3) (by kernel_rfl)))))) (fun x : SlawsWindow => (x.f0, x.f1, x.f2, x.f3)) (fun a => (⟨a.1, a.2.1, a.2.2.1, a.2.2.2⟩ : SlawsWindow)) (fun _ => rfl)) (by kernel_rfl) (ReadsF.cons rfl (ReadsK.bool Try.underlying4) (by kernel_rfl) (ReadsF.cons rfl (ReadsK.int Try.underlying3) (by kernel_rfl) (ReadsF.last rfl (ReadsK.int Try.underlying3) (by kernel_rfl)))))) (fun x : SlawsLoan => (x.f0, x.f1, x.f2, x.f3)) (fun a => (⟨a.1, a.2.1, a.2.2.1, a.2.2.2⟩ : SlawsLoan)) (fun _ => rfl))) hf
  have k2 := h2
  have lt2 : ∀ x ∈ p2, x.block < W.heap.size := by obtain ⟨m, hm⟩ := k2; exact DataW.trod_lt m _ _ _ hm
  obtain ⟨cs2, rfl, _⟩ := okWide_struct Try.underlying53 (hval 2 53 v2 rfl rfl)
  obtain ⟨a2, hK2, ok2⟩ : ∃ a : ((Int × (Int × (Int × Int))) × (Bool × (Int × Int))), (Kd.pair (Kd.pair (Kd.int .i64) (Kd.pair (Kd.int .i64) (Kd.pair (Kd.int .i64) (Kd.int .i64)))) (Kd.pair Kd.bool (Kd.pair (Kd.int .i64) (Kd.int .i64)))).K W a cs2.toList ∧ (((Lit.int .i64 a.1.1).wf = true ∧ ((Lit.int .i64 a.1.2.1).wf = true ∧ ((Lit.int .i64 a.1.2.2.1).wf = true ∧ (Lit.int .i64 a.1.2.2.2).wf = true))) ∧ (True ∧ ((Lit.int .i64 a.2.2.1).wf = true ∧ (Lit.int .i64 a.2.2.2).wf = true))) := by obtain ⟨fuel, hf⟩ := h2; exact (ReadsK.struct Try.underlying53 (by kernel_rfl) (ReadsF.cons rfl (ReadsK.struct Try.underlying51 (by kernel_rfl) (ReadsF.cons rfl (ReadsK.int Try.underlying3) (by kernel_rfl) (ReadsF.cons rfl (ReadsK.int Try.underlying3) (by kernel_rfl) (ReadsF.cons rfl (ReadsK.int Try.underlying3) (by kernel_rfl) (ReadsF.last rfl (ReadsK.int Try.underlying3) (by kernel_rfl)))))) (by kernel_rfl) (ReadsF.cons rfl (ReadsK.bool Try.underlying4) (by kernel_rfl) (ReadsF.cons rfl (ReadsK.int Try.underlying3) (by kernel_rfl) (ReadsF.last rfl (ReadsK.int Try.underlying3) (by kernel_rfl)))))) hf
  clear hA0 hval0 hsz0
  refine (FnExactCanLend_walk W cs0 a0 hK0 ok0 A1 len1 cap1 a1 hK1 ok1 cs2 a2 hK2 ok2).mono fun e W' ⟨he, bel⟩ => ?_
  subst he
  exact ⟨_, rfl, _, _, _, [], _, [], hW', trodAll_mk1 (shut_bool Try.underlying4 _), (trodAll_cons_mk (Below.trod laidOut (by kernel_rfl) (of_decide_eq_true (by kernel_rfl)) k0 bel lt0) (trodAll_cons_mk (Below.trod laidOut (by kernel_rfl) (of_decide_eq_true (by kernel_rfl)) k1 bel lt1) (trodAll_cons_mk (Below.trod laidOut (by kernel_rfl) (of_decide_eq_true (by kernel_rfl)) k2 bel lt2) trodAll_mk0))), rfl, bel.frame _, fun h => by cases h⟩
theorem over : Rows.fnExactCanLendRow.holds Try.pinned (OpenSpec.ofChange Rows.fnExactCanLendSpec) :=
  OpenClaim.holds_of_wide 7 Try.f7 rfl rfl rfl rfl rfl rfl rfl ⟨rfl, rfl, rfl, rfl, rfl⟩ rfl rfl rfl rfl rfl (by kernel_rfl) Try.func7 (by kernel_rfl)
    (of_decide_eq_true (by kernel_rfl)) (by unfold Func.isWrapper; first | (rw [if_pos (by decide +kernel)]; kernel_rfl) | (rw [if_neg (by decide +kernel)]; exact ⟨rfl, rfl⟩))
    (fun os started H enc _ => lifted os started H enc)
theorem proved : Rows.FnExactCanLendSaid := over
end Go.Proofs.Ytpbboooeahmgpaa.fnExactCanLend
namespace Go.Proofs.Ytpbboooeahmgpaa
theorem fnExactCanLend_holds : Rows.FnExactCanLendSaid := fnExactCanLend.proved
#print axioms fnExactCanLend_holds
end Go.Proofs.Ytpbboooeahmgpaa


