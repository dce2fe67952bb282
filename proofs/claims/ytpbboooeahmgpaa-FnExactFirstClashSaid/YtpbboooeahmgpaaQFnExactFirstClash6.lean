/- For all arguments, impl.FirstClash answers what spec.FirstClash answers, leaves its arguments alone, and shares nothing of what it returns.
   The row of the law FnExactFirstClash, out of its walk. Conditions: none. -/
import Derived.Test.YtpbboooeahmgpaaQFnExactFirstClash5
import Derived.Test.YtpbboooeahmgpaaRows
import Derived.WalkKit
import Derived.ProofKit
import Derived.OpenShut
import Derived.ShutString
import Derived.ChangeOld
import Derived.Below
import Derived.SizedLaws
/- eqIntA2, as far as the laws need it: equal pairs are equal. -/
namespace Go.Proofs.Ytpbboooeahmgpaa.P
open Go.RowKit Go.Proofs.YtpbboooeahmgpaaW.PrintWords Go.Proofs.YtpbboooeahmgpaaW.PrintLast Go.Proofs.YtpbboooeahmgpaaW.PrintMore
set_option linter.unusedVariables false
set_option linter.unusedSimpArgs false
set_option maxHeartbeats 1600000 in
set_option maxRecDepth 100000 in
theorem eqIntA2_c (a b : Int) (w : World) : Calls Try.prog 46 #[.agg #[.int .i64 a, .int .i64 b], .agg #[.int .i64 a, .int .i64 b]] w fun e w' => e = .returned (.bool true) ∧ Below w.heap.size w w' := by
  go_enter Try.func46, Try.ntmps46
  go_wp2
  go_loopw [5] (fun v5 wr => ∃ i : Nat, i ≤ 2 ∧ v5 = .int .i64 (i : Int) ∧ Aside0 (Below (w.heap.size + 2) ((w.alloc (.cells #[.int .i64 a, .int .i64 b] 75 (0, 0))).alloc (.cells #[.int .i64 a, .int .i64 b] 75 (0, 0))) wr)) (fun v5 _ => 2 - (intOf v5).toNat)
  case atStart => exact ⟨0, Nat.zero_le _, rfl, ⟨Below.refl _ _⟩⟩
  case round =>
    obtain ⟨i, hi, rfl, HB⟩ := hrel
    have c0 : wr.cell? ⟨w.heap.size, 0, none⟩ = some (.int .i64 a) := (HB.out.cell (p := ⟨w.heap.size, 0, none⟩) (by simp)).trans (by simp)
    have c1 : wr.cell? ⟨w.heap.size, 1, none⟩ = some (.int .i64 b) := (HB.out.cell (p := ⟨w.heap.size, 1, none⟩) (by simp)).trans (by simp)
    have c2 : wr.cell? ⟨w.heap.size + 1, 0, none⟩ = some (.int .i64 a) := (HB.out.cell (p := ⟨w.heap.size + 1, 0, none⟩) (by simp)).trans (by simp)
    have c3 : wr.cell? ⟨w.heap.size + 1, 1, none⟩ = some (.int .i64 b) := (HB.out.cell (p := ⟨w.heap.size + 1, 1, none⟩) (by simp)).trans (by simp)
    have hcase : i = 0 ∨ i = 1 ∨ i = 2 := by omega
    rcases hcase with rfl | rfl | rfl
    · go_wp2
      go_quiet (fail)
      go_wp2
      go_roundw
      case rel => exact ⟨1, by omega, by go_num, ⟨by first | exact HB.out | exact pw_below_drewN HB.out _ | exact HB.out.trans ((pw_below_drewN (Below.refl _ _) _).mono (by have := HB.out.size; simp at this; omega))⟩⟩
      case measure => simp [intOf]
    · go_wp2
      go_quiet (fail)
      go_wp2
      go_roundw
      case rel => exact ⟨2, by omega, by go_num, ⟨by first | exact HB.out | exact HB.out.trans ((pw_below_drewN (Below.refl _ _) _).mono (by have := HB.out.size; simp at this; omega))⟩⟩
      case measure => simp [intOf]
    · go_wp2
      go_ret
      exact ⟨rfl, (((Below.refl _ _).alloc (Nat.le_refl _) _).alloc (by simp) _).trans (HB.out.mono (by omega))⟩
def laws_eqIntA2.f (a0_0 a0_1 a1_0 a1_1 : Int) : Option Bool := if a0_0 = a1_0 ∧ a0_1 = a1_1 then some true else none
theorem laws_eqIntA2.calls (a0_0 : Int) (a0_1 : Int) (a1_0 : Int) (a1_1 : Int) (r : Bool) (w : World) (h : laws_eqIntA2.f a0_0 a0_1 a1_0 a1_1 = some r) :
    Calls Try.prog 46 #[.agg #[.int .i64 a0_0, .int .i64 a0_1], .agg #[.int .i64 a1_0, .int .i64 a1_1]] w fun e w' => e = .returned (.bool r) ∧ Below w.heap.size w w' := by
  unfold laws_eqIntA2.f at h
  split at h
  next hh =>
    obtain rfl := Option.some.inj h
    obtain ⟨rfl, rfl⟩ := hh
    exact eqIntA2_c _ _ w
  next => cases h
end Go.Proofs.Ytpbboooeahmgpaa.P


namespace Go.Proofs.Ytpbboooeahmgpaa.P
open Go.RowKit Go.Proofs.YtpbboooeahmgpaaW.PrintWords Go.Proofs.YtpbboooeahmgpaaW.PrintLast Go.Proofs.YtpbboooeahmgpaaW.PrintMore
attribute [local go_sem] max2_int min2_int max_two min_two max_three min_three max_four min_four   -- for this text's walks alone
set_option linter.unusedVariables false
set_option linter.unusedSimpArgs false

/-! ### laws_FnExactFirstClash: function 8 -/
def laws_FnExactFirstClash.j0 : Nat → List (SlawsLoan) → List (SimplLoan) → Bool → List (List Int) → List (List Int) → Option (Bool)
  | 0, _, _, _, _, _ => none
  | k + 1, x1, x10, x57, x860000, x877000 => if x57 = true then (some false) else ((laws_toMemory.f x860000).bind fun t886 => ((laws_eqMemory.f k x877000 t886).bind fun t889 => (if t889 = true then ((laws_toLoanS.f k x1).bind fun t890 => ((laws_eqLoanS.f k x10 t890).bind fun t893 => (if t893 = true then (some true) else (some false)))) else (some false))))
def laws_FnExactFirstClash.f (k : Nat) (l0_0 : List (List Int)) (l1 : List (SlawsLoan)) : Option (Bool) := (laws_szMemory.f k l0_0 1048576).bind fun t860 => (if t860 < 0 then (some true) else ((laws_szLoanS.f l1 t860).bind fun t861 => (if t861 < 0 then (some true) else ((laws_toMemory.f l0_0).bind fun t862 => ((laws_toLoanS.f k l1).bind fun t865 => ((spec_FirstClash.f k t862 t865).bind fun bt868 => ((laws_toMemory.f l0_0).bind fun t873 => ((laws_toLoanS.f k l1).bind fun t877 => ((impl_FirstClash.f k t873 t877).bind fun bt880 => (if bt880.1 = bt868.1 then ((laws_eqIntA2.f bt880.2.1 bt880.2.2.1 bt868.2.1 bt868.2.2.1).bind fun t885 => (if t885 = true then (laws_FnExactFirstClash.j0 k l1 t877 (bt880.2.2.2 != bt868.2.2.2) l0_0 t873) else (laws_FnExactFirstClash.j0 k l1 t877 true l0_0 t873))) else (laws_FnExactFirstClash.j0 k l1 t877 true l0_0 t873)))))))))))
set_option maxHeartbeats 8000000 in
set_option maxRecDepth 100000 in
theorem laws_FnExactFirstClash.calls (k : Nat) (A0_0 : Option Addr) (c0_0 : Nat) (l0_0 : List (List Int)) (A1 : Option Addr) (c1 : Nat) (l1 : List (SlawsLoan)) (r : Bool) (w : World) (hr0_0 : Kd.C (Kd.slice 5 (Kd.int .u8)) w A0_0 l0_0.length l0_0) (hc0_0 : l0_0.length ≤ c0_0) (hr1 : Kd.C klawsLoan w A1 l1.length l1) (hc1 : l1.length ≤ c1) (h : laws_FnExactFirstClash.f k l0_0 l1 = some r) :
    Calls Try.prog 8 #[.agg #[.slice A0_0 l0_0.length c0_0], .slice A1 l1.length c1] w fun e w' => e = .returned (.bool r) ∧ Below w.heap.size w w' := by
  have hu49 := Try.underlying49
  have hu75 := Try.underlying75
  have hu26 := Try.underlying26
  have HR0_0 := Aside0.mk hr0_0
  have HC0_0 := Aside0.mk hc0_0
  clear hr0_0 hc0_0
  have HR1 := Aside0.mk hr1
  have HC1 := Aside0.mk hc1
  clear hr1 hc1
  have HB := Aside0.mk (Below.refl w.heap.size w)
  have H : ((laws_szMemory.f k l0_0 1048576).bind fun t860 => (if t860 < 0 then (some true) else ((laws_szLoanS.f l1 t860).bind fun t861 => (if t861 < 0 then (some true) else ((laws_toMemory.f l0_0).bind fun t862 => ((laws_toLoanS.f k l1).bind fun t865 => ((spec_FirstClash.f k t862 t865).bind fun bt868 => ((laws_toMemory.f l0_0).bind fun t873 => ((laws_toLoanS.f k l1).bind fun t877 => ((impl_FirstClash.f k t873 t877).bind fun bt880 => (if bt880.1 = bt868.1 then ((laws_eqIntA2.f bt880.2.1 bt880.2.2.1 bt868.2.1 bt868.2.2.1).bind fun t885 => (if t885 = true then (laws_FnExactFirstClash.j0 k l1 t877 (bt880.2.2.2 != bt868.2.2.2) l0_0 t873) else (laws_FnExactFirstClash.j0 k l1 t877 true l0_0 t873))) else (laws_FnExactFirstClash.j0 k l1 t877 true l0_0 t873)))))))))))) = some r := h
  clear h
  replace H := Option.bind_eq_some_iff.mp H
  obtain ⟨t860, A30, H⟩ := H
  replace H : (if t860 < 0 then (some true) else ((laws_szLoanS.f l1 t860).bind fun t861 => (if t861 < 0 then (some true) else ((laws_toMemory.f l0_0).bind fun t862 => ((laws_toLoanS.f k l1).bind fun t865 => ((spec_FirstClash.f k t862 t865).bind fun bt868 => ((laws_toMemory.f l0_0).bind fun t873 => ((laws_toLoanS.f k l1).bind fun t877 => ((impl_FirstClash.f k t873 t877).bind fun bt880 => (if bt880.1 = bt868.1 then ((laws_eqIntA2.f bt880.2.1 bt880.2.2.1 bt868.2.1 bt868.2.2.1).bind fun t885 => (if t885 = true then (laws_FnExactFirstClash.j0 k l1 t877 (bt880.2.2.2 != bt868.2.2.2) l0_0 t873) else (laws_FnExactFirstClash.j0 k l1 t877 true l0_0 t873))) else (laws_FnExactFirstClash.j0 k l1 t877 true l0_0 t873))))))))))) = some r := H
  have A3 := Aside0.mk A30
  clear A30
  by_cases c4 : t860 < 0
  · rw [if_pos c4] at H
    have c4b0 : decide (t860 < 0) = true := decide_eq_true c4
    clear c4
    obtain rfl := Option.some.inj H
    go_enter Try.func8, Try.ntmps8
    go_wp2_with (first | ((with_reducible refine gate_dst (N := 2) rfl ?_); refine box_event ?hg (N := 2) ?hd (cs := #[.slice A0_0 l0_0.length c0_0]) (t := 49) ?hr ?_; (case hd => rfl); (case hg => rfl); (case hr => first | (go_simp; done) | (go_simp; rfl)); intro gb859 hg w5 hbox hb; have n0_ := Aside0.mk (below_step (by repeat (first | (with_reducible first | exact HB.out | apply below_alloc | apply pw_below_drewN | apply below_drew1) | exact HB.out)) hb); have n1_ := Aside0.mk (hbox); have n2_ := Aside0.mk ((by rw [hg]; exact (below_size (by repeat (first | (with_reducible first | exact HB.out | apply below_alloc | apply pw_below_drewN | apply below_drew1) | exact HB.out))) : w.heap.size ≤ gb859)); have n3_ := Aside0.mk ((by rw [hg]; exact (below_size (by repeat (first | (with_reducible first | exact HB.out | apply below_alloc | apply pw_below_drewN | apply below_drew1) | exact HB.out))) : w.heap.size ≤ gb859)); clear HB; have HB := n0_; have BK859 := n1_; have GW859 := n2_; have GE859 := n3_; clear n0_ n1_ n2_ n3_; clear hb hbox hg; have hcz6_0 : w5.cell? ⟨gb859, 0, none⟩ = some (.slice A0_0 l0_0.length c0_0) := (blk_cell BK859.out 0).trans rfl; have hfz6_0 := blk_frozen BK859.out 0) | ((with_reducible refine gate_callee (f := 24) rfl ?_); refine goesL_ (some 16) rfl rfl Try.func24 (by kernel_rfl) rfl #[.agg #[.slice A0_0 l0_0.length c0_0], .int .i64 1048576] rfl (by (try simp only [List.map_toArray, List.map_cons, List.map_nil]); first | done | rfl | (simp only [List.length_drop, List.length_take]; rfl)) ?_; (with_reducible refine (laws_szMemory.calls k _ _ l0_0 1048576 t860 _ ?side1 ?side2 A3.out).mono ?_); (case side1 => repeat (first | exact (Kd.C_below HR0_0.out HB.out) | (with_reducible refine Kd.C_alloc ?_ _) | (with_reducible refine Kd.C_drewN ?_ _) | (with_reducible refine Kd.C_drew ?_))); (case side2 => exact HC0_0.out); rintro e w7 ⟨rfl, hb⟩; refine ⟨_, rfl, ?_⟩; have n0_ := Aside0.mk (blk_below (g := gb859) (o := .cells #[.slice A0_0 l0_0.length c0_0] 49 (0, 0)) (by (with_reducible repeat (first | refine blk_drewN ?_ _ | refine blk_drew ?_ | refine blk_alloc ?_ _)); exact BK859.out) hb); have n1_ := Aside0.mk (below_step (by repeat (first | (with_reducible first | exact HB.out | apply below_alloc | apply pw_below_drewN | apply below_drew1 | refine below_set ?_ GE859.out) | exact HB.out)) hb); clear BK859; clear HB; have BK859 := n0_; have HB := n1_; clear n0_ n1_; (try clear hb); (try clear hb2); (try clear hk); (try clear hi)))
    go_ret
    exact ⟨by first | rfl | (simp [errW_none, errW_some] <;> rfl) | (simp [*, errW_none, errW_some] <;> rfl), by repeat (first | (with_reducible first | exact HB.out | apply below_alloc | apply pw_below_drewN | apply below_drew1 | refine below_set ?_ GE859.out) | exact HB.out)⟩
  · rw [if_neg c4] at H
    have c4b0 : decide (t860 < 0) = false := decide_eq_false c4
    clear c4
    replace H := Option.bind_eq_some_iff.mp H
    obtain ⟨t861, A80, H⟩ := H
    replace H : (if t861 < 0 then (some true) else ((laws_toMemory.f l0_0).bind fun t862 => ((laws_toLoanS.f k l1).bind fun t865 => ((spec_FirstClash.f k t862 t865).bind fun bt868 => ((laws_toMemory.f l0_0).bind fun t873 => ((laws_toLoanS.f k l1).bind fun t877 => ((impl_FirstClash.f k t873 t877).bind fun bt880 => (if bt880.1 = bt868.1 then ((laws_eqIntA2.f bt880.2.1 bt880.2.2.1 bt868.2.1 bt868.2.2.1).bind fun t885 => (if t885 = true then (laws_FnExactFirstClash.j0 k l1 t877 (bt880.2.2.2 != bt868.2.2.2) l0_0 t873) else (laws_FnExactFirstClash.j0 k l1 t877 true l0_0 t873))) else (laws_FnExactFirstClash.j0 k l1 t877 true l0_0 t873))))))))) = some r := H
    have A8 := Aside0.mk A80
    clear A80
    by_cases c9 : t861 < 0
    · rw [if_pos c9] at H
      have c9b0 : decide (t861 < 0) = true := decide_eq_true c9
      clear c9
      obtain rfl := Option.some.inj H
      go_enter Try.func8, Try.ntmps8
      go_wp2_with (first | ((with_reducible refine gate_dst (N := 2) rfl ?_); refine box_event ?hg (N := 2) ?hd (cs := #[.slice A0_0 l0_0.length c0_0]) (t := 49) ?hr ?_; (case hd => rfl); (case hg => rfl); (case hr => first | (go_simp; done) | (go_simp; rfl)); intro gb859 hg w10 hbox hb; have n0_ := Aside0.mk (below_step (by repeat (first | (with_reducible first | exact HB.out | apply below_alloc | apply pw_below_drewN | apply below_drew1) | exact HB.out)) hb); have n1_ := Aside0.mk (hbox); have n2_ := Aside0.mk ((by rw [hg]; exact (below_size (by repeat (first | (with_reducible first | exact HB.out | apply below_alloc | apply pw_below_drewN | apply below_drew1) | exact HB.out))) : w.heap.size ≤ gb859)); have n3_ := Aside0.mk ((by rw [hg]; exact (below_size (by repeat (first | (with_reducible first | exact HB.out | apply below_alloc | apply pw_below_drewN | apply below_drew1) | exact HB.out))) : w.heap.size ≤ gb859)); clear HB; have HB := n0_; have BK859 := n1_; have GW859 := n2_; have GE859 := n3_; clear n0_ n1_ n2_ n3_; clear hb hbox hg; have hcz11_0 : w10.cell? ⟨gb859, 0, none⟩ = some (.slice A0_0 l0_0.length c0_0) := (blk_cell BK859.out 0).trans rfl; have hfz11_0 := blk_frozen BK859.out 0) | ((with_reducible refine gate_callee (f := 24) rfl ?_); refine goesL_ (some 16) rfl rfl Try.func24 (by kernel_rfl) rfl #[.agg #[.slice A0_0 l0_0.length c0_0], .int .i64 1048576] rfl (by (try simp only [List.map_toArray, List.map_cons, List.map_nil]); first | done | rfl | (simp only [List.length_drop, List.length_take]; rfl)) ?_; (with_reducible refine (laws_szMemory.calls k _ _ l0_0 1048576 t860 _ ?side1 ?side2 A3.out).mono ?_); (case side1 => repeat (first | exact (Kd.C_below HR0_0.out HB.out) | (with_reducible refine Kd.C_alloc ?_ _) | (with_reducible refine Kd.C_drewN ?_ _) | (with_reducible refine Kd.C_drew ?_))); (case side2 => exact HC0_0.out); rintro e w12 ⟨rfl, hb⟩; refine ⟨_, rfl, ?_⟩; have n0_ := Aside0.mk (blk_below (g := gb859) (o := .cells #[.slice A0_0 l0_0.length c0_0] 49 (0, 0)) (by (with_reducible repeat (first | refine blk_drewN ?_ _ | refine blk_drew ?_ | refine blk_alloc ?_ _)); exact BK859.out) hb); have n1_ := Aside0.mk (below_step (by repeat (first | (with_reducible first | exact HB.out | apply below_alloc | apply pw_below_drewN | apply below_drew1 | refine below_set ?_ GE859.out) | exact HB.out)) hb); clear BK859; clear HB; have BK859 := n0_; have HB := n1_; clear n0_ n1_; (try clear hb); (try clear hb2); (try clear hk); (try clear hi)) | ((with_reducible refine gate_callee (f := 25) rfl ?_); refine goesL_ (some 21) rfl rfl Try.func25 (by kernel_rfl) rfl #[.slice A1 l1.length c1, .int .i64 t860] rfl (by (try simp only [List.map_toArray, List.map_cons, List.map_nil]); first | done | rfl | (simp only [List.length_drop, List.length_take]; rfl)) ?_; (with_reducible refine (laws_szLoanS.calls _ _ l1 t860 t861 _ ?side1 ?side2 A8.out).mono ?_); (case side1 => repeat (first | exact (Kd.C_below HR1.out HB.out) | (with_reducible refine Kd.C_alloc ?_ _) | (with_reducible refine Kd.C_drewN ?_ _) | (with_reducible refine Kd.C_drew ?_))); (case side2 => exact HC1.out); rintro e w' ⟨rfl, ⟨nd, rfl⟩⟩; refine ⟨_, rfl, ?_⟩))
      go_ret
      exact ⟨by first | rfl | (simp [errW_none, errW_some] <;> rfl) | (simp [*, errW_none, errW_some] <;> rfl), by repeat (first | (with_reducible first | exact HB.out | apply below_alloc | apply pw_below_drewN | apply below_drew1 | refine below_set ?_ GE859.out) | exact HB.out)⟩
    · rw [if_neg c9] at H
      have c9b0 : decide (t861 < 0) = false := decide_eq_false c9
      clear c9
      replace H := Option.bind_eq_some_iff.mp H
      obtain ⟨t862, A130, H⟩ := H
      replace H : ((laws_toLoanS.f k l1).bind fun t865 => ((spec_FirstClash.f k t862 t865).bind fun bt868 => ((laws_toMemory.f l0_0).bind fun t873 => ((laws_toLoanS.f k l1).bind fun t877 => ((impl_FirstClash.f k t873 t877).bind fun bt880 => (if bt880.1 = bt868.1 then ((laws_eqIntA2.f bt880.2.1 bt880.2.2.1 bt868.2.1 bt868.2.2.1).bind fun t885 => (if t885 = true then (laws_FnExactFirstClash.j0 k l1 t877 (bt880.2.2.2 != bt868.2.2.2) l0_0 t873) else (laws_FnExactFirstClash.j0 k l1 t877 true l0_0 t873))) else (laws_FnExactFirstClash.j0 k l1 t877 true l0_0 t873))))))) = some r := H
      have A13 := Aside0.mk A130
      clear A130
      replace H := Option.bind_eq_some_iff.mp H
      obtain ⟨t865, A140, H⟩ := H
      replace H : ((spec_FirstClash.f k t862 t865).bind fun bt868 => ((laws_toMemory.f l0_0).bind fun t873 => ((laws_toLoanS.f k l1).bind fun t877 => ((impl_FirstClash.f k t873 t877).bind fun bt880 => (if bt880.1 = bt868.1 then ((laws_eqIntA2.f bt880.2.1 bt880.2.2.1 bt868.2.1 bt868.2.2.1).bind fun t885 => (if t885 = true then (laws_FnExactFirstClash.j0 k l1 t877 (bt880.2.2.2 != bt868.2.2.2) l0_0 t873) else (laws_FnExactFirstClash.j0 k l1 t877 true l0_0 t873))) else (laws_FnExactFirstClash.j0 k l1 t877 true l0_0 t873)))))) = some r := H
      have A14 := Aside0.mk A140
      clear A140
      replace H := Option.bind_eq_some_iff.mp H
      obtain ⟨⟨t868, t869, t870, t871⟩, A150, H⟩ := H
      replace H : ((laws_toMemory.f l0_0).bind fun t873 => ((laws_toLoanS.f k l1).bind fun t877 => ((impl_FirstClash.f k t873 t877).bind fun bt880 => (if bt880.1 = t868 then ((laws_eqIntA2.f bt880.2.1 bt880.2.2.1 t869 t870).bind fun t885 => (if t885 = true then (laws_FnExactFirstClash.j0 k l1 t877 (bt880.2.2.2 != t871) l0_0 t873) else (laws_FnExactFirstClash.j0 k l1 t877 true l0_0 t873))) else (laws_FnExactFirstClash.j0 k l1 t877 true l0_0 t873))))) = some r := H
      have A15 := Aside0.mk A150
      clear A150
      replace H := Option.bind_eq_some_iff.mp H
      obtain ⟨t873, A160, H⟩ := H
      replace H : ((laws_toLoanS.f k l1).bind fun t877 => ((impl_FirstClash.f k t873 t877).bind fun bt880 => (if bt880.1 = t868 then ((laws_eqIntA2.f bt880.2.1 bt880.2.2.1 t869 t870).bind fun t885 => (if t885 = true then (laws_FnExactFirstClash.j0 k l1 t877 (bt880.2.2.2 != t871) l0_0 t873) else (laws_FnExactFirstClash.j0 k l1 t877 true l0_0 t873))) else (laws_FnExactFirstClash.j0 k l1 t877 true l0_0 t873)))) = some r := H
      have A16 := Aside0.mk A160
      clear A160
      replace H := Option.bind_eq_some_iff.mp H
      obtain ⟨t877, A170, H⟩ := H
      replace H : ((impl_FirstClash.f k t873 t877).bind fun bt880 => (if bt880.1 = t868 then ((laws_eqIntA2.f bt880.2.1 bt880.2.2.1 t869 t870).bind fun t885 => (if t885 = true then (laws_FnExactFirstClash.j0 k l1 t877 (bt880.2.2.2 != t871) l0_0 t873) else (laws_FnExactFirstClash.j0 k l1 t877 true l0_0 t873))) else (laws_FnExactFirstClash.j0 k l1 t877 true l0_0 t873))) = some r := H
      have A17 := Aside0.mk A170
      clear A170
      replace H := Option.bind_eq_some_iff.mp H
      obtain ⟨⟨t880, t881, t882, t883⟩, A180, H⟩ := H
      replace H : (if t880 = t868 then ((laws_eqIntA2.f t881 t882 t869 t870).bind fun t885 => (if t885 = true then (laws_FnExactFirstClash.j0 k l1 t877 (t883 != t871) l0_0 t873) else (laws_FnExactFirstClash.j0 k l1 t877 true l0_0 t873))) else (laws_FnExactFirstClash.j0 k l1 t877 true l0_0 t873)) = some r := H
      have A18 := Aside0.mk A180
      clear A180
      have HC19 := Aside0.mk H
      clear H
      go_enter Try.func8, Try.ntmps8
      go_upto_region 12 with (first | ((with_reducible refine gate_dst (N := 2) rfl ?_); refine box_event ?hg (N := 2) ?hd (cs := #[.slice A0_0 l0_0.length c0_0]) (t := 49) ?hr ?_; (case hd => rfl); (case hg => rfl); (case hr => first | (go_simp; done) | (go_simp; rfl)); intro gb859 hg w20 hbox hb; have n0_ := Aside0.mk (below_step (by repeat (first | (with_reducible first | exact HB.out | apply below_alloc | apply pw_below_drewN | apply below_drew1) | exact HB.out)) hb); have n1_ := Aside0.mk (hbox); have n2_ := Aside0.mk ((by rw [hg]; exact (below_size (by repeat (first | (with_reducible first | exact HB.out | apply below_alloc | apply pw_below_drewN | apply below_drew1) | exact HB.out))) : w.heap.size ≤ gb859)); have n3_ := Aside0.mk ((by rw [hg]; exact (below_size (by repeat (first | (with_reducible first | exact HB.out | apply below_alloc | apply pw_below_drewN | apply below_drew1) | exact HB.out))) : w.heap.size ≤ gb859)); clear HB; have HB := n0_; have BK859 := n1_; have GW859 := n2_; have GE859 := n3_; clear n0_ n1_ n2_ n3_; clear hb hbox hg; have hcz21_0 : w20.cell? ⟨gb859, 0, none⟩ = some (.slice A0_0 l0_0.length c0_0) := (blk_cell BK859.out 0).trans rfl; have hfz21_0 := blk_frozen BK859.out 0) | ((with_reducible refine gate_callee (f := 24) rfl ?_); refine goesL_ (some 16) rfl rfl Try.func24 (by kernel_rfl) rfl #[.agg #[.slice A0_0 l0_0.length c0_0], .int .i64 1048576] rfl (by (try simp only [List.map_toArray, List.map_cons, List.map_nil]); first | done | rfl | (simp only [List.length_drop, List.length_take]; rfl)) ?_; (with_reducible refine (laws_szMemory.calls k _ _ l0_0 1048576 t860 _ ?side1 ?side2 A3.out).mono ?_); (case side1 => repeat (first | exact (Kd.C_below HR0_0.out HB.out) | (with_reducible refine Kd.C_alloc ?_ _) | (with_reducible refine Kd.C_drewN ?_ _) | (with_reducible refine Kd.C_drew ?_))); (case side2 => exact HC0_0.out); rintro e w22 ⟨rfl, hb⟩; refine ⟨_, rfl, ?_⟩; have n0_ := Aside0.mk (blk_below (g := gb859) (o := .cells #[.slice A0_0 l0_0.length c0_0] 49 (0, 0)) (by (with_reducible repeat (first | refine blk_drewN ?_ _ | refine blk_drew ?_ | refine blk_alloc ?_ _)); exact BK859.out) hb); have n1_ := Aside0.mk (below_step (by repeat (first | (with_reducible first | exact HB.out | apply below_alloc | apply pw_below_drewN | apply below_drew1 | refine below_set ?_ GE859.out) | exact HB.out)) hb); clear BK859; clear HB; have BK859 := n0_; have HB := n1_; clear n0_ n1_; (try clear hb); (try clear hb2); (try clear hk); (try clear hi)) | ((with_reducible refine gate_callee (f := 25) rfl ?_); refine goesL_ (some 21) rfl rfl Try.func25 (by kernel_rfl) rfl #[.slice A1 l1.length c1, .int .i64 t860] rfl (by (try simp only [List.map_toArray, List.map_cons, List.map_nil]); first | done | rfl | (simp only [List.length_drop, List.length_take]; rfl)) ?_; (with_reducible refine (laws_szLoanS.calls _ _ l1 t860 t861 _ ?side1 ?side2 A8.out).mono ?_); (case side1 => repeat (first | exact (Kd.C_below HR1.out HB.out) | (with_reducible refine Kd.C_alloc ?_ _) | (with_reducible refine Kd.C_drewN ?_ _) | (with_reducible refine Kd.C_drew ?_))); (case side2 => exact HC1.out); rintro e w' ⟨rfl, ⟨nd, rfl⟩⟩; refine ⟨_, rfl, ?_⟩; (try (rw [drewN_self w22]; generalize hq_ : World.drewN w22 _ = w22; have n0_ : Aside0 (w22.heap[gb859]? = some (.cells #[.slice A0_0 l0_0.length c0_0] 49 (0, 0))) := ⟨by rw [← hq_]; exact (by (with_reducible repeat (first | refine blk_drewN ?_ _ | refine blk_drew ?_ | refine blk_alloc ?_ _)); exact BK859.out)⟩; have n1_ : Aside0 (Below w.heap.size w w22) := ⟨by rw [← hq_]; exact (by repeat (first | (with_reducible first | exact HB.out | apply below_alloc | apply pw_below_drewN | apply below_drew1 | refine below_set ?_ GE859.out) | exact HB.out))⟩; clear BK859 HB hq_; have BK859 := n0_; have HB := n1_; clear n0_ n1_)); have hcz23_0 : w22.cell? ⟨gb859, 0, none⟩ = some (.slice A0_0 l0_0.length c0_0) := (blk_cell BK859.out 0).trans rfl; have hfz23_0 := blk_frozen BK859.out 0) | ((with_reducible refine gate_callee (f := 27) rfl ?_); refine goesL_ (some 26) rfl rfl Try.func27 (by kernel_rfl) rfl #[.agg #[.slice A0_0 l0_0.length c0_0]] rfl (by (try simp only [List.map_toArray, List.map_cons, List.map_nil]); first | done | rfl | (simp only [List.length_drop, List.length_take]; rfl)) ?_; (with_reducible refine (laws_toMemory.calls _ _ l0_0 t862 _ ?side1 ?side2 A13.out).mono ?_); (case side1 => repeat (first | exact (Kd.C_below HR0_0.out HB.out) | (with_reducible refine Kd.C_alloc ?_ _) | (with_reducible refine Kd.C_drewN ?_ _) | (with_reducible refine Kd.C_drew ?_))); (case side2 => exact HC0_0.out); rintro e w24 ⟨v863, rfl, ho0, hb⟩; refine ⟨_, rfl, ?_⟩; have n0_ := Aside0.mk (Kd.S_lower ho0 (below_size (by repeat (first | (with_reducible first | exact HB.out | apply below_alloc | apply pw_below_drewN | apply below_drew1 | refine below_set ?_ GE859.out) | exact HB.out)))); have n1_ := Aside0.mk (blk_below (g := gb859) (o := .cells #[.slice A0_0 l0_0.length c0_0] 49 (0, 0)) (by (with_reducible repeat (first | refine blk_drewN ?_ _ | refine blk_drew ?_ | refine blk_alloc ?_ _)); exact BK859.out) hb); have n2_ := Aside0.mk (below_step (by repeat (first | (with_reducible first | exact HB.out | apply below_alloc | apply pw_below_drewN | apply below_drew1 | refine below_set ?_ GE859.out) | exact HB.out)) hb); clear BK859; clear HB; have HO864 := n0_; have BK859 := n1_; have HB := n2_; clear n0_ n1_ n2_; (try clear hb); (try clear hb2); (try clear hk); (try clear hi); (try clear ho0)) | ((with_reducible refine gate_callee (f := 28) rfl ?_); refine goesL_ (some 28) rfl rfl Try.func28 (by kernel_rfl) rfl #[.slice A1 l1.length c1] rfl (by (try simp only [List.map_toArray, List.map_cons, List.map_nil]); first | done | rfl | (simp only [List.length_drop, List.length_take]; rfl)) ?_; (with_reducible refine (laws_toLoanS.calls k _ _ l1 t865 _ ?side1 ?side2 A14.out).mono ?_); (case side1 => repeat (first | exact (Kd.C_below HR1.out HB.out) | (with_reducible refine Kd.C_alloc ?_ _) | (with_reducible refine Kd.C_drewN ?_ _) | (with_reducible refine Kd.C_drew ?_))); (case side2 => exact HC1.out); rintro e w25 ⟨v866, rfl, ho0, hb⟩; refine ⟨_, rfl, ?_⟩; have n0_ := Aside0.mk (Kd.S_below (by (with_reducible repeat (first | apply Kd.S_alloc | apply Kd.S_drewN | apply Kd.S_drew)); exact HO864.out) hb); have n1_ := Aside0.mk (Kd.R_lower ho0 (below_size (by repeat (first | (with_reducible first | exact HB.out | apply below_alloc | apply pw_below_drewN | apply below_drew1 | refine below_set ?_ GE859.out) | exact HB.out)))); have n2_ := Aside0.mk (blk_below (g := gb859) (o := .cells #[.slice A0_0 l0_0.length c0_0] 49 (0, 0)) (by (with_reducible repeat (first | refine blk_drewN ?_ _ | refine blk_drew ?_ | refine blk_alloc ?_ _)); exact BK859.out) hb); have n3_ := Aside0.mk (below_step (by repeat (first | (with_reducible first | exact HB.out | apply below_alloc | apply pw_below_drewN | apply below_drew1 | refine below_set ?_ GE859.out) | exact HB.out)) hb); clear HO864; clear BK859; clear HB; have HO864 := n0_; have HO867 := n1_; have BK859 := n2_; have HB := n3_; clear n0_ n1_ n2_ n3_; (try clear hb); (try clear hb2); (try clear hk); (try clear hi); (try clear ho0); obtain ⟨Ao26, co26, eo26⟩ := Kd.S_slice HO864.out; subst eo26; obtain ⟨Ao27, co27, eo27⟩ := Kd.R_slice HO867.out; subst eo27) | ((with_reducible refine gate_callee (f := 44) rfl ?_); refine goesL_ (some 29) rfl rfl Try.func44 (by kernel_rfl) rfl #[.agg #[.slice Ao26 t862.length co26], .slice Ao27 t865.length co27] rfl (by (try simp only [List.map_toArray, List.map_cons, List.map_nil]); first | done | rfl | (simp only [List.length_drop, List.length_take]; rfl)) ?_; (with_reducible refine (spec_FirstClash.calls k _ _ t862 _ _ t865 t868 t869 t870 t871 _ ?side1 ?side2 ?side3 ?side4 A15.out).mono ?_); (case side1 => repeat (first | exact (Kd.S_reads' HO864.out).2.2 | (with_reducible refine Kd.C_alloc ?_ _) | (with_reducible refine Kd.C_drewN ?_ _) | (with_reducible refine Kd.C_drew ?_))); (case side2 => exact (Kd.S_reads' HO864.out).2.1); (case side3 => repeat (first | exact (Kd.R_reads' HO867.out).2.2 | (with_reducible refine Kd.C_alloc ?_ _) | (with_reducible refine Kd.C_drewN ?_ _) | (with_reducible refine Kd.C_drew ?_))); (case side4 => exact (Kd.R_reads' HO867.out).2.1); rintro e w28 ⟨rfl, hb⟩; refine ⟨_, rfl, ?_⟩; have n0_ := Aside0.mk (Kd.S_below (by (with_reducible repeat (first | apply Kd.S_alloc | apply Kd.S_drewN | apply Kd.S_drew)); exact HO864.out) hb); have n1_ := Aside0.mk (Kd.R_below (by (with_reducible repeat (first | apply Kd.R_alloc | apply Kd.R_drewN | apply Kd.R_drew)); exact HO867.out) hb); have n2_ := Aside0.mk (blk_below (g := gb859) (o := .cells #[.slice A0_0 l0_0.length c0_0] 49 (0, 0)) (by (with_reducible repeat (first | refine blk_drewN ?_ _ | refine blk_drew ?_ | refine blk_alloc ?_ _)); exact BK859.out) hb); have n3_ := Aside0.mk (below_step (by repeat (first | (with_reducible first | exact HB.out | apply below_alloc | apply pw_below_drewN | apply below_drew1 | refine below_set ?_ GE859.out) | exact HB.out)) hb); clear HO864; clear HO867; clear BK859; clear HB; have HO864 := n0_; have HO867 := n1_; have BK859 := n2_; have HB := n3_; clear n0_ n1_ n2_ n3_; (try clear hb); (try clear hb2); (try clear hk); (try clear hi)) | ((with_reducible refine gate_dst (N := 7) rfl ?_); refine box_event ?hg (N := 7) ?hd (cs := #[.int .i64 0, .int .i64 0]) (t := 75) ?hr ?_; (case hd => rfl); (case hg => rfl); (case hr => first | (go_simp; done) | (go_simp; rfl)); intro gb872 hg w29 hbox hb; have n0_ := Aside0.mk (Kd.S_below (by (with_reducible repeat (first | apply Kd.S_alloc | apply Kd.S_drewN | apply Kd.S_drew)); exact HO864.out) hb); have n1_ := Aside0.mk (Kd.R_below (by (with_reducible repeat (first | apply Kd.R_alloc | apply Kd.R_drewN | apply Kd.R_drew)); exact HO867.out) hb); have n2_ := Aside0.mk (blk_below (g := gb859) (o := .cells #[.slice A0_0 l0_0.length c0_0] 49 (0, 0)) (by (with_reducible repeat (first | refine blk_drewN ?_ _ | refine blk_drew ?_ | refine blk_alloc ?_ _)); exact BK859.out) hb); have n3_ := Aside0.mk (below_step (by repeat (first | (with_reducible first | exact HB.out | apply below_alloc | apply pw_below_drewN | apply below_drew1 | refine below_set ?_ GE859.out) | exact HB.out)) hb); have n4_ := Aside0.mk (hbox); have n5_ := Aside0.mk ((by rw [hg]; exact (below_size (by repeat (first | (with_reducible first | exact HB.out | apply below_alloc | apply pw_below_drewN | apply below_drew1 | refine below_set ?_ GE859.out) | exact HB.out))) : w.heap.size ≤ gb872)); have n6_ := Aside0.mk ((by rw [hg]; exact (below_size (by repeat (first | (with_reducible first | exact HB.out | apply below_alloc | apply pw_below_drewN | apply below_drew1 | refine below_set ?_ GE859.out) | exact HB.out))) : w.heap.size ≤ gb872)); have n7_ := Aside0.mk ((by rw [hg]; exact Nat.ne_of_lt (blk_lt (g := gb859) (o := .cells #[.slice A0_0 l0_0.length c0_0] 49 (0, 0)) (by (with_reducible repeat (first | refine blk_drewN ?_ _ | refine blk_drew ?_ | refine blk_alloc ?_ _)); exact BK859.out)) : gb859 ≠ gb872)); have n8_ := Aside0.mk ((by rw [hg]; exact Nat.ne_of_gt (blk_lt (g := gb859) (o := .cells #[.slice A0_0 l0_0.length c0_0] 49 (0, 0)) (by (with_reducible repeat (first | refine blk_drewN ?_ _ | refine blk_drew ?_ | refine blk_alloc ?_ _)); exact BK859.out)) : gb872 ≠ gb859)); clear HO864; clear HO867; clear BK859; clear HB; have HO864 := n0_; have HO867 := n1_; have BK859 := n2_; have HB := n3_; have BK872 := n4_; have GW872 := n5_; have GE872 := n6_; have NB859_872 := n7_; have NB872_859 := n8_; clear n0_ n1_ n2_ n3_ n4_ n5_ n6_ n7_ n8_; clear hb hbox hg; have hnb30 := NB872_859.out; have hnc30 := NB859_872.out; have hcz31_0 : w29.cell? ⟨gb872, 0, none⟩ = some (.int .i64 0) := (blk_cell BK872.out 0).trans rfl; have hcz31_1 : w29.cell? ⟨gb872, 1, none⟩ = some (.int .i64 0) := (blk_cell BK872.out 1).trans rfl; have hfz31_0 := blk_frozen BK872.out 0; have hfz31_1 := blk_frozen BK872.out 1; have hcz32_0 : w29.cell? ⟨gb859, 0, none⟩ = some (.slice A0_0 l0_0.length c0_0) := (blk_cell BK859.out 0).trans rfl; have hfz32_0 := blk_frozen BK859.out 0) | ((with_reducible refine gate_callee (f := 27) rfl ?_); refine goesL_ (some 34) rfl rfl Try.func27 (by kernel_rfl) rfl #[.agg #[.slice A0_0 l0_0.length c0_0]] rfl (by (try simp only [List.map_toArray, List.map_cons, List.map_nil]); first | done | rfl | (simp only [List.length_drop, List.length_take]; rfl)) ?_; (with_reducible refine (laws_toMemory.calls _ _ l0_0 t873 _ ?side1 ?side2 A16.out).mono ?_); (case side1 => exact Kd.C_below HR0_0.out (by repeat (first | (with_reducible first | exact HB.out | apply below_alloc | apply pw_below_drewN | apply below_drew1 | refine below_set ?_ GE859.out | refine below_set ?_ GE872.out) | exact HB.out))); (case side2 => exact HC0_0.out); rintro e w33 ⟨v874, rfl, ho0, hb⟩; refine ⟨_, rfl, ?_⟩; have n0_ := Aside0.mk (Kd.S_elder' (by (with_reducible repeat (first | apply Kd.S_alloc | apply Kd.S_drewN | apply Kd.S_drew)); exact (Kd.S_mono (Kd.S_far (p := ⟨gb872, 1, none⟩) (Kd.S_far (p := ⟨gb872, 0, none⟩) (Kd.S_types HO864.out BK872.out (by decide)) (fun _ hk => hk.2) (.int .i64 t869)) (fun _ hk => hk.2) (.int .i64 t870)) (fun _ h_ => h_.1))) (Kd.S_base ho0) hb); have n1_ := Aside0.mk (Kd.R_below (by (with_reducible repeat (first | apply Kd.R_alloc | apply Kd.R_drewN | apply Kd.R_drew)); exact (Kd.R_mono (Kd.R_far (p := ⟨gb872, 1, none⟩) (Kd.R_far (p := ⟨gb872, 0, none⟩) (Kd.R_types HO867.out BK872.out (by decide)) (fun _ hk => hk.2) (.int .i64 t869)) (fun _ hk => hk.2) (.int .i64 t870)) (fun _ h_ => h_.1))) hb); have n2_ := Aside0.mk (Kd.S_lower (Kd.S_new' ho0 (Kd.S_lt (by (with_reducible repeat (first | apply Kd.S_alloc | apply Kd.S_drewN | apply Kd.S_drew)); exact (Kd.S_mono (Kd.S_far (p := ⟨gb872, 1, none⟩) (Kd.S_far (p := ⟨gb872, 0, none⟩) (Kd.S_types HO864.out BK872.out (by decide)) (fun _ hk => hk.2) (.int .i64 t869)) (fun _ hk => hk.2) (.int .i64 t870)) (fun _ h_ => h_.1))))) (below_size (by repeat (first | (with_reducible first | exact HB.out | apply below_alloc | apply pw_below_drewN | apply below_drew1 | refine below_set ?_ GE859.out | refine below_set ?_ GE872.out) | exact HB.out)))); have n3_ := Aside0.mk (blk_below (g := gb859) (o := .cells #[.slice A0_0 l0_0.length c0_0] 49 (0, 0)) (by (with_reducible repeat (first | refine blk_drewN ?_ _ | refine blk_drew ?_ | refine blk_alloc ?_ _)); refine blk_far ?_ NB859_872.out _; (with_reducible repeat (first | refine blk_drewN ?_ _ | refine blk_drew ?_ | refine blk_alloc ?_ _)); refine blk_far ?_ NB859_872.out _; (with_reducible repeat (first | refine blk_drewN ?_ _ | refine blk_drew ?_ | refine blk_alloc ?_ _)); exact BK859.out) hb); have n4_ := Aside0.mk (blk_below (g := gb872) (o := .cells #[.int .i64 t869, .int .i64 t870] 75 (0, 0)) (by (with_reducible repeat (first | refine blk_drewN ?_ _ | refine blk_drew ?_ | refine blk_alloc ?_ _)); refine blk_put (cs := #[.int .i64 t869, .int .i64 0]) ?_ 1 _ rfl; (with_reducible repeat (first | refine blk_drewN ?_ _ | refine blk_drew ?_ | refine blk_alloc ?_ _)); refine blk_put (cs := #[.int .i64 0, .int .i64 0]) ?_ 0 _ rfl; (with_reducible repeat (first | refine blk_drewN ?_ _ | refine blk_drew ?_ | refine blk_alloc ?_ _)); exact BK872.out) hb); have n5_ := Aside0.mk (below_step (by repeat (first | (with_reducible first | exact HB.out | apply below_alloc | apply pw_below_drewN | apply below_drew1 | refine below_set ?_ GE859.out | refine below_set ?_ GE872.out) | exact HB.out)) hb); clear HO864; clear HO867; clear BK859; clear BK872; clear HB; have HO864 := n0_; have HO867 := n1_; have HO875 := n2_; have BK859 := n3_; have BK872 := n4_; have HB := n5_; clear n0_ n1_ n2_ n3_ n4_ n5_; (try clear hb); (try clear hb2); (try clear hk); (try clear hi); (try clear ho0)) | ((with_reducible refine gate_dst (N := 9) rfl ?_); refine box_event ?hg (N := 9) ?hd (cs := #[.slice none 0 0]) (t := 26) ?hr ?_; (case hd => rfl); (case hg => rfl); (case hr => first | (go_simp; done) | (go_simp; rfl)); intro gb876 hg w34 hbox hb; have n0_ := Aside0.mk (Kd.S_below (by (with_reducible repeat (first | apply Kd.S_alloc | apply Kd.S_drewN | apply Kd.S_drew)); exact HO864.out) hb); have n1_ := Aside0.mk (Kd.R_below (by (with_reducible repeat (first | apply Kd.R_alloc | apply Kd.R_drewN | apply Kd.R_drew)); exact HO867.out) hb); have n2_ := Aside0.mk (Kd.S_below (by (with_reducible repeat (first | apply Kd.S_alloc | apply Kd.S_drewN | apply Kd.S_drew)); exact HO875.out) hb); have n3_ := Aside0.mk (blk_below (g := gb859) (o := .cells #[.slice A0_0 l0_0.length c0_0] 49 (0, 0)) (by (with_reducible repeat (first | refine blk_drewN ?_ _ | refine blk_drew ?_ | refine blk_alloc ?_ _)); exact BK859.out) hb); have n4_ := Aside0.mk (blk_below (g := gb872) (o := .cells #[.int .i64 t869, .int .i64 t870] 75 (0, 0)) (by (with_reducible repeat (first | refine blk_drewN ?_ _ | refine blk_drew ?_ | refine blk_alloc ?_ _)); exact BK872.out) hb); have n5_ := Aside0.mk (below_step (by repeat (first | (with_reducible first | exact HB.out | apply below_alloc | apply pw_below_drewN | apply below_drew1 | refine below_set ?_ GE859.out | refine below_set ?_ GE872.out) | exact HB.out)) hb); have n6_ := Aside0.mk (hbox); have n7_ := Aside0.mk ((by rw [hg]; exact (below_size (by repeat (first | (with_reducible first | exact HB.out | apply below_alloc | apply pw_below_drewN | apply below_drew1 | refine below_set ?_ GE859.out | refine below_set ?_ GE872.out) | exact HB.out))) : w.heap.size ≤ gb876)); have n8_ := Aside0.mk ((by rw [hg]; exact (below_size (by repeat (first | (with_reducible first | exact HB.out | apply below_alloc | apply pw_below_drewN | apply below_drew1 | refine below_set ?_ GE859.out | refine below_set ?_ GE872.out) | exact HB.out))) : w.heap.size ≤ gb876)); have n9_ := Aside0.mk ((by rw [hg]; exact Nat.ne_of_lt (blk_lt (g := gb859) (o := .cells #[.slice A0_0 l0_0.length c0_0] 49 (0, 0)) (by (with_reducible repeat (first | refine blk_drewN ?_ _ | refine blk_drew ?_ | refine blk_alloc ?_ _)); exact BK859.out)) : gb859 ≠ gb876)); have n10_ := Aside0.mk ((by rw [hg]; exact Nat.ne_of_gt (blk_lt (g := gb859) (o := .cells #[.slice A0_0 l0_0.length c0_0] 49 (0, 0)) (by (with_reducible repeat (first | refine blk_drewN ?_ _ | refine blk_drew ?_ | refine blk_alloc ?_ _)); exact BK859.out)) : gb876 ≠ gb859)); have n11_ := Aside0.mk ((by rw [hg]; exact Nat.ne_of_lt (blk_lt (g := gb872) (o := .cells #[.int .i64 t869, .int .i64 t870] 75 (0, 0)) (by (with_reducible repeat (first | refine blk_drewN ?_ _ | refine blk_drew ?_ | refine blk_alloc ?_ _)); exact BK872.out)) : gb872 ≠ gb876)); have n12_ := Aside0.mk ((by rw [hg]; exact Nat.ne_of_gt (blk_lt (g := gb872) (o := .cells #[.int .i64 t869, .int .i64 t870] 75 (0, 0)) (by (with_reducible repeat (first | refine blk_drewN ?_ _ | refine blk_drew ?_ | refine blk_alloc ?_ _)); exact BK872.out)) : gb876 ≠ gb872)); clear HO864; clear HO867; clear HO875; clear BK859; clear BK872; clear HB; have HO864 := n0_; have HO867 := n1_; have HO875 := n2_; have BK859 := n3_; have BK872 := n4_; have HB := n5_; have BK876 := n6_; have GW876 := n7_; have GE876 := n8_; have NB859_876 := n9_; have NB876_859 := n10_; have NB872_876 := n11_; have NB876_872 := n12_; clear n0_ n1_ n2_ n3_ n4_ n5_ n6_ n7_ n8_ n9_ n10_ n11_ n12_; clear hb hbox hg; obtain ⟨Ao35, co35, eo35⟩ := Kd.S_slice HO875.out; subst eo35; have hnb36 := NB876_859.out; have hnc36 := NB859_876.out; have hnb37 := NB876_872.out; have hnc37 := NB872_876.out; have hcz38_0 : w34.cell? ⟨gb876, 0, none⟩ = some (.slice none 0 0) := (blk_cell BK876.out 0).trans rfl; have hfz38_0 := blk_frozen BK876.out 0) | ((with_reducible refine gate_callee (f := 28) rfl ?_); refine goesL_ (some 36) rfl rfl Try.func28 (by kernel_rfl) rfl #[.slice A1 l1.length c1] rfl (by (try simp only [List.map_toArray, List.map_cons, List.map_nil]); first | done | rfl | (simp only [List.length_drop, List.length_take]; rfl)) ?_; (with_reducible refine (laws_toLoanS.calls k _ _ l1 t877 _ ?side1 ?side2 A17.out).mono ?_); (case side1 => exact Kd.C_below HR1.out (by repeat (first | (with_reducible first | exact HB.out | apply below_alloc | apply pw_below_drewN | apply below_drew1 | refine below_set ?_ GE859.out | refine below_set ?_ GE872.out | refine below_set ?_ GE876.out) | exact HB.out))); (case side2 => exact HC1.out); rintro e w39 ⟨v878, rfl, ho0, hb⟩; refine ⟨_, rfl, ?_⟩; have n0_ := Aside0.mk (Kd.S_below (by (with_reducible repeat (first | apply Kd.S_alloc | apply Kd.S_drewN | apply Kd.S_drew)); exact (Kd.S_mono (Kd.S_far (p := ⟨gb876, 0, none⟩) (Kd.S_types HO864.out BK876.out (by decide)) (fun _ hk => hk.2) (.slice Ao35 t873.length co35)) (fun _ h_ => h_.1))) hb); have n1_ := Aside0.mk (Kd.R_elder' (by (with_reducible repeat (first | apply Kd.R_alloc | apply Kd.R_drewN | apply Kd.R_drew)); exact (Kd.R_mono (Kd.R_far (p := ⟨gb876, 0, none⟩) (Kd.R_types HO867.out BK876.out (by decide)) (fun _ hk => hk.2) (.slice Ao35 t873.length co35)) (fun _ h_ => h_.1))) (Kd.R_base ho0) hb); have n2_ := Aside0.mk (Kd.S_below (by (with_reducible repeat (first | apply Kd.S_alloc | apply Kd.S_drewN | apply Kd.S_drew)); exact (Kd.S_mono (Kd.S_far (p := ⟨gb876, 0, none⟩) (Kd.S_types HO875.out BK876.out (by decide)) (fun _ hk => hk.2) (.slice Ao35 t873.length co35)) (fun _ h_ => h_.1))) hb); have n3_ := Aside0.mk (Kd.R_lower (Kd.R_new' ho0 (Kd.R_lt (by (with_reducible repeat (first | apply Kd.R_alloc | apply Kd.R_drewN | apply Kd.R_drew)); exact (Kd.R_mono (Kd.R_far (p := ⟨gb876, 0, none⟩) (Kd.R_types HO867.out BK876.out (by decide)) (fun _ hk => hk.2) (.slice Ao35 t873.length co35)) (fun _ h_ => h_.1))))) (below_size (by repeat (first | (with_reducible first | exact HB.out | apply below_alloc | apply pw_below_drewN | apply below_drew1 | refine below_set ?_ GE859.out | refine below_set ?_ GE872.out | refine below_set ?_ GE876.out) | exact HB.out)))); have n4_ := Aside0.mk (blk_below (g := gb859) (o := .cells #[.slice A0_0 l0_0.length c0_0] 49 (0, 0)) (by (with_reducible repeat (first | refine blk_drewN ?_ _ | refine blk_drew ?_ | refine blk_alloc ?_ _)); refine blk_far ?_ NB859_876.out _; (with_reducible repeat (first | refine blk_drewN ?_ _ | refine blk_drew ?_ | refine blk_alloc ?_ _)); exact BK859.out) hb); have n5_ := Aside0.mk (blk_below (g := gb872) (o := .cells #[.int .i64 t869, .int .i64 t870] 75 (0, 0)) (by (with_reducible repeat (first | refine blk_drewN ?_ _ | refine blk_drew ?_ | refine blk_alloc ?_ _)); refine blk_far ?_ NB872_876.out _; (with_reducible repeat (first | refine blk_drewN ?_ _ | refine blk_drew ?_ | refine blk_alloc ?_ _)); exact BK872.out) hb); have n6_ := Aside0.mk (blk_below (g := gb876) (o := .cells #[.slice Ao35 t873.length co35] 26 (0, 0)) (by (with_reducible repeat (first | refine blk_drewN ?_ _ | refine blk_drew ?_ | refine blk_alloc ?_ _)); refine blk_put (cs := #[.slice none 0 0]) ?_ 0 _ rfl; (with_reducible repeat (first | refine blk_drewN ?_ _ | refine blk_drew ?_ | refine blk_alloc ?_ _)); exact BK876.out) hb); have n7_ := Aside0.mk (below_step (by repeat (first | (with_reducible first | exact HB.out | apply below_alloc | apply pw_below_drewN | apply below_drew1 | refine below_set ?_ GE859.out | refine below_set ?_ GE872.out | refine below_set ?_ GE876.out) | exact HB.out)) hb); clear HO864; clear HO867; clear HO875; clear BK859; clear BK872; clear BK876; clear HB; have HO864 := n0_; have HO867 := n1_; have HO875 := n2_; have HO879 := n3_; have BK859 := n4_; have BK872 := n5_; have BK876 := n6_; have HB := n7_; clear n0_ n1_ n2_ n3_ n4_ n5_ n6_ n7_; (try clear hb); (try clear hb2); (try clear hk); (try clear hi); (try clear ho0); have hcz40_0 : w39.cell? ⟨gb876, 0, none⟩ = some (.slice Ao35 t873.length co35) := (blk_cell BK876.out 0).trans rfl; have hfz40_0 := blk_frozen BK876.out 0; obtain ⟨Ao41, co41, eo41⟩ := Kd.R_slice HO879.out; subst eo41) | ((with_reducible refine gate_callee (f := 45) rfl ?_); refine goesL_ (some 40) rfl rfl Try.func45 (by kernel_rfl) rfl #[.agg #[.slice Ao35 t873.length co35], .slice Ao41 t877.length co41] rfl (by (try simp only [List.map_toArray, List.map_cons, List.map_nil]); first | done | rfl | (simp only [List.length_drop, List.length_take]; rfl)) ?_; (with_reducible refine (impl_FirstClash.calls k _ _ t873 _ _ t877 t880 t881 t882 t883 _ ?side1 ?side2 ?side3 ?side4 A18.out).mono ?_); (case side1 => repeat (first | exact (Kd.S_reads' HO875.out).2.2 | (with_reducible refine Kd.C_alloc ?_ _) | (with_reducible refine Kd.C_drewN ?_ _) | (with_reducible refine Kd.C_drew ?_))); (case side2 => exact (Kd.S_reads' HO875.out).2.1); (case side3 => repeat (first | exact (Kd.R_reads' HO879.out).2.2 | (with_reducible refine Kd.C_alloc ?_ _) | (with_reducible refine Kd.C_drewN ?_ _) | (with_reducible refine Kd.C_drew ?_))); (case side4 => exact (Kd.R_reads' HO879.out).2.1); rintro e w42 ⟨rfl, hb⟩; refine ⟨_, rfl, ?_⟩; have n0_ := Aside0.mk (Kd.S_below (by (with_reducible repeat (first | apply Kd.S_alloc | apply Kd.S_drewN | apply Kd.S_drew)); exact HO864.out) hb); have n1_ := Aside0.mk (Kd.R_below (by (with_reducible repeat (first | apply Kd.R_alloc | apply Kd.R_drewN | apply Kd.R_drew)); exact HO867.out) hb); have n2_ := Aside0.mk (Kd.S_below (by (with_reducible repeat (first | apply Kd.S_alloc | apply Kd.S_drewN | apply Kd.S_drew)); exact HO875.out) hb); have n3_ := Aside0.mk (Kd.R_below (by (with_reducible repeat (first | apply Kd.R_alloc | apply Kd.R_drewN | apply Kd.R_drew)); exact HO879.out) hb); have n4_ := Aside0.mk (blk_below (g := gb859) (o := .cells #[.slice A0_0 l0_0.length c0_0] 49 (0, 0)) (by (with_reducible repeat (first | refine blk_drewN ?_ _ | refine blk_drew ?_ | refine blk_alloc ?_ _)); exact BK859.out) hb); have n5_ := Aside0.mk (blk_below (g := gb872) (o := .cells #[.int .i64 t869, .int .i64 t870] 75 (0, 0)) (by (with_reducible repeat (first | refine blk_drewN ?_ _ | refine blk_drew ?_ | refine blk_alloc ?_ _)); exact BK872.out) hb); have n6_ := Aside0.mk (blk_below (g := gb876) (o := .cells #[.slice Ao35 t873.length co35] 26 (0, 0)) (by (with_reducible repeat (first | refine blk_drewN ?_ _ | refine blk_drew ?_ | refine blk_alloc ?_ _)); exact BK876.out) hb); have n7_ := Aside0.mk (below_step (by repeat (first | (with_reducible first | exact HB.out | apply below_alloc | apply pw_below_drewN | apply below_drew1 | refine below_set ?_ GE859.out | refine below_set ?_ GE872.out | refine below_set ?_ GE876.out) | exact HB.out)) hb); clear HO864; clear HO867; clear HO875; clear HO879; clear BK859; clear BK872; clear BK876; clear HB; have HO864 := n0_; have HO867 := n1_; have HO875 := n2_; have HO879 := n3_; have BK859 := n4_; have BK872 := n5_; have BK876 := n6_; have HB := n7_; clear n0_ n1_ n2_ n3_ n4_ n5_ n6_ n7_; (try clear hb); (try clear hb2); (try clear hk); (try clear hi)) | ((with_reducible refine gate_dst (N := 12) rfl ?_); refine box_event ?hg (N := 12) ?hd (cs := #[.int .i64 0, .int .i64 0]) (t := 75) ?hr ?_; (case hd => rfl); (case hg => rfl); (case hr => first | (go_simp; done) | (go_simp; rfl)); intro gb884 hg w43 hbox hb; have n0_ := Aside0.mk (Kd.S_below (by (with_reducible repeat (first | apply Kd.S_alloc | apply Kd.S_drewN | apply Kd.S_drew)); exact HO864.out) hb); have n1_ := Aside0.mk (Kd.R_below (by (with_reducible repeat (first | apply Kd.R_alloc | apply Kd.R_drewN | apply Kd.R_drew)); exact HO867.out) hb); have n2_ := Aside0.mk (Kd.S_below (by (with_reducible repeat (first | apply Kd.S_alloc | apply Kd.S_drewN | apply Kd.S_drew)); exact HO875.out) hb); have n3_ := Aside0.mk (Kd.R_below (by (with_reducible repeat (first | apply Kd.R_alloc | apply Kd.R_drewN | apply Kd.R_drew)); exact HO879.out) hb); have n4_ := Aside0.mk (blk_below (g := gb859) (o := .cells #[.slice A0_0 l0_0.length c0_0] 49 (0, 0)) (by (with_reducible repeat (first | refine blk_drewN ?_ _ | refine blk_drew ?_ | refine blk_alloc ?_ _)); exact BK859.out) hb); have n5_ := Aside0.mk (blk_below (g := gb872) (o := .cells #[.int .i64 t869, .int .i64 t870] 75 (0, 0)) (by (with_reducible repeat (first | refine blk_drewN ?_ _ | refine blk_drew ?_ | refine blk_alloc ?_ _)); exact BK872.out) hb); have n6_ := Aside0.mk (blk_below (g := gb876) (o := .cells #[.slice Ao35 t873.length co35] 26 (0, 0)) (by (with_reducible repeat (first | refine blk_drewN ?_ _ | refine blk_drew ?_ | refine blk_alloc ?_ _)); exact BK876.out) hb); have n7_ := Aside0.mk (below_step (by repeat (first | (with_reducible first | exact HB.out | apply below_alloc | apply pw_below_drewN | apply below_drew1 | refine below_set ?_ GE859.out | refine below_set ?_ GE872.out | refine below_set ?_ GE876.out) | exact HB.out)) hb); have n8_ := Aside0.mk (hbox); have n9_ := Aside0.mk ((by rw [hg]; exact (below_size (by repeat (first | (with_reducible first | exact HB.out | apply below_alloc | apply pw_below_drewN | apply below_drew1 | refine below_set ?_ GE859.out | refine below_set ?_ GE872.out | refine below_set ?_ GE876.out) | exact HB.out))) : w.heap.size ≤ gb884)); have n10_ := Aside0.mk ((by rw [hg]; exact (below_size (by repeat (first | (with_reducible first | exact HB.out | apply below_alloc | apply pw_below_drewN | apply below_drew1 | refine below_set ?_ GE859.out | refine below_set ?_ GE872.out | refine below_set ?_ GE876.out) | exact HB.out))) : w.heap.size ≤ gb884)); have n11_ := Aside0.mk ((by rw [hg]; exact Nat.ne_of_lt (blk_lt (g := gb859) (o := .cells #[.slice A0_0 l0_0.length c0_0] 49 (0, 0)) (by (with_reducible repeat (first | refine blk_drewN ?_ _ | refine blk_drew ?_ | refine blk_alloc ?_ _)); exact BK859.out)) : gb859 ≠ gb884)); have n12_ := Aside0.mk ((by rw [hg]; exact Nat.ne_of_gt (blk_lt (g := gb859) (o := .cells #[.slice A0_0 l0_0.length c0_0] 49 (0, 0)) (by (with_reducible repeat (first | refine blk_drewN ?_ _ | refine blk_drew ?_ | refine blk_alloc ?_ _)); exact BK859.out)) : gb884 ≠ gb859)); have n13_ := Aside0.mk ((by rw [hg]; exact Nat.ne_of_lt (blk_lt (g := gb872) (o := .cells #[.int .i64 t869, .int .i64 t870] 75 (0, 0)) (by (with_reducible repeat (first | refine blk_drewN ?_ _ | refine blk_drew ?_ | refine blk_alloc ?_ _)); exact BK872.out)) : gb872 ≠ gb884)); have n14_ := Aside0.mk ((by rw [hg]; exact Nat.ne_of_gt (blk_lt (g := gb872) (o := .cells #[.int .i64 t869, .int .i64 t870] 75 (0, 0)) (by (with_reducible repeat (first | refine blk_drewN ?_ _ | refine blk_drew ?_ | refine blk_alloc ?_ _)); exact BK872.out)) : gb884 ≠ gb872)); have n15_ := Aside0.mk ((by rw [hg]; exact Nat.ne_of_lt (blk_lt (g := gb876) (o := .cells #[.slice Ao35 t873.length co35] 26 (0, 0)) (by (with_reducible repeat (first | refine blk_drewN ?_ _ | refine blk_drew ?_ | refine blk_alloc ?_ _)); exact BK876.out)) : gb876 ≠ gb884)); have n16_ := Aside0.mk ((by rw [hg]; exact Nat.ne_of_gt (blk_lt (g := gb876) (o := .cells #[.slice Ao35 t873.length co35] 26 (0, 0)) (by (with_reducible repeat (first | refine blk_drewN ?_ _ | refine blk_drew ?_ | refine blk_alloc ?_ _)); exact BK876.out)) : gb884 ≠ gb876)); clear HO864; clear HO867; clear HO875; clear HO879; clear BK859; clear BK872; clear BK876; clear HB; have HO864 := n0_; have HO867 := n1_; have HO875 := n2_; have HO879 := n3_; have BK859 := n4_; have BK872 := n5_; have BK876 := n6_; have HB := n7_; have BK884 := n8_; have GW884 := n9_; have GE884 := n10_; have NB859_884 := n11_; have NB884_859 := n12_; have NB872_884 := n13_; have NB884_872 := n14_; have NB876_884 := n15_; have NB884_876 := n16_; clear n0_ n1_ n2_ n3_ n4_ n5_ n6_ n7_ n8_ n9_ n10_ n11_ n12_ n13_ n14_ n15_ n16_; clear hb hbox hg; have hnb44 := NB884_859.out; have hnc44 := NB859_884.out; have hnb45 := NB884_872.out; have hnc45 := NB872_884.out; have hnb46 := NB884_876.out; have hnc46 := NB876_884.out; have hcz47_0 : w43.cell? ⟨gb884, 0, none⟩ = some (.int .i64 0) := (blk_cell BK884.out 0).trans rfl; have hcz47_1 : w43.cell? ⟨gb884, 1, none⟩ = some (.int .i64 0) := (blk_cell BK884.out 1).trans rfl; have hfz47_0 := blk_frozen BK884.out 0; have hfz47_1 := blk_frozen BK884.out 1))
      (try simp only [Act.put, List.setIfInBounds_toArray, List.set_cons_zero, List.set_cons_succ])
      go_cut [57] (fun v57 wc => ∃ (kq : Nat) (x57_18 : Bool), v57 = .bool x57_18 ∧ Aside0 (laws_FnExactFirstClash.j0 kq l1 t877 x57_18 l0_0 t873 = some r) ∧ Aside0 (kq ≤ k) ∧ Aside0 (Kd.R kimplLoan 30 wc w.heap.size (fun _ => True) (.slice Ao41 t877.length co41) t877) ∧ Aside0 (Kd.S (Kd.slice 5 (Kd.int .u8)) 22 wc w.heap.size (fun _ => True) (.slice Ao35 t873.length co35) t873) ∧ Aside0 (wc.heap[gb859]? = some (.cells #[(.slice A0_0 l0_0.length c0_0)] 49 (0, 0))) ∧ Aside0 (wc.heap[gb872]? = some (.cells #[.int .i64 t869, .int .i64 t870] 75 (0, 0))) ∧ Aside0 (wc.heap[gb876]? = some (.cells #[(.slice Ao35 t873.length co35)] 26 (0, 0))) ∧ Aside0 (wc.heap[gb884]? = some (.cells #[.int .i64 t881, .int .i64 t882] 75 (0, 0))) ∧ Aside0 (Below w.heap.size w wc))
      case first =>
        have H := HC19.out
        clear HC19
        by_cases c48 : t880 = t868
        · rw [if_pos c48] at H
          have c48b0 : (t880 == t868) = true := beq_iff_eq.mpr c48
          have c48b1 : (t880 != t868) = false := bne_eq_false_iff_eq.mpr c48
          clear c48
          (first | rw [c48b0] | (simp only [i64_w, i32_w]; rw [c48b0]) | skip)
          replace H := Option.bind_eq_some_iff.mp H
          obtain ⟨t885, A490, H⟩ := H
          replace H : (if t885 = true then (laws_FnExactFirstClash.j0 k l1 t877 (t883 != t871) l0_0 t873) else (laws_FnExactFirstClash.j0 k l1 t877 true l0_0 t873)) = some r := H
          have A49 := Aside0.mk A490
          clear A490
          by_cases c50 : t885 = true
          · subst c50
            have H1 : (laws_FnExactFirstClash.j0 k l1 t877 (t883 != t871) l0_0 t873) = some r := by rw [if_pos rfl] at H; exact H
            clear H
            have H := H1
            clear H1
            have H' := Aside0.mk H
            clear H
            have hnb51 := NB884_859.out
            have hnc51 := NB859_884.out
            have hnb52 := NB884_872.out
            have hnc52 := NB872_884.out
            have hnb53 := NB884_876.out
            have hnc53 := NB876_884.out
            have hcz54_0 : w43.cell? ⟨gb884, 0, none⟩ = some (.int .i64 0) := (blk_cell BK884.out 0).trans rfl
            have hcz54_1 : w43.cell? ⟨gb884, 1, none⟩ = some (.int .i64 0) := (blk_cell BK884.out 1).trans rfl
            have hfz54_0 := blk_frozen BK884.out 0
            have hfz54_1 := blk_frozen BK884.out 1
            have hnb55 := NB872_859.out
            have hnc55 := NB859_872.out
            have hnb56 := NB872_876.out
            have hnc56 := NB876_872.out
            have hcz57_0 : w43.cell? ⟨gb872, 0, none⟩ = some (.int .i64 t869) := (blk_cell BK872.out 0).trans rfl
            have hcz57_1 : w43.cell? ⟨gb872, 1, none⟩ = some (.int .i64 t870) := (blk_cell BK872.out 1).trans rfl
            have hfz57_0 := blk_frozen BK872.out 0
            have hfz57_1 := blk_frozen BK872.out 1
            go_wp2_with (first | (go_at_call 46; (with_reducible refine (laws_eqIntA2.calls t881 t882 t869 t870 true _ A49.out).mono ?_); rintro e w58 ⟨rfl, hb⟩; have n0_ := Aside0.mk (Kd.S_below (by (with_reducible repeat (first | apply Kd.S_alloc | apply Kd.S_drewN | apply Kd.S_drew)); exact (Kd.S_mono (Kd.S_far (p := ⟨gb884, 1, none⟩) (Kd.S_far (p := ⟨gb884, 0, none⟩) (Kd.S_types HO864.out BK884.out (by decide)) (fun _ hk => hk.2) (.int .i64 t881)) (fun _ hk => hk.2) (.int .i64 t882)) (fun _ h_ => h_.1))) hb); have n1_ := Aside0.mk (Kd.R_below (by (with_reducible repeat (first | apply Kd.R_alloc | apply Kd.R_drewN | apply Kd.R_drew)); exact (Kd.R_mono (Kd.R_far (p := ⟨gb884, 1, none⟩) (Kd.R_far (p := ⟨gb884, 0, none⟩) (Kd.R_types HO867.out BK884.out (by decide)) (fun _ hk => hk.2) (.int .i64 t881)) (fun _ hk => hk.2) (.int .i64 t882)) (fun _ h_ => h_.1))) hb); have n2_ := Aside0.mk (Kd.S_below (by (with_reducible repeat (first | apply Kd.S_alloc | apply Kd.S_drewN | apply Kd.S_drew)); exact (Kd.S_mono (Kd.S_far (p := ⟨gb884, 1, none⟩) (Kd.S_far (p := ⟨gb884, 0, none⟩) (Kd.S_types HO875.out BK884.out (by decide)) (fun _ hk => hk.2) (.int .i64 t881)) (fun _ hk => hk.2) (.int .i64 t882)) (fun _ h_ => h_.1))) hb); have n3_ := Aside0.mk (Kd.R_below (by (with_reducible repeat (first | apply Kd.R_alloc | apply Kd.R_drewN | apply Kd.R_drew)); exact (Kd.R_mono (Kd.R_far (p := ⟨gb884, 1, none⟩) (Kd.R_far (p := ⟨gb884, 0, none⟩) (Kd.R_types HO879.out BK884.out (by decide)) (fun _ hk => hk.2) (.int .i64 t881)) (fun _ hk => hk.2) (.int .i64 t882)) (fun _ h_ => h_.1))) hb); have n4_ := Aside0.mk (blk_below (g := gb859) (o := .cells #[.slice A0_0 l0_0.length c0_0] 49 (0, 0)) (by (with_reducible repeat (first | refine blk_drewN ?_ _ | refine blk_drew ?_ | refine blk_alloc ?_ _)); refine blk_far ?_ NB859_884.out _; (with_reducible repeat (first | refine blk_drewN ?_ _ | refine blk_drew ?_ | refine blk_alloc ?_ _)); refine blk_far ?_ NB859_884.out _; (with_reducible repeat (first | refine blk_drewN ?_ _ | refine blk_drew ?_ | refine blk_alloc ?_ _)); exact BK859.out) hb); have n5_ := Aside0.mk (blk_below (g := gb872) (o := .cells #[.int .i64 t869, .int .i64 t870] 75 (0, 0)) (by (with_reducible repeat (first | refine blk_drewN ?_ _ | refine blk_drew ?_ | refine blk_alloc ?_ _)); refine blk_far ?_ NB872_884.out _; (with_reducible repeat (first | refine blk_drewN ?_ _ | refine blk_drew ?_ | refine blk_alloc ?_ _)); refine blk_far ?_ NB872_884.out _; (with_reducible repeat (first | refine blk_drewN ?_ _ | refine blk_drew ?_ | refine blk_alloc ?_ _)); exact BK872.out) hb); have n6_ := Aside0.mk (blk_below (g := gb876) (o := .cells #[.slice Ao35 t873.length co35] 26 (0, 0)) (by (with_reducible repeat (first | refine blk_drewN ?_ _ | refine blk_drew ?_ | refine blk_alloc ?_ _)); refine blk_far ?_ NB876_884.out _; (with_reducible repeat (first | refine blk_drewN ?_ _ | refine blk_drew ?_ | refine blk_alloc ?_ _)); refine blk_far ?_ NB876_884.out _; (with_reducible repeat (first | refine blk_drewN ?_ _ | refine blk_drew ?_ | refine blk_alloc ?_ _)); exact BK876.out) hb); have n7_ := Aside0.mk (blk_below (g := gb884) (o := .cells #[.int .i64 t881, .int .i64 t882] 75 (0, 0)) (by (with_reducible repeat (first | refine blk_drewN ?_ _ | refine blk_drew ?_ | refine blk_alloc ?_ _)); refine blk_put (cs := #[.int .i64 t881, .int .i64 0]) ?_ 1 _ rfl; (with_reducible repeat (first | refine blk_drewN ?_ _ | refine blk_drew ?_ | refine blk_alloc ?_ _)); refine blk_put (cs := #[.int .i64 0, .int .i64 0]) ?_ 0 _ rfl; (with_reducible repeat (first | refine blk_drewN ?_ _ | refine blk_drew ?_ | refine blk_alloc ?_ _)); exact BK884.out) hb); have n8_ := Aside0.mk (below_step (by repeat (first | (with_reducible first | exact HB.out | apply below_alloc | apply pw_below_drewN | apply below_drew1 | refine below_set ?_ GE859.out | refine below_set ?_ GE872.out | refine below_set ?_ GE876.out | refine below_set ?_ GE884.out) | exact HB.out)) hb); clear HO864; clear HO867; clear HO875; clear HO879; clear BK859; clear BK872; clear BK876; clear BK884; clear HB; have HO864 := n0_; have HO867 := n1_; have HO875 := n2_; have HO879 := n3_; have BK859 := n4_; have BK872 := n5_; have BK876 := n6_; have BK884 := n7_; have HB := n8_; clear n0_ n1_ n2_ n3_ n4_ n5_ n6_ n7_ n8_; (try clear hb); (try clear hb2); (try clear hk); (try clear hi)))
            go_meet
            case rel => exact ⟨_, ((t883 != t871)), (by first | rfl | (simp; done) | (simp [*]; done)), H', ⟨by first | omega | exact Nat.le_refl _⟩, ⟨by (with_reducible repeat (first | apply Kd.R_alloc | apply Kd.R_drewN | apply Kd.R_drew)); exact Kd.R_mono HO879.out (fun _ hk => trivial)⟩, ⟨by (with_reducible repeat (first | apply Kd.S_alloc | apply Kd.S_drewN | apply Kd.S_drew)); exact Kd.S_mono HO875.out (fun _ hk => trivial)⟩, ⟨by (with_reducible repeat (first | refine blk_drewN ?_ _ | refine blk_drew ?_ | refine blk_alloc ?_ _)); exact BK859.out⟩, ⟨by (with_reducible repeat (first | refine blk_drewN ?_ _ | refine blk_drew ?_ | refine blk_alloc ?_ _)); exact BK872.out⟩, ⟨by (with_reducible repeat (first | refine blk_drewN ?_ _ | refine blk_drew ?_ | refine blk_alloc ?_ _)); exact BK876.out⟩, ⟨by (with_reducible repeat (first | refine blk_drewN ?_ _ | refine blk_drew ?_ | refine blk_alloc ?_ _)); exact BK884.out⟩, ⟨by repeat (first | (with_reducible first | exact HB.out | apply below_alloc | apply pw_below_drewN | apply below_drew1 | refine below_set ?_ GE859.out | refine below_set ?_ GE872.out | refine below_set ?_ GE876.out | refine below_set ?_ GE884.out) | exact HB.out)⟩⟩
          · replace c50 := Bool.eq_false_iff.mpr c50
            subst c50
            have H1 : (laws_FnExactFirstClash.j0 k l1 t877 true l0_0 t873) = some r := by rw [if_neg (show ¬ (false = true) by decide)] at H; exact H
            clear H
            have H := H1
            clear H1
            have H' := Aside0.mk H
            clear H
            have hnb59 := NB884_859.out
            have hnc59 := NB859_884.out
            have hnb60 := NB884_872.out
            have hnc60 := NB872_884.out
            have hnb61 := NB884_876.out
            have hnc61 := NB876_884.out
            have hcz62_0 : w43.cell? ⟨gb884, 0, none⟩ = some (.int .i64 0) := (blk_cell BK884.out 0).trans rfl
            have hcz62_1 : w43.cell? ⟨gb884, 1, none⟩ = some (.int .i64 0) := (blk_cell BK884.out 1).trans rfl
            have hfz62_0 := blk_frozen BK884.out 0
            have hfz62_1 := blk_frozen BK884.out 1
            have hnb63 := NB872_859.out
            have hnc63 := NB859_872.out
            have hnb64 := NB872_876.out
            have hnc64 := NB876_872.out
            have hcz65_0 : w43.cell? ⟨gb872, 0, none⟩ = some (.int .i64 t869) := (blk_cell BK872.out 0).trans rfl
            have hcz65_1 : w43.cell? ⟨gb872, 1, none⟩ = some (.int .i64 t870) := (blk_cell BK872.out 1).trans rfl
            have hfz65_0 := blk_frozen BK872.out 0
            have hfz65_1 := blk_frozen BK872.out 1
            go_wp2_with (first | (go_at_call 46; (with_reducible refine (laws_eqIntA2.calls t881 t882 t869 t870 false _ A49.out).mono ?_); rintro e w66 ⟨rfl, hb⟩; have n0_ := Aside0.mk (Kd.S_below (by (with_reducible repeat (first | apply Kd.S_alloc | apply Kd.S_drewN | apply Kd.S_drew)); exact (Kd.S_mono (Kd.S_far (p := ⟨gb884, 1, none⟩) (Kd.S_far (p := ⟨gb884, 0, none⟩) (Kd.S_types HO864.out BK884.out (by decide)) (fun _ hk => hk.2) (.int .i64 t881)) (fun _ hk => hk.2) (.int .i64 t882)) (fun _ h_ => h_.1))) hb); have n1_ := Aside0.mk (Kd.R_below (by (with_reducible repeat (first | apply Kd.R_alloc | apply Kd.R_drewN | apply Kd.R_drew)); exact (Kd.R_mono (Kd.R_far (p := ⟨gb884, 1, none⟩) (Kd.R_far (p := ⟨gb884, 0, none⟩) (Kd.R_types HO867.out BK884.out (by decide)) (fun _ hk => hk.2) (.int .i64 t881)) (fun _ hk => hk.2) (.int .i64 t882)) (fun _ h_ => h_.1))) hb); have n2_ := Aside0.mk (Kd.S_below (by (with_reducible repeat (first | apply Kd.S_alloc | apply Kd.S_drewN | apply Kd.S_drew)); exact (Kd.S_mono (Kd.S_far (p := ⟨gb884, 1, none⟩) (Kd.S_far (p := ⟨gb884, 0, none⟩) (Kd.S_types HO875.out BK884.out (by decide)) (fun _ hk => hk.2) (.int .i64 t881)) (fun _ hk => hk.2) (.int .i64 t882)) (fun _ h_ => h_.1))) hb); have n3_ := Aside0.mk (Kd.R_below (by (with_reducible repeat (first | apply Kd.R_alloc | apply Kd.R_drewN | apply Kd.R_drew)); exact (Kd.R_mono (Kd.R_far (p := ⟨gb884, 1, none⟩) (Kd.R_far (p := ⟨gb884, 0, none⟩) (Kd.R_types HO879.out BK884.out (by decide)) (fun _ hk => hk.2) (.int .i64 t881)) (fun _ hk => hk.2) (.int .i64 t882)) (fun _ h_ => h_.1))) hb); have n4_ := Aside0.mk (blk_below (g := gb859) (o := .cells #[.slice A0_0 l0_0.length c0_0] 49 (0, 0)) (by (with_reducible repeat (first | refine blk_drewN ?_ _ | refine blk_drew ?_ | refine blk_alloc ?_ _)); refine blk_far ?_ NB859_884.out _; (with_reducible repeat (first | refine blk_drewN ?_ _ | refine blk_drew ?_ | refine blk_alloc ?_ _)); refine blk_far ?_ NB859_884.out _; (with_reducible repeat (first | refine blk_drewN ?_ _ | refine blk_drew ?_ | refine blk_alloc ?_ _)); exact BK859.out) hb); have n5_ := Aside0.mk (blk_below (g := gb872) (o := .cells #[.int .i64 t869, .int .i64 t870] 75 (0, 0)) (by (with_reducible repeat (first | refine blk_drewN ?_ _ | refine blk_drew ?_ | refine blk_alloc ?_ _)); refine blk_far ?_ NB872_884.out _; (with_reducible repeat (first | refine blk_drewN ?_ _ | refine blk_drew ?_ | refine blk_alloc ?_ _)); refine blk_far ?_ NB872_884.out _; (with_reducible repeat (first | refine blk_drewN ?_ _ | refine blk_drew ?_ | refine blk_alloc ?_ _)); exact BK872.out) hb); have n6_ := Aside0.mk (blk_below (g := gb876) (o := .cells #[.slice Ao35 t873.length co35] 26 (0, 0)) (by (with_reducible repeat (first | refine blk_drewN ?_ _ | refine blk_drew ?_ | refine blk_alloc ?_ _)); refine blk_far ?_ NB876_884.out _; (with_reducible repeat (first | refine blk_drewN ?_ _ | refine blk_drew ?_ | refine blk_alloc ?_ _)); refine blk_far ?_ NB876_884.out _; (with_reducible repeat (first | refine blk_drewN ?_ _ | refine blk_drew ?_ | refine blk_alloc ?_ _)); exact BK876.out) hb); have n7_ := Aside0.mk (blk_below (g := gb884) (o := .cells #[.int .i64 t881, .int .i64 t882] 75 (0, 0)) (by (with_reducible repeat (first | refine blk_drewN ?_ _ | refine blk_drew ?_ | refine blk_alloc ?_ _)); refine blk_put (cs := #[.int .i64 t881, .int .i64 0]) ?_ 1 _ rfl; (with_reducible repeat (first | refine blk_drewN ?_ _ | refine blk_drew ?_ | refine blk_alloc ?_ _)); refine blk_put (cs := #[.int .i64 0, .int .i64 0]) ?_ 0 _ rfl; (with_reducible repeat (first | refine blk_drewN ?_ _ | refine blk_drew ?_ | refine blk_alloc ?_ _)); exact BK884.out) hb); have n8_ := Aside0.mk (below_step (by repeat (first | (with_reducible first | exact HB.out | apply below_alloc | apply pw_below_drewN | apply below_drew1 | refine below_set ?_ GE859.out | refine below_set ?_ GE872.out | refine below_set ?_ GE876.out | refine below_set ?_ GE884.out) | exact HB.out)) hb); clear HO864; clear HO867; clear HO875; clear HO879; clear BK859; clear BK872; clear BK876; clear BK884; clear HB; have HO864 := n0_; have HO867 := n1_; have HO875 := n2_; have HO879 := n3_; have BK859 := n4_; have BK872 := n5_; have BK876 := n6_; have BK884 := n7_; have HB := n8_; clear n0_ n1_ n2_ n3_ n4_ n5_ n6_ n7_ n8_; (try clear hb); (try clear hb2); (try clear hk); (try clear hi)))
            go_meet
            case rel => exact ⟨_, (true), (by first | rfl | (simp; done) | (simp [*]; done)), H', ⟨by first | omega | exact Nat.le_refl _⟩, ⟨by (with_reducible repeat (first | apply Kd.R_alloc | apply Kd.R_drewN | apply Kd.R_drew)); exact Kd.R_mono HO879.out (fun _ hk => trivial)⟩, ⟨by (with_reducible repeat (first | apply Kd.S_alloc | apply Kd.S_drewN | apply Kd.S_drew)); exact Kd.S_mono HO875.out (fun _ hk => trivial)⟩, ⟨by (with_reducible repeat (first | refine blk_drewN ?_ _ | refine blk_drew ?_ | refine blk_alloc ?_ _)); exact BK859.out⟩, ⟨by (with_reducible repeat (first | refine blk_drewN ?_ _ | refine blk_drew ?_ | refine blk_alloc ?_ _)); exact BK872.out⟩, ⟨by (with_reducible repeat (first | refine blk_drewN ?_ _ | refine blk_drew ?_ | refine blk_alloc ?_ _)); exact BK876.out⟩, ⟨by (with_reducible repeat (first | refine blk_drewN ?_ _ | refine blk_drew ?_ | refine blk_alloc ?_ _)); exact BK884.out⟩, ⟨by repeat (first | (with_reducible first | exact HB.out | apply below_alloc | apply pw_below_drewN | apply below_drew1 | refine below_set ?_ GE859.out | refine below_set ?_ GE872.out | refine below_set ?_ GE876.out | refine below_set ?_ GE884.out) | exact HB.out)⟩⟩
        · rw [if_neg c48] at H
          have c48b0 : (t880 == t868) = false := beq_eq_false_iff_ne.mpr c48
          have c48b1 : (t880 != t868) = true := bne_iff_ne.mpr c48
          (first | rw [c48b0] | (simp only [i64_w, i32_w]; rw [c48b0]) | skip)
          have H' := Aside0.mk H
          clear H
          go_wp2
          go_meet
          case rel => exact ⟨_, (true), (by first | rfl | (simp; done) | (simp [*]; done)), H', ⟨by first | omega | exact Nat.le_refl _⟩, ⟨by (with_reducible repeat (first | apply Kd.R_alloc | apply Kd.R_drewN | apply Kd.R_drew)); exact Kd.R_mono (Kd.R_far (p := ⟨gb884, 1, none⟩) (Kd.R_far (p := ⟨gb884, 0, none⟩) (Kd.R_types HO879.out BK884.out (by decide)) (fun _ hk => hk.2) (.int .i64 t881)) (fun _ hk => hk.2) (.int .i64 t882)) (fun _ hk => trivial)⟩, ⟨by (with_reducible repeat (first | apply Kd.S_alloc | apply Kd.S_drewN | apply Kd.S_drew)); exact Kd.S_mono (Kd.S_far (p := ⟨gb884, 1, none⟩) (Kd.S_far (p := ⟨gb884, 0, none⟩) (Kd.S_types HO875.out BK884.out (by decide)) (fun _ hk => hk.2) (.int .i64 t881)) (fun _ hk => hk.2) (.int .i64 t882)) (fun _ hk => trivial)⟩, ⟨by (with_reducible repeat (first | refine blk_drewN ?_ _ | refine blk_drew ?_ | refine blk_alloc ?_ _)); refine blk_far ?_ NB859_884.out _; (with_reducible repeat (first | refine blk_drewN ?_ _ | refine blk_drew ?_ | refine blk_alloc ?_ _)); refine blk_far ?_ NB859_884.out _; (with_reducible repeat (first | refine blk_drewN ?_ _ | refine blk_drew ?_ | refine blk_alloc ?_ _)); exact BK859.out⟩, ⟨by (with_reducible repeat (first | refine blk_drewN ?_ _ | refine blk_drew ?_ | refine blk_alloc ?_ _)); refine blk_far ?_ NB872_884.out _; (with_reducible repeat (first | refine blk_drewN ?_ _ | refine blk_drew ?_ | refine blk_alloc ?_ _)); refine blk_far ?_ NB872_884.out _; (with_reducible repeat (first | refine blk_drewN ?_ _ | refine blk_drew ?_ | refine blk_alloc ?_ _)); exact BK872.out⟩, ⟨by (with_reducible repeat (first | refine blk_drewN ?_ _ | refine blk_drew ?_ | refine blk_alloc ?_ _)); refine blk_far ?_ NB876_884.out _; (with_reducible repeat (first | refine blk_drewN ?_ _ | refine blk_drew ?_ | refine blk_alloc ?_ _)); refine blk_far ?_ NB876_884.out _; (with_reducible repeat (first | refine blk_drewN ?_ _ | refine blk_drew ?_ | refine blk_alloc ?_ _)); exact BK876.out⟩, ⟨by (with_reducible repeat (first | refine blk_drewN ?_ _ | refine blk_drew ?_ | refine blk_alloc ?_ _)); refine blk_put (cs := #[.int .i64 t881, .int .i64 0]) ?_ 1 _ rfl; (with_reducible repeat (first | refine blk_drewN ?_ _ | refine blk_drew ?_ | refine blk_alloc ?_ _)); refine blk_put (cs := #[.int .i64 0, .int .i64 0]) ?_ 0 _ rfl; (with_reducible repeat (first | refine blk_drewN ?_ _ | refine blk_drew ?_ | refine blk_alloc ?_ _)); exact BK884.out⟩, ⟨by repeat (first | (with_reducible first | exact HB.out | apply below_alloc | apply pw_below_drewN | apply below_drew1 | refine below_set ?_ GE859.out | refine below_set ?_ GE872.out | refine below_set ?_ GE876.out | refine below_set ?_ GE884.out) | exact HB.out)⟩⟩
      case rest =>
        clear HC19
        try clear c1
        try clear c2
        try clear p2
        try clear c3
        try clear c4
        try clear c4b0
        try clear c5
        try clear c6
        try clear c8
        try clear c9
        try clear c9b0
        try clear c24
        try clear c25
        try clear c27
        try clear c28
        try clear c30
        try clear c36
        try clear c37
        try clear c44
        try clear c45
        try clear c46
        try clear c48
        try clear c48b0
        try clear c48b1
        try clear c50
        try clear c51
        try clear c52
        try clear c53
        try clear c55
        try clear c56
        try clear c59
        try clear c60
        try clear c61
        try clear c63
        try clear c64
        try clear hcz11_0
        try clear hcz21_0
        try clear hcz23_0
        try clear hcz31_0
        try clear hcz31_1
        try clear hcz32_0
        try clear hcz38_0
        try clear hcz40_0
        try clear hcz47_0
        try clear hcz47_1
        try clear hcz54_0
        try clear hcz54_1
        try clear hcz57_0
        try clear hcz57_1
        try clear hcz62_0
        try clear hcz62_1
        try clear hcz65_0
        try clear hcz65_1
        try clear hcz6_0
        try clear hfz11_0
        try clear hfz21_0
        try clear hfz23_0
        try clear hfz31_0
        try clear hfz31_1
        try clear hfz32_0
        try clear hfz38_0
        try clear hfz40_0
        try clear hfz47_0
        try clear hfz47_1
        try clear hfz54_0
        try clear hfz54_1
        try clear hfz57_0
        try clear hfz57_1
        try clear hfz62_0
        try clear hfz62_1
        try clear hfz65_0
        try clear hfz65_1
        try clear hfz6_0
        obtain ⟨kq, x57_18, rfl, HA, HJ18, HO_10, HO_877000, BK859, BK872, BK876, BK884, HB⟩ := hcut
        cases kq with
        | zero => exact absurd HA.out (by simp [laws_FnExactFirstClash.j0])
        | succ kj18 =>
          have H := HA.out
          clear HA
          simp only [laws_FnExactFirstClash.j0] at H
          by_cases c67 : x57_18 = true
          · subst c67
            have H1 : (some false) = some r := by rw [if_pos rfl] at H; exact H
            clear H
            have H := H1
            clear H1
            obtain rfl := Option.some.inj H
            go_wp2
            go_ret
            exact ⟨by first | rfl | (simp [errW_none, errW_some] <;> rfl) | (simp [*, errW_none, errW_some] <;> rfl), by repeat (first | (with_reducible first | exact HB.out | apply below_alloc | apply pw_below_drewN | apply below_drew1 | refine below_set ?_ GE859.out | refine below_set ?_ GE872.out | refine below_set ?_ GE876.out | refine below_set ?_ GE884.out) | exact HB.out)⟩
          · replace c67 := Bool.eq_false_iff.mpr c67
            subst c67
            have H1 : ((laws_toMemory.f l0_0).bind fun t886 => ((laws_eqMemory.f kj18 t873 t886).bind fun t889 => (if t889 = true then ((laws_toLoanS.f kj18 l1).bind fun t890 => ((laws_eqLoanS.f kj18 t877 t890).bind fun t893 => (if t893 = true then (some true) else (some false)))) else (some false)))) = some r := by rw [if_neg (show ¬ (false = true) by decide)] at H; exact H
            clear H
            have H := H1
            clear H1
            replace H := Option.bind_eq_some_iff.mp H
            obtain ⟨t886, A680, H⟩ := H
            replace H : ((laws_eqMemory.f kj18 t873 t886).bind fun t889 => (if t889 = true then ((laws_toLoanS.f kj18 l1).bind fun t890 => ((laws_eqLoanS.f kj18 t877 t890).bind fun t893 => (if t893 = true then (some true) else (some false)))) else (some false))) = some r := H
            have A68 := Aside0.mk A680
            clear A680
            replace H := Option.bind_eq_some_iff.mp H
            obtain ⟨t889, A690, H⟩ := H
            replace H : (if t889 = true then ((laws_toLoanS.f kj18 l1).bind fun t890 => ((laws_eqLoanS.f kj18 t877 t890).bind fun t893 => (if t893 = true then (some true) else (some false)))) else (some false)) = some r := H
            have A69 := Aside0.mk A690
            clear A690
            by_cases c70 : t889 = true
            · subst c70
              have H1 : ((laws_toLoanS.f kj18 l1).bind fun t890 => ((laws_eqLoanS.f kj18 t877 t890).bind fun t893 => (if t893 = true then (some true) else (some false)))) = some r := by rw [if_pos rfl] at H; exact H
              clear H
              have H := H1
              clear H1
              replace H := Option.bind_eq_some_iff.mp H
              obtain ⟨t890, A710, H⟩ := H
              replace H : ((laws_eqLoanS.f kj18 t877 t890).bind fun t893 => (if t893 = true then (some true) else (some false))) = some r := H
              have A71 := Aside0.mk A710
              clear A710
              replace H := Option.bind_eq_some_iff.mp H
              obtain ⟨t893, A720, H⟩ := H
              replace H : (if t893 = true then (some true) else (some false)) = some r := H
              have A72 := Aside0.mk A720
              clear A720
              by_cases c73 : t893 = true
              · subst c73
                have H1 : (some true) = some r := by rw [if_pos rfl] at H; exact H
                clear H
                have H := H1
                clear H1
                obtain rfl := Option.some.inj H
                try go_wp2
                have n0_ := Aside0.mk (Kd.R_drew HO_10.out)
                have n1_ := Aside0.mk (Kd.S_drew HO_877000.out)
                have n2_ := Aside0.mk (blk_drew BK859.out)
                have n3_ := Aside0.mk (blk_drew BK872.out)
                have n4_ := Aside0.mk (blk_drew BK876.out)
                have n5_ := Aside0.mk (blk_drew BK884.out)
                have n6_ := Aside0.mk (below_drew1 HB.out)
                clear HO_10
                clear HO_877000
                clear BK859
                clear BK872
                clear BK876
                clear BK884
                clear HB
                have HO_10 := n0_
                have HO_877000 := n1_
                have BK859 := n2_
                have BK872 := n3_
                have BK876 := n4_
                have BK884 := n5_
                have HB := n6_
                clear n0_ n1_ n2_ n3_ n4_ n5_ n6_
                refine start_ (n := 5) (S := fun w' => w'.cell? ⟨gb876, 0, none⟩ = some (.slice Ao35 t873.length co35) ∧ w'.cell? ⟨gb859, 0, none⟩ = some (.slice A0_0 l0_0.length c0_0)) (ds := []) #[false, false, false, false, false] (by kernel_rfl) rfl rfl ⟨(blk_cell BK876.out 0).trans rfl, (blk_cell BK859.out 0).trans rfl⟩ (fun hHeld => ?_)
                generalize wc.drew = w74 at HO_10 HO_877000 BK859 BK872 BK876 BK884 HB hHeld ⊢
                refine take_ (i := 0) (N := some 58) (v := ?_) (a' := ?_) #[true, false, false, false, false] rfl rfl (by kernel_rfl) (fun _ _ _ h => h) (Or.inl ⟨by rfl, ?_⟩) hHeld ?_ ?_
                rotate_left
                · rintro w' ⟨s0, s1⟩
                  go_simp
                  with_reducible rfl
                rotate_left
                · simp only [Act.put, List.setIfInBounds_toArray, List.set_cons_zero, List.set_cons_succ, i64_w, i32_w]
                  rfl
                refine take_ (i := 1) (N := some 59) (v := ?_) (a' := ?_) #[true, true, false, false, false] rfl rfl (by kernel_rfl) (fun _ _ _ h => h) (Or.inl ⟨by rfl, ?_⟩) hHeld ?_ ?_
                rotate_left
                · rintro w' ⟨s0, s1⟩
                  go_simp
                  with_reducible rfl
                rotate_left
                · simp only [Act.put, List.setIfInBounds_toArray, List.set_cons_zero, List.set_cons_succ, i64_w, i32_w]
                  rfl
                refine one_ (i := 2) (N := some 60) #[true, true, true, false, false] rfl rfl (by kernel_rfl) (by decide) (fun K hK => ?_)
                refine goes_ Try.func27 (by kernel_rfl) rfl #[.agg #[.slice A0_0 l0_0.length c0_0]] (by rfl) rfl rfl (by (try simp only [List.map_toArray, List.map_cons, List.map_nil]); first | done | rfl | (simp only [List.length_drop, List.length_take]; rfl)) ?_
                with_reducible refine (laws_toMemory.calls _ _ l0_0 t886 _ ?side1 ?side2 A68.out).mono ?_
                (case side1 => repeat (first | exact (Kd.C_below HR0_0.out HB.out) | (with_reducible refine Kd.C_alloc ?_ _) | (with_reducible refine Kd.C_drewN ?_ _) | (with_reducible refine Kd.C_drew ?_)))
                (case side2 => exact HC0_0.out)
                rintro e w75 ⟨v887, rfl, ho0, hb⟩
                refine ⟨_, rfl, ?_⟩
                have n0_ := Aside0.mk (Kd.R_below (by (with_reducible repeat (first | apply Kd.R_alloc | apply Kd.R_drewN | apply Kd.R_drew)); exact HO_10.out) hb)
                have n1_ := Aside0.mk (Kd.S_elder' (by (with_reducible repeat (first | apply Kd.S_alloc | apply Kd.S_drewN | apply Kd.S_drew)); exact HO_877000.out) (Kd.S_base ho0) hb)
                have n2_ := Aside0.mk (Kd.S_lower (Kd.S_new' ho0 (Kd.S_lt (by (with_reducible repeat (first | apply Kd.S_alloc | apply Kd.S_drewN | apply Kd.S_drew)); exact HO_877000.out))) (below_size (by repeat (first | (with_reducible first | exact HB.out | apply below_alloc | apply pw_below_drewN | apply below_drew1 | refine below_set ?_ GE859.out | refine below_set ?_ GE872.out | refine below_set ?_ GE876.out | refine below_set ?_ GE884.out) | exact HB.out))))
                have n3_ := Aside0.mk (blk_below (g := gb859) (o := .cells #[.slice A0_0 l0_0.length c0_0] 49 (0, 0)) (by (with_reducible repeat (first | refine blk_drewN ?_ _ | refine blk_drew ?_ | refine blk_alloc ?_ _)); exact BK859.out) hb)
                have n4_ := Aside0.mk (blk_below (g := gb872) (o := .cells #[.int .i64 t869, .int .i64 t870] 75 (0, 0)) (by (with_reducible repeat (first | refine blk_drewN ?_ _ | refine blk_drew ?_ | refine blk_alloc ?_ _)); exact BK872.out) hb)
                have n5_ := Aside0.mk (blk_below (g := gb876) (o := .cells #[.slice Ao35 t873.length co35] 26 (0, 0)) (by (with_reducible repeat (first | refine blk_drewN ?_ _ | refine blk_drew ?_ | refine blk_alloc ?_ _)); exact BK876.out) hb)
                have n6_ := Aside0.mk (blk_below (g := gb884) (o := .cells #[.int .i64 t881, .int .i64 t882] 75 (0, 0)) (by (with_reducible repeat (first | refine blk_drewN ?_ _ | refine blk_drew ?_ | refine blk_alloc ?_ _)); exact BK884.out) hb)
                have n7_ := Aside0.mk (below_step (by repeat (first | (with_reducible first | exact HB.out | apply below_alloc | apply pw_below_drewN | apply below_drew1 | refine below_set ?_ GE859.out | refine below_set ?_ GE872.out | refine below_set ?_ GE876.out | refine below_set ?_ GE884.out) | exact HB.out)) hb)
                clear HO_10
                clear HO_877000
                clear BK859
                clear BK872
                clear BK876
                clear BK884
                clear HB
                have HO_10 := n0_
                have HO_877000 := n1_
                have HO888 := n2_
                have BK859 := n3_
                have BK872 := n4_
                have BK876 := n5_
                have BK884 := n6_
                have HB := n7_
                clear n0_ n1_ n2_ n3_ n4_ n5_ n6_ n7_
                (try clear hb)
                (try clear hb2)
                (try clear hk)
                (try clear hi)
                (try clear ho0)
                obtain ⟨Ao76, co76, eo76⟩ := Kd.S_slice HO888.out
                (first | subst eo76 | (injection eo76 with f1_ f2_ f3_; have f4_ := f1_.symm; have f5_ := f3_.symm; clear f1_ f2_ f3_; subst f4_; subst f5_))
                refine hK.out _ _ ⟨(blk_cell BK876.out 0).trans rfl, (blk_cell BK859.out 0).trans rfl⟩ (fun hHeld => ?_)
                clear hK K
                refine norm_ (a' := ?_) ?_ ?_
                rotate_left
                · show Act.put _ (some 60) _ = _
                  simp only [Act.put, List.setIfInBounds_toArray, List.set_cons_zero, List.set_cons_succ, i64_w, i32_w]
                  rfl
                refine one_ (i := 3) (N := some 61) #[true, true, true, true, false] rfl rfl (by kernel_rfl) (by decide) (fun K hK => ?_)
                refine goes_ Try.func31 (by kernel_rfl) rfl #[.agg #[.slice Ao35 t873.length co35], .agg #[.slice Ao76 t886.length co76]] (by rfl) rfl rfl (by (try simp only [List.map_toArray, List.map_cons, List.map_nil]); first | done | rfl | (simp only [List.length_drop, List.length_take]; rfl)) ?_
                with_reducible refine (laws_eqMemory.calls kj18 _ _ t873 _ _ t886 true _ ?side1 ?side2 ?side3 ?side4 A69.out).mono ?_
                (case side1 => repeat (first | exact (Kd.S_reads' HO_877000.out).2.2 | (with_reducible refine Kd.C_alloc ?_ _) | (with_reducible refine Kd.C_drewN ?_ _) | (with_reducible refine Kd.C_drew ?_)))
                (case side2 => exact (Kd.S_reads' HO_877000.out).2.1)
                (case side3 => repeat (first | exact (Kd.S_reads' HO888.out).2.2 | (with_reducible refine Kd.C_alloc ?_ _) | (with_reducible refine Kd.C_drewN ?_ _) | (with_reducible refine Kd.C_drew ?_)))
                (case side4 => exact (Kd.S_reads' HO888.out).2.1)
                rintro e w77 ⟨rfl, hb⟩
                refine ⟨_, rfl, ?_⟩
                have n0_ := Aside0.mk (Kd.R_below (by (with_reducible repeat (first | apply Kd.R_alloc | apply Kd.R_drewN | apply Kd.R_drew)); exact HO_10.out) hb)
                have n1_ := Aside0.mk (Kd.S_below (by (with_reducible repeat (first | apply Kd.S_alloc | apply Kd.S_drewN | apply Kd.S_drew)); exact HO_877000.out) hb)
                have n2_ := Aside0.mk (Kd.S_below (by (with_reducible repeat (first | apply Kd.S_alloc | apply Kd.S_drewN | apply Kd.S_drew)); exact HO888.out) hb)
                have n3_ := Aside0.mk (blk_below (g := gb859) (o := .cells #[.slice A0_0 l0_0.length c0_0] 49 (0, 0)) (by (with_reducible repeat (first | refine blk_drewN ?_ _ | refine blk_drew ?_ | refine blk_alloc ?_ _)); exact BK859.out) hb)
                have n4_ := Aside0.mk (blk_below (g := gb872) (o := .cells #[.int .i64 t869, .int .i64 t870] 75 (0, 0)) (by (with_reducible repeat (first | refine blk_drewN ?_ _ | refine blk_drew ?_ | refine blk_alloc ?_ _)); exact BK872.out) hb)
                have n5_ := Aside0.mk (blk_below (g := gb876) (o := .cells #[.slice Ao35 t873.length co35] 26 (0, 0)) (by (with_reducible repeat (first | refine blk_drewN ?_ _ | refine blk_drew ?_ | refine blk_alloc ?_ _)); exact BK876.out) hb)
                have n6_ := Aside0.mk (blk_below (g := gb884) (o := .cells #[.int .i64 t881, .int .i64 t882] 75 (0, 0)) (by (with_reducible repeat (first | refine blk_drewN ?_ _ | refine blk_drew ?_ | refine blk_alloc ?_ _)); exact BK884.out) hb)
                have n7_ := Aside0.mk (below_step (by repeat (first | (with_reducible first | exact HB.out | apply below_alloc | apply pw_below_drewN | apply below_drew1 | refine below_set ?_ GE859.out | refine below_set ?_ GE872.out | refine below_set ?_ GE876.out | refine below_set ?_ GE884.out) | exact HB.out)) hb)
                clear HO_10
                clear HO_877000
                clear HO888
                clear BK859
                clear BK872
                clear BK876
                clear BK884
                clear HB
                have HO_10 := n0_
                have HO_877000 := n1_
                have HO888 := n2_
                have BK859 := n3_
                have BK872 := n4_
                have BK876 := n5_
                have BK884 := n6_
                have HB := n7_
                clear n0_ n1_ n2_ n3_ n4_ n5_ n6_ n7_
                (try clear hb)
                (try clear hb2)
                (try clear hk)
                (try clear hi)
                refine hK.out _ _ ⟨(blk_cell BK876.out 0).trans rfl, (blk_cell BK859.out 0).trans rfl⟩ (fun hHeld => ?_)
                clear hK K
                refine norm_ (a' := ?_) ?_ ?_
                rotate_left
                · show Act.put _ (some 61) _ = _
                  simp only [Act.put, List.setIfInBounds_toArray, List.set_cons_zero, List.set_cons_succ, i64_w, i32_w]
                  rfl
                refine pure_ (i := 4) (N := some 62) (v := ?_) (a' := ?_) #[true, true, true, true, true] rfl rfl (by kernel_rfl) (fun _ _ _ h => h) (Or.inl ⟨by rfl, ?_⟩) ?_ ?_
                rotate_left
                · intro w'
                  go_simp
                  with_reducible rfl
                rotate_left
                · simp only [Act.put, List.setIfInBounds_toArray, List.set_cons_zero, List.set_cons_succ, i64_w, i32_w]
                  rfl
                refine done_ (by kernel_rfl) ?_
                try go_wp2_with (first | ((with_reducible refine gate_callee (f := 28) rfl ?_); refine goesL_ (some 65) rfl rfl Try.func28 (by kernel_rfl) rfl #[.slice A1 l1.length c1] rfl (by (try simp only [List.map_toArray, List.map_cons, List.map_nil]); first | done | rfl | (simp only [List.length_drop, List.length_take]; rfl)) ?_; (with_reducible refine (laws_toLoanS.calls kj18 _ _ l1 t890 _ ?side1 ?side2 A71.out).mono ?_); (case side1 => repeat (first | exact (Kd.C_below HR1.out HB.out) | (with_reducible refine Kd.C_alloc ?_ _) | (with_reducible refine Kd.C_drewN ?_ _) | (with_reducible refine Kd.C_drew ?_))); (case side2 => exact HC1.out); rintro e w78 ⟨v891, rfl, ho0, hb⟩; refine ⟨_, rfl, ?_⟩; have n0_ := Aside0.mk (Kd.R_elder' (by (with_reducible repeat (first | apply Kd.R_alloc | apply Kd.R_drewN | apply Kd.R_drew)); exact HO_10.out) (Kd.R_base ho0) hb); have n1_ := Aside0.mk (Kd.S_below (by (with_reducible repeat (first | apply Kd.S_alloc | apply Kd.S_drewN | apply Kd.S_drew)); exact HO_877000.out) hb); have n2_ := Aside0.mk (Kd.S_below (by (with_reducible repeat (first | apply Kd.S_alloc | apply Kd.S_drewN | apply Kd.S_drew)); exact HO888.out) hb); have n3_ := Aside0.mk (Kd.R_lower (Kd.R_new' ho0 (Kd.R_lt (by (with_reducible repeat (first | apply Kd.R_alloc | apply Kd.R_drewN | apply Kd.R_drew)); exact HO_10.out))) (below_size (by repeat (first | (with_reducible first | exact HB.out | apply below_alloc | apply pw_below_drewN | apply below_drew1 | refine below_set ?_ GE859.out | refine below_set ?_ GE872.out | refine below_set ?_ GE876.out | refine below_set ?_ GE884.out) | exact HB.out)))); have n4_ := Aside0.mk (blk_below (g := gb859) (o := .cells #[.slice A0_0 l0_0.length c0_0] 49 (0, 0)) (by (with_reducible repeat (first | refine blk_drewN ?_ _ | refine blk_drew ?_ | refine blk_alloc ?_ _)); exact BK859.out) hb); have n5_ := Aside0.mk (blk_below (g := gb872) (o := .cells #[.int .i64 t869, .int .i64 t870] 75 (0, 0)) (by (with_reducible repeat (first | refine blk_drewN ?_ _ | refine blk_drew ?_ | refine blk_alloc ?_ _)); exact BK872.out) hb); have n6_ := Aside0.mk (blk_below (g := gb876) (o := .cells #[.slice Ao35 t873.length co35] 26 (0, 0)) (by (with_reducible repeat (first | refine blk_drewN ?_ _ | refine blk_drew ?_ | refine blk_alloc ?_ _)); exact BK876.out) hb); have n7_ := Aside0.mk (blk_below (g := gb884) (o := .cells #[.int .i64 t881, .int .i64 t882] 75 (0, 0)) (by (with_reducible repeat (first | refine blk_drewN ?_ _ | refine blk_drew ?_ | refine blk_alloc ?_ _)); exact BK884.out) hb); have n8_ := Aside0.mk (below_step (by repeat (first | (with_reducible first | exact HB.out | apply below_alloc | apply pw_below_drewN | apply below_drew1 | refine below_set ?_ GE859.out | refine below_set ?_ GE872.out | refine below_set ?_ GE876.out | refine below_set ?_ GE884.out) | exact HB.out)) hb); clear HO_10; clear HO_877000; clear HO888; clear BK859; clear BK872; clear BK876; clear BK884; clear HB; have HO_10 := n0_; have HO_877000 := n1_; have HO888 := n2_; have HO892 := n3_; have BK859 := n4_; have BK872 := n5_; have BK876 := n6_; have BK884 := n7_; have HB := n8_; clear n0_ n1_ n2_ n3_ n4_ n5_ n6_ n7_ n8_; (try clear hb); (try clear hb2); (try clear hk); (try clear hi); (try clear ho0); obtain ⟨Ao79, co79, eo79⟩ := Kd.R_slice HO892.out; subst eo79) | ((with_reducible refine gate_callee (f := 32) rfl ?_); refine goesL_ (some 66) rfl rfl Try.func32 (by kernel_rfl) rfl #[.slice Ao41 t877.length co41, .slice Ao79 t890.length co79] rfl (by (try simp only [List.map_toArray, List.map_cons, List.map_nil]); first | done | rfl | (simp only [List.length_drop, List.length_take]; rfl)) ?_; (with_reducible refine (laws_eqLoanS.calls kj18 _ _ t877 _ _ t890 true _ ?side1 ?side2 ?side3 ?side4 A72.out).mono ?_); (case side1 => repeat (first | exact (Kd.R_reads' HO_10.out).2.2 | (with_reducible refine Kd.C_alloc ?_ _) | (with_reducible refine Kd.C_drewN ?_ _) | (with_reducible refine Kd.C_drew ?_))); (case side2 => exact (Kd.R_reads' HO_10.out).2.1); (case side3 => repeat (first | exact (Kd.R_reads' HO892.out).2.2 | (with_reducible refine Kd.C_alloc ?_ _) | (with_reducible refine Kd.C_drewN ?_ _) | (with_reducible refine Kd.C_drew ?_))); (case side4 => exact (Kd.R_reads' HO892.out).2.1); rintro e w80 ⟨rfl, hb⟩; refine ⟨_, rfl, ?_⟩; have n0_ := Aside0.mk (Kd.R_below (by (with_reducible repeat (first | apply Kd.R_alloc | apply Kd.R_drewN | apply Kd.R_drew)); exact HO_10.out) hb); have n1_ := Aside0.mk (Kd.S_below (by (with_reducible repeat (first | apply Kd.S_alloc | apply Kd.S_drewN | apply Kd.S_drew)); exact HO_877000.out) hb); have n2_ := Aside0.mk (Kd.S_below (by (with_reducible repeat (first | apply Kd.S_alloc | apply Kd.S_drewN | apply Kd.S_drew)); exact HO888.out) hb); have n3_ := Aside0.mk (Kd.R_below (by (with_reducible repeat (first | apply Kd.R_alloc | apply Kd.R_drewN | apply Kd.R_drew)); exact HO892.out) hb); have n4_ := Aside0.mk (blk_below (g := gb859) (o := .cells #[.slice A0_0 l0_0.length c0_0] 49 (0, 0)) (by (with_reducible repeat (first | refine blk_drewN ?_ _ | refine blk_drew ?_ | refine blk_alloc ?_ _)); exact BK859.out) hb); have n5_ := Aside0.mk (blk_below (g := gb872) (o := .cells #[.int .i64 t869, .int .i64 t870] 75 (0, 0)) (by (with_reducible repeat (first | refine blk_drewN ?_ _ | refine blk_drew ?_ | refine blk_alloc ?_ _)); exact BK872.out) hb); have n6_ := Aside0.mk (blk_below (g := gb876) (o := .cells #[.slice Ao35 t873.length co35] 26 (0, 0)) (by (with_reducible repeat (first | refine blk_drewN ?_ _ | refine blk_drew ?_ | refine blk_alloc ?_ _)); exact BK876.out) hb); have n7_ := Aside0.mk (blk_below (g := gb884) (o := .cells #[.int .i64 t881, .int .i64 t882] 75 (0, 0)) (by (with_reducible repeat (first | refine blk_drewN ?_ _ | refine blk_drew ?_ | refine blk_alloc ?_ _)); exact BK884.out) hb); have n8_ := Aside0.mk (below_step (by repeat (first | (with_reducible first | exact HB.out | apply below_alloc | apply pw_below_drewN | apply below_drew1 | refine below_set ?_ GE859.out | refine below_set ?_ GE872.out | refine below_set ?_ GE876.out | refine below_set ?_ GE884.out) | exact HB.out)) hb); clear HO_10; clear HO_877000; clear HO888; clear HO892; clear BK859; clear BK872; clear BK876; clear BK884; clear HB; have HO_10 := n0_; have HO_877000 := n1_; have HO888 := n2_; have HO892 := n3_; have BK859 := n4_; have BK872 := n5_; have BK876 := n6_; have BK884 := n7_; have HB := n8_; clear n0_ n1_ n2_ n3_ n4_ n5_ n6_ n7_ n8_; (try clear hb); (try clear hb2); (try clear hk); (try clear hi)))
                go_ret
                exact ⟨by first | rfl | (simp [errW_none, errW_some] <;> rfl) | (simp [*, errW_none, errW_some] <;> rfl), by repeat (first | (with_reducible first | exact HB.out | apply below_alloc | apply pw_below_drewN | apply below_drew1 | refine below_set ?_ GE859.out | refine below_set ?_ GE872.out | refine below_set ?_ GE876.out | refine below_set ?_ GE884.out) | exact HB.out)⟩
              · replace c73 := Bool.eq_false_iff.mpr c73
                subst c73
                have H1 : (some false) = some r := by rw [if_neg (show ¬ (false = true) by decide)] at H; exact H
                clear H
                have H := H1
                clear H1
                obtain rfl := Option.some.inj H
                try go_wp2
                have n0_ := Aside0.mk (Kd.R_drew HO_10.out)
                have n1_ := Aside0.mk (Kd.S_drew HO_877000.out)
                have n2_ := Aside0.mk (blk_drew BK859.out)
                have n3_ := Aside0.mk (blk_drew BK872.out)
                have n4_ := Aside0.mk (blk_drew BK876.out)
                have n5_ := Aside0.mk (blk_drew BK884.out)
                have n6_ := Aside0.mk (below_drew1 HB.out)
                clear HO_10
                clear HO_877000
                clear BK859
                clear BK872
                clear BK876
                clear BK884
                clear HB
                have HO_10 := n0_
                have HO_877000 := n1_
                have BK859 := n2_
                have BK872 := n3_
                have BK876 := n4_
                have BK884 := n5_
                have HB := n6_
                clear n0_ n1_ n2_ n3_ n4_ n5_ n6_
                refine start_ (n := 5) (S := fun w' => w'.cell? ⟨gb876, 0, none⟩ = some (.slice Ao35 t873.length co35) ∧ w'.cell? ⟨gb859, 0, none⟩ = some (.slice A0_0 l0_0.length c0_0)) (ds := []) #[false, false, false, false, false] (by kernel_rfl) rfl rfl ⟨(blk_cell BK876.out 0).trans rfl, (blk_cell BK859.out 0).trans rfl⟩ (fun hHeld => ?_)
                generalize wc.drew = w81 at HO_10 HO_877000 BK859 BK872 BK876 BK884 HB hHeld ⊢
                refine take_ (i := 0) (N := some 58) (v := ?_) (a' := ?_) #[true, false, false, false, false] rfl rfl (by kernel_rfl) (fun _ _ _ h => h) (Or.inl ⟨by rfl, ?_⟩) hHeld ?_ ?_
                rotate_left
                · rintro w' ⟨s0, s1⟩
                  go_simp
                  with_reducible rfl
                rotate_left
                · simp only [Act.put, List.setIfInBounds_toArray, List.set_cons_zero, List.set_cons_succ, i64_w, i32_w]
                  rfl
                refine take_ (i := 1) (N := some 59) (v := ?_) (a' := ?_) #[true, true, false, false, false] rfl rfl (by kernel_rfl) (fun _ _ _ h => h) (Or.inl ⟨by rfl, ?_⟩) hHeld ?_ ?_
                rotate_left
                · rintro w' ⟨s0, s1⟩
                  go_simp
                  with_reducible rfl
                rotate_left
                · simp only [Act.put, List.setIfInBounds_toArray, List.set_cons_zero, List.set_cons_succ, i64_w, i32_w]
                  rfl
                refine one_ (i := 2) (N := some 60) #[true, true, true, false, false] rfl rfl (by kernel_rfl) (by decide) (fun K hK => ?_)
                refine goes_ Try.func27 (by kernel_rfl) rfl #[.agg #[.slice A0_0 l0_0.length c0_0]] (by rfl) rfl rfl (by (try simp only [List.map_toArray, List.map_cons, List.map_nil]); first | done | rfl | (simp only [List.length_drop, List.length_take]; rfl)) ?_
                with_reducible refine (laws_toMemory.calls _ _ l0_0 t886 _ ?side1 ?side2 A68.out).mono ?_
                (case side1 => repeat (first | exact (Kd.C_below HR0_0.out HB.out) | (with_reducible refine Kd.C_alloc ?_ _) | (with_reducible refine Kd.C_drewN ?_ _) | (with_reducible refine Kd.C_drew ?_)))
                (case side2 => exact HC0_0.out)
                rintro e w82 ⟨v887, rfl, ho0, hb⟩
                refine ⟨_, rfl, ?_⟩
                have n0_ := Aside0.mk (Kd.R_below (by (with_reducible repeat (first | apply Kd.R_alloc | apply Kd.R_drewN | apply Kd.R_drew)); exact HO_10.out) hb)
                have n1_ := Aside0.mk (Kd.S_elder' (by (with_reducible repeat (first | apply Kd.S_alloc | apply Kd.S_drewN | apply Kd.S_drew)); exact HO_877000.out) (Kd.S_base ho0) hb)
                have n2_ := Aside0.mk (Kd.S_lower (Kd.S_new' ho0 (Kd.S_lt (by (with_reducible repeat (first | apply Kd.S_alloc | apply Kd.S_drewN | apply Kd.S_drew)); exact HO_877000.out))) (below_size (by repeat (first | (with_reducible first | exact HB.out | apply below_alloc | apply pw_below_drewN | apply below_drew1 | refine below_set ?_ GE859.out | refine below_set ?_ GE872.out | refine below_set ?_ GE876.out | refine below_set ?_ GE884.out) | exact HB.out))))
                have n3_ := Aside0.mk (blk_below (g := gb859) (o := .cells #[.slice A0_0 l0_0.length c0_0] 49 (0, 0)) (by (with_reducible repeat (first | refine blk_drewN ?_ _ | refine blk_drew ?_ | refine blk_alloc ?_ _)); exact BK859.out) hb)
                have n4_ := Aside0.mk (blk_below (g := gb872) (o := .cells #[.int .i64 t869, .int .i64 t870] 75 (0, 0)) (by (with_reducible repeat (first | refine blk_drewN ?_ _ | refine blk_drew ?_ | refine blk_alloc ?_ _)); exact BK872.out) hb)
                have n5_ := Aside0.mk (blk_below (g := gb876) (o := .cells #[.slice Ao35 t873.length co35] 26 (0, 0)) (by (with_reducible repeat (first | refine blk_drewN ?_ _ | refine blk_drew ?_ | refine blk_alloc ?_ _)); exact BK876.out) hb)
                have n6_ := Aside0.mk (blk_below (g := gb884) (o := .cells #[.int .i64 t881, .int .i64 t882] 75 (0, 0)) (by (with_reducible repeat (first | refine blk_drewN ?_ _ | refine blk_drew ?_ | refine blk_alloc ?_ _)); exact BK884.out) hb)
                have n7_ := Aside0.mk (below_step (by repeat (first | (with_reducible first | exact HB.out | apply below_alloc | apply pw_below_drewN | apply below_drew1 | refine below_set ?_ GE859.out | refine below_set ?_ GE872.out | refine below_set ?_ GE876.out | refine below_set ?_ GE884.out) | exact HB.out)) hb)
                clear HO_10
                clear HO_877000
                clear BK859
                clear BK872
                clear BK876
                clear BK884
                clear HB
                have HO_10 := n0_
                have HO_877000 := n1_
                have HO888 := n2_
                have BK859 := n3_
                have BK872 := n4_
                have BK876 := n5_
                have BK884 := n6_
                have HB := n7_
                clear n0_ n1_ n2_ n3_ n4_ n5_ n6_ n7_
                (try clear hb)
                (try clear hb2)
                (try clear hk)
                (try clear hi)
                (try clear ho0)
                obtain ⟨Ao83, co83, eo83⟩ := Kd.S_slice HO888.out
                (first | subst eo83 | (injection eo83 with f1_ f2_ f3_; have f4_ := f1_.symm; have f5_ := f3_.symm; clear f1_ f2_ f3_; subst f4_; subst f5_))
                refine hK.out _ _ ⟨(blk_cell BK876.out 0).trans rfl, (blk_cell BK859.out 0).trans rfl⟩ (fun hHeld => ?_)
                clear hK K
                refine norm_ (a' := ?_) ?_ ?_
                rotate_left
                · show Act.put _ (some 60) _ = _
                  simp only [Act.put, List.setIfInBounds_toArray, List.set_cons_zero, List.set_cons_succ, i64_w, i32_w]
                  rfl
                refine one_ (i := 3) (N := some 61) #[true, true, true, true, false] rfl rfl (by kernel_rfl) (by decide) (fun K hK => ?_)
                refine goes_ Try.func31 (by kernel_rfl) rfl #[.agg #[.slice Ao35 t873.length co35], .agg #[.slice Ao83 t886.length co83]] (by rfl) rfl rfl (by (try simp only [List.map_toArray, List.map_cons, List.map_nil]); first | done | rfl | (simp only [List.length_drop, List.length_take]; rfl)) ?_
                with_reducible refine (laws_eqMemory.calls kj18 _ _ t873 _ _ t886 true _ ?side1 ?side2 ?side3 ?side4 A69.out).mono ?_
                (case side1 => repeat (first | exact (Kd.S_reads' HO_877000.out).2.2 | (with_reducible refine Kd.C_alloc ?_ _) | (with_reducible refine Kd.C_drewN ?_ _) | (with_reducible refine Kd.C_drew ?_)))
                (case side2 => exact (Kd.S_reads' HO_877000.out).2.1)
                (case side3 => repeat (first | exact (Kd.S_reads' HO888.out).2.2 | (with_reducible refine Kd.C_alloc ?_ _) | (with_reducible refine Kd.C_drewN ?_ _) | (with_reducible refine Kd.C_drew ?_)))
                (case side4 => exact (Kd.S_reads' HO888.out).2.1)
                rintro e w84 ⟨rfl, hb⟩
                refine ⟨_, rfl, ?_⟩
                have n0_ := Aside0.mk (Kd.R_below (by (with_reducible repeat (first | apply Kd.R_alloc | apply Kd.R_drewN | apply Kd.R_drew)); exact HO_10.out) hb)
                have n1_ := Aside0.mk (Kd.S_below (by (with_reducible repeat (first | apply Kd.S_alloc | apply Kd.S_drewN | apply Kd.S_drew)); exact HO_877000.out) hb)
                have n2_ := Aside0.mk (Kd.S_below (by (with_reducible repeat (first | apply Kd.S_alloc | apply Kd.S_drewN | apply Kd.S_drew)); exact HO888.out) hb)
                have n3_ := Aside0.mk (blk_below (g := gb859) (o := .cells #[.slice A0_0 l0_0.length c0_0] 49 (0, 0)) (by (with_reducible repeat (first | refine blk_drewN ?_ _ | refine blk_drew ?_ | refine blk_alloc ?_ _)); exact BK859.out) hb)
                have n4_ := Aside0.mk (blk_below (g := gb872) (o := .cells #[.int .i64 t869, .int .i64 t870] 75 (0, 0)) (by (with_reducible repeat (first | refine blk_drewN ?_ _ | refine blk_drew ?_ | refine blk_alloc ?_ _)); exact BK872.out) hb)
                have n5_ := Aside0.mk (blk_below (g := gb876) (o := .cells #[.slice Ao35 t873.length co35] 26 (0, 0)) (by (with_reducible repeat (first | refine blk_drewN ?_ _ | refine blk_drew ?_ | refine blk_alloc ?_ _)); exact BK876.out) hb)
                have n6_ := Aside0.mk (blk_below (g := gb884) (o := .cells #[.int .i64 t881, .int .i64 t882] 75 (0, 0)) (by (with_reducible repeat (first | refine blk_drewN ?_ _ | refine blk_drew ?_ | refine blk_alloc ?_ _)); exact BK884.out) hb)
                have n7_ := Aside0.mk (below_step (by repeat (first | (with_reducible first | exact HB.out | apply below_alloc | apply pw_below_drewN | apply below_drew1 | refine below_set ?_ GE859.out | refine below_set ?_ GE872.out | refine below_set ?_ GE876.out | refine below_set ?_ GE884.out) | exact HB.out)) hb)
                clear HO_10
                clear HO_877000
                clear HO888
                clear BK859
                clear BK872
                clear BK876
                clear BK884
                clear HB
                have HO_10 := n0_
                have HO_877000 := n1_
                have HO888 := n2_
                have BK859 := n3_
                have BK872 := n4_
                have BK876 := n5_
                have BK884 := n6_
                have HB := n7_
                clear n0_ n1_ n2_ n3_ n4_ n5_ n6_ n7_
                (try clear hb)
                (try clear hb2)
                (try clear hk)
                (try clear hi)
                refine hK.out _ _ ⟨(blk_cell BK876.out 0).trans rfl, (blk_cell BK859.out 0).trans rfl⟩ (fun hHeld => ?_)
                clear hK K
                refine norm_ (a' := ?_) ?_ ?_
                rotate_left
                · show Act.put _ (some 61) _ = _
                  simp only [Act.put, List.setIfInBounds_toArray, List.set_cons_zero, List.set_cons_succ, i64_w, i32_w]
                  rfl
                refine pure_ (i := 4) (N := some 62) (v := ?_) (a' := ?_) #[true, true, true, true, true] rfl rfl (by kernel_rfl) (fun _ _ _ h => h) (Or.inl ⟨by rfl, ?_⟩) ?_ ?_
                rotate_left
                · intro w'
                  go_simp
                  with_reducible rfl
                rotate_left
                · simp only [Act.put, List.setIfInBounds_toArray, List.set_cons_zero, List.set_cons_succ, i64_w, i32_w]
                  rfl
                refine done_ (by kernel_rfl) ?_
                try go_wp2_with (first | ((with_reducible refine gate_callee (f := 28) rfl ?_); refine goesL_ (some 65) rfl rfl Try.func28 (by kernel_rfl) rfl #[.slice A1 l1.length c1] rfl (by (try simp only [List.map_toArray, List.map_cons, List.map_nil]); first | done | rfl | (simp only [List.length_drop, List.length_take]; rfl)) ?_; (with_reducible refine (laws_toLoanS.calls kj18 _ _ l1 t890 _ ?side1 ?side2 A71.out).mono ?_); (case side1 => repeat (first | exact (Kd.C_below HR1.out HB.out) | (with_reducible refine Kd.C_alloc ?_ _) | (with_reducible refine Kd.C_drewN ?_ _) | (with_reducible refine Kd.C_drew ?_))); (case side2 => exact HC1.out); rintro e w85 ⟨v891, rfl, ho0, hb⟩; refine ⟨_, rfl, ?_⟩; have n0_ := Aside0.mk (Kd.R_elder' (by (with_reducible repeat (first | apply Kd.R_alloc | apply Kd.R_drewN | apply Kd.R_drew)); exact HO_10.out) (Kd.R_base ho0) hb); have n1_ := Aside0.mk (Kd.S_below (by (with_reducible repeat (first | apply Kd.S_alloc | apply Kd.S_drewN | apply Kd.S_drew)); exact HO_877000.out) hb); have n2_ := Aside0.mk (Kd.S_below (by (with_reducible repeat (first | apply Kd.S_alloc | apply Kd.S_drewN | apply Kd.S_drew)); exact HO888.out) hb); have n3_ := Aside0.mk (Kd.R_lower (Kd.R_new' ho0 (Kd.R_lt (by (with_reducible repeat (first | apply Kd.R_alloc | apply Kd.R_drewN | apply Kd.R_drew)); exact HO_10.out))) (below_size (by repeat (first | (with_reducible first | exact HB.out | apply below_alloc | apply pw_below_drewN | apply below_drew1 | refine below_set ?_ GE859.out | refine below_set ?_ GE872.out | refine below_set ?_ GE876.out | refine below_set ?_ GE884.out) | exact HB.out)))); have n4_ := Aside0.mk (blk_below (g := gb859) (o := .cells #[.slice A0_0 l0_0.length c0_0] 49 (0, 0)) (by (with_reducible repeat (first | refine blk_drewN ?_ _ | refine blk_drew ?_ | refine blk_alloc ?_ _)); exact BK859.out) hb); have n5_ := Aside0.mk (blk_below (g := gb872) (o := .cells #[.int .i64 t869, .int .i64 t870] 75 (0, 0)) (by (with_reducible repeat (first | refine blk_drewN ?_ _ | refine blk_drew ?_ | refine blk_alloc ?_ _)); exact BK872.out) hb); have n6_ := Aside0.mk (blk_below (g := gb876) (o := .cells #[.slice Ao35 t873.length co35] 26 (0, 0)) (by (with_reducible repeat (first | refine blk_drewN ?_ _ | refine blk_drew ?_ | refine blk_alloc ?_ _)); exact BK876.out) hb); have n7_ := Aside0.mk (blk_below (g := gb884) (o := .cells #[.int .i64 t881, .int .i64 t882] 75 (0, 0)) (by (with_reducible repeat (first | refine blk_drewN ?_ _ | refine blk_drew ?_ | refine blk_alloc ?_ _)); exact BK884.out) hb); have n8_ := Aside0.mk (below_step (by repeat (first | (with_reducible first | exact HB.out | apply below_alloc | apply pw_below_drewN | apply below_drew1 | refine below_set ?_ GE859.out | refine below_set ?_ GE872.out | refine below_set ?_ GE876.out | refine below_set ?_ GE884.out) | exact HB.out)) hb); clear HO_10; clear HO_877000; clear HO888; clear BK859; clear BK872; clear BK876; clear BK884; clear HB; have HO_10 := n0_; have HO_877000 := n1_; have HO888 := n2_; have HO892 := n3_; have BK859 := n4_; have BK872 := n5_; have BK876 := n6_; have BK884 := n7_; have HB := n8_; clear n0_ n1_ n2_ n3_ n4_ n5_ n6_ n7_ n8_; (try clear hb); (try clear hb2); (try clear hk); (try clear hi); (try clear ho0); obtain ⟨Ao86, co86, eo86⟩ := Kd.R_slice HO892.out; subst eo86) | ((with_reducible refine gate_callee (f := 32) rfl ?_); refine goesL_ (some 66) rfl rfl Try.func32 (by kernel_rfl) rfl #[.slice Ao41 t877.length co41, .slice Ao86 t890.length co86] rfl (by (try simp only [List.map_toArray, List.map_cons, List.map_nil]); first | done | rfl | (simp only [List.length_drop, List.length_take]; rfl)) ?_; (with_reducible refine (laws_eqLoanS.calls kj18 _ _ t877 _ _ t890 false _ ?side1 ?side2 ?side3 ?side4 A72.out).mono ?_); (case side1 => repeat (first | exact (Kd.R_reads' HO_10.out).2.2 | (with_reducible refine Kd.C_alloc ?_ _) | (with_reducible refine Kd.C_drewN ?_ _) | (with_reducible refine Kd.C_drew ?_))); (case side2 => exact (Kd.R_reads' HO_10.out).2.1); (case side3 => repeat (first | exact (Kd.R_reads' HO892.out).2.2 | (with_reducible refine Kd.C_alloc ?_ _) | (with_reducible refine Kd.C_drewN ?_ _) | (with_reducible refine Kd.C_drew ?_))); (case side4 => exact (Kd.R_reads' HO892.out).2.1); rintro e w87 ⟨rfl, hb⟩; refine ⟨_, rfl, ?_⟩; have n0_ := Aside0.mk (Kd.R_below (by (with_reducible repeat (first | apply Kd.R_alloc | apply Kd.R_drewN | apply Kd.R_drew)); exact HO_10.out) hb); have n1_ := Aside0.mk (Kd.S_below (by (with_reducible repeat (first | apply Kd.S_alloc | apply Kd.S_drewN | apply Kd.S_drew)); exact HO_877000.out) hb); have n2_ := Aside0.mk (Kd.S_below (by (with_reducible repeat (first | apply Kd.S_alloc | apply Kd.S_drewN | apply Kd.S_drew)); exact HO888.out) hb); have n3_ := Aside0.mk (Kd.R_below (by (with_reducible repeat (first | apply Kd.R_alloc | apply Kd.R_drewN | apply Kd.R_drew)); exact HO892.out) hb); have n4_ := Aside0.mk (blk_below (g := gb859) (o := .cells #[.slice A0_0 l0_0.length c0_0] 49 (0, 0)) (by (with_reducible repeat (first | refine blk_drewN ?_ _ | refine blk_drew ?_ | refine blk_alloc ?_ _)); exact BK859.out) hb); have n5_ := Aside0.mk (blk_below (g := gb872) (o := .cells #[.int .i64 t869, .int .i64 t870] 75 (0, 0)) (by (with_reducible repeat (first | refine blk_drewN ?_ _ | refine blk_drew ?_ | refine blk_alloc ?_ _)); exact BK872.out) hb); have n6_ := Aside0.mk (blk_below (g := gb876) (o := .cells #[.slice Ao35 t873.length co35] 26 (0, 0)) (by (with_reducible repeat (first | refine blk_drewN ?_ _ | refine blk_drew ?_ | refine blk_alloc ?_ _)); exact BK876.out) hb); have n7_ := Aside0.mk (blk_below (g := gb884) (o := .cells #[.int .i64 t881, .int .i64 t882] 75 (0, 0)) (by (with_reducible repeat (first | refine blk_drewN ?_ _ | refine blk_drew ?_ | refine blk_alloc ?_ _)); exact BK884.out) hb); have n8_ := Aside0.mk (below_step (by repeat (first | (with_reducible first | exact HB.out | apply below_alloc | apply pw_below_drewN | apply below_drew1 | refine below_set ?_ GE859.out | refine below_set ?_ GE872.out | refine below_set ?_ GE876.out | refine below_set ?_ GE884.out) | exact HB.out)) hb); clear HO_10; clear HO_877000; clear HO888; clear HO892; clear BK859; clear BK872; clear BK876; clear BK884; clear HB; have HO_10 := n0_; have HO_877000 := n1_; have HO888 := n2_; have HO892 := n3_; have BK859 := n4_; have BK872 := n5_; have BK876 := n6_; have BK884 := n7_; have HB := n8_; clear n0_ n1_ n2_ n3_ n4_ n5_ n6_ n7_ n8_; (try clear hb); (try clear hb2); (try clear hk); (try clear hi)))
                go_ret
                exact ⟨by first | rfl | (simp [errW_none, errW_some] <;> rfl) | (simp [*, errW_none, errW_some] <;> rfl), by repeat (first | (with_reducible first | exact HB.out | apply below_alloc | apply pw_below_drewN | apply below_drew1 | refine below_set ?_ GE859.out | refine below_set ?_ GE872.out | refine below_set ?_ GE876.out | refine below_set ?_ GE884.out) | exact HB.out)⟩
            · replace c70 := Bool.eq_false_iff.mpr c70
              subst c70
              have H1 : (some false) = some r := by rw [if_neg (show ¬ (false = true) by decide)] at H; exact H
              clear H
              have H := H1
              clear H1
              obtain rfl := Option.some.inj H
              try go_wp2
              have n0_ := Aside0.mk (Kd.R_drew HO_10.out)
              have n1_ := Aside0.mk (Kd.S_drew HO_877000.out)
              have n2_ := Aside0.mk (blk_drew BK859.out)
              have n3_ := Aside0.mk (blk_drew BK872.out)
              have n4_ := Aside0.mk (blk_drew BK876.out)
              have n5_ := Aside0.mk (blk_drew BK884.out)
              have n6_ := Aside0.mk (below_drew1 HB.out)
              clear HO_10
              clear HO_877000
              clear BK859
              clear BK872
              clear BK876
              clear BK884
              clear HB
              have HO_10 := n0_
              have HO_877000 := n1_
              have BK859 := n2_
              have BK872 := n3_
              have BK876 := n4_
              have BK884 := n5_
              have HB := n6_
              clear n0_ n1_ n2_ n3_ n4_ n5_ n6_
              refine start_ (n := 5) (S := fun w' => w'.cell? ⟨gb876, 0, none⟩ = some (.slice Ao35 t873.length co35) ∧ w'.cell? ⟨gb859, 0, none⟩ = some (.slice A0_0 l0_0.length c0_0)) (ds := []) #[false, false, false, false, false] (by kernel_rfl) rfl rfl ⟨(blk_cell BK876.out 0).trans rfl, (blk_cell BK859.out 0).trans rfl⟩ (fun hHeld => ?_)
              generalize wc.drew = w88 at HO_10 HO_877000 BK859 BK872 BK876 BK884 HB hHeld ⊢
              refine take_ (i := 0) (N := some 58) (v := ?_) (a' := ?_) #[true, false, false, false, false] rfl rfl (by kernel_rfl) (fun _ _ _ h => h) (Or.inl ⟨by rfl, ?_⟩) hHeld ?_ ?_
              rotate_left
              · rintro w' ⟨s0, s1⟩
                go_simp
                with_reducible rfl
              rotate_left
              · simp only [Act.put, List.setIfInBounds_toArray, List.set_cons_zero, List.set_cons_succ, i64_w, i32_w]
                rfl
              refine take_ (i := 1) (N := some 59) (v := ?_) (a' := ?_) #[true, true, false, false, false] rfl rfl (by kernel_rfl) (fun _ _ _ h => h) (Or.inl ⟨by rfl, ?_⟩) hHeld ?_ ?_
              rotate_left
              · rintro w' ⟨s0, s1⟩
                go_simp
                with_reducible rfl
              rotate_left
              · simp only [Act.put, List.setIfInBounds_toArray, List.set_cons_zero, List.set_cons_succ, i64_w, i32_w]
                rfl
              refine one_ (i := 2) (N := some 60) #[true, true, true, false, false] rfl rfl (by kernel_rfl) (by decide) (fun K hK => ?_)
              refine goes_ Try.func27 (by kernel_rfl) rfl #[.agg #[.slice A0_0 l0_0.length c0_0]] (by rfl) rfl rfl (by (try simp only [List.map_toArray, List.map_cons, List.map_nil]); first | done | rfl | (simp only [List.length_drop, List.length_take]; rfl)) ?_
              with_reducible refine (laws_toMemory.calls _ _ l0_0 t886 _ ?side1 ?side2 A68.out).mono ?_
              (case side1 => repeat (first | exact (Kd.C_below HR0_0.out HB.out) | (with_reducible refine Kd.C_alloc ?_ _) | (with_reducible refine Kd.C_drewN ?_ _) | (with_reducible refine Kd.C_drew ?_)))
              (case side2 => exact HC0_0.out)
              rintro e w89 ⟨v887, rfl, ho0, hb⟩
              refine ⟨_, rfl, ?_⟩
              have n0_ := Aside0.mk (Kd.R_below (by (with_reducible repeat (first | apply Kd.R_alloc | apply Kd.R_drewN | apply Kd.R_drew)); exact HO_10.out) hb)
              have n1_ := Aside0.mk (Kd.S_elder' (by (with_reducible repeat (first | apply Kd.S_alloc | apply Kd.S_drewN | apply Kd.S_drew)); exact HO_877000.out) (Kd.S_base ho0) hb)
              have n2_ := Aside0.mk (Kd.S_lower (Kd.S_new' ho0 (Kd.S_lt (by (with_reducible repeat (first | apply Kd.S_alloc | apply Kd.S_drewN | apply Kd.S_drew)); exact HO_877000.out))) (below_size (by repeat (first | (with_reducible first | exact HB.out | apply below_alloc | apply pw_below_drewN | apply below_drew1 | refine below_set ?_ GE859.out | refine below_set ?_ GE872.out | refine below_set ?_ GE876.out | refine below_set ?_ GE884.out) | exact HB.out))))
              have n3_ := Aside0.mk (blk_below (g := gb859) (o := .cells #[.slice A0_0 l0_0.length c0_0] 49 (0, 0)) (by (with_reducible repeat (first | refine blk_drewN ?_ _ | refine blk_drew ?_ | refine blk_alloc ?_ _)); exact BK859.out) hb)
              have n4_ := Aside0.mk (blk_below (g := gb872) (o := .cells #[.int .i64 t869, .int .i64 t870] 75 (0, 0)) (by (with_reducible repeat (first | refine blk_drewN ?_ _ | refine blk_drew ?_ | refine blk_alloc ?_ _)); exact BK872.out) hb)
              have n5_ := Aside0.mk (blk_below (g := gb876) (o := .cells #[.slice Ao35 t873.length co35] 26 (0, 0)) (by (with_reducible repeat (first | refine blk_drewN ?_ _ | refine blk_drew ?_ | refine blk_alloc ?_ _)); exact BK876.out) hb)
              have n6_ := Aside0.mk (blk_below (g := gb884) (o := .cells #[.int .i64 t881, .int .i64 t882] 75 (0, 0)) (by (with_reducible repeat (first | refine blk_drewN ?_ _ | refine blk_drew ?_ | refine blk_alloc ?_ _)); exact BK884.out) hb)
              have n7_ := Aside0.mk (below_step (by repeat (first | (with_reducible first | exact HB.out | apply below_alloc | apply pw_below_drewN | apply below_drew1 | refine below_set ?_ GE859.out | refine below_set ?_ GE872.out | refine below_set ?_ GE876.out | refine below_set ?_ GE884.out) | exact HB.out)) hb)
              clear HO_10
              clear HO_877000
              clear BK859
              clear BK872
              clear BK876
              clear BK884
              clear HB
              have HO_10 := n0_
              have HO_877000 := n1_
              have HO888 := n2_
              have BK859 := n3_
              have BK872 := n4_
              have BK876 := n5_
              have BK884 := n6_
              have HB := n7_
              clear n0_ n1_ n2_ n3_ n4_ n5_ n6_ n7_
              (try clear hb)
              (try clear hb2)
              (try clear hk)
              (try clear hi)
              (try clear ho0)
              obtain ⟨Ao90, co90, eo90⟩ := Kd.S_slice HO888.out
              (first | subst eo90 | (injection eo90 with f1_ f2_ f3_; have f4_ := f1_.symm; have f5_ := f3_.symm; clear f1_ f2_ f3_; subst f4_; subst f5_))
              refine hK.out _ _ ⟨(blk_cell BK876.out 0).trans rfl, (blk_cell BK859.out 0).trans rfl⟩ (fun hHeld => ?_)
              clear hK K
              refine norm_ (a' := ?_) ?_ ?_
              rotate_left
              · show Act.put _ (some 60) _ = _
                simp only [Act.put, List.setIfInBounds_toArray, List.set_cons_zero, List.set_cons_succ, i64_w, i32_w]
                rfl
              refine one_ (i := 3) (N := some 61) #[true, true, true, true, false] rfl rfl (by kernel_rfl) (by decide) (fun K hK => ?_)
              refine goes_ Try.func31 (by kernel_rfl) rfl #[.agg #[.slice Ao35 t873.length co35], .agg #[.slice Ao90 t886.length co90]] (by rfl) rfl rfl (by (try simp only [List.map_toArray, List.map_cons, List.map_nil]); first | done | rfl | (simp only [List.length_drop, List.length_take]; rfl)) ?_
              with_reducible refine (laws_eqMemory.calls kj18 _ _ t873 _ _ t886 false _ ?side1 ?side2 ?side3 ?side4 A69.out).mono ?_
              (case side1 => repeat (first | exact (Kd.S_reads' HO_877000.out).2.2 | (with_reducible refine Kd.C_alloc ?_ _) | (with_reducible refine Kd.C_drewN ?_ _) | (with_reducible refine Kd.C_drew ?_)))
              (case side2 => exact (Kd.S_reads' HO_877000.out).2.1)
              (case side3 => repeat (first | exact (Kd.S_reads' HO888.out).2.2 | (with_reducible refine Kd.C_alloc ?_ _) | (with_reducible refine Kd.C_drewN ?_ _) | (with_reducible refine Kd.C_drew ?_)))
              (case side4 => exact (Kd.S_reads' HO888.out).2.1)
              rintro e w91 ⟨rfl, hb⟩
              refine ⟨_, rfl, ?_⟩
              have n0_ := Aside0.mk (Kd.R_below (by (with_reducible repeat (first | apply Kd.R_alloc | apply Kd.R_drewN | apply Kd.R_drew)); exact HO_10.out) hb)
              have n1_ := Aside0.mk (Kd.S_below (by (with_reducible repeat (first | apply Kd.S_alloc | apply Kd.S_drewN | apply Kd.S_drew)); exact HO_877000.out) hb)
              have n2_ := Aside0.mk (Kd.S_below (by (with_reducible repeat (first | apply Kd.S_alloc | apply Kd.S_drewN | apply Kd.S_drew)); exact HO888.out) hb)
              have n3_ := Aside0.mk (blk_below (g := gb859) (o := .cells #[.slice A0_0 l0_0.length c0_0] 49 (0, 0)) (by (with_reducible repeat (first | refine blk_drewN ?_ _ | refine blk_drew ?_ | refine blk_alloc ?_ _)); exact BK859.out) hb)
              have n4_ := Aside0.mk (blk_below (g := gb872) (o := .cells #[.int .i64 t869, .int .i64 t870] 75 (0, 0)) (by (with_reducible repeat (first | refine blk_drewN ?_ _ | refine blk_drew ?_ | refine blk_alloc ?_ _)); exact BK872.out) hb)
              have n5_ := Aside0.mk (blk_below (g := gb876) (o := .cells #[.slice Ao35 t873.length co35] 26 (0, 0)) (by (with_reducible repeat (first | refine blk_drewN ?_ _ | refine blk_drew ?_ | refine blk_alloc ?_ _)); exact BK876.out) hb)
              have n6_ := Aside0.mk (blk_below (g := gb884) (o := .cells #[.int .i64 t881, .int .i64 t882] 75 (0, 0)) (by (with_reducible repeat (first | refine blk_drewN ?_ _ | refine blk_drew ?_ | refine blk_alloc ?_ _)); exact BK884.out) hb)
              have n7_ := Aside0.mk (below_step (by repeat (first | (with_reducible first | exact HB.out | apply below_alloc | apply pw_below_drewN | apply below_drew1 | refine below_set ?_ GE859.out | refine below_set ?_ GE872.out | refine below_set ?_ GE876.out | refine below_set ?_ GE884.out) | exact HB.out)) hb)
              clear HO_10
              clear HO_877000
              clear HO888
              clear BK859
              clear BK872
              clear BK876
              clear BK884
              clear HB
              have HO_10 := n0_
              have HO_877000 := n1_
              have HO888 := n2_
              have BK859 := n3_
              have BK872 := n4_
              have BK876 := n5_
              have BK884 := n6_
              have HB := n7_
              clear n0_ n1_ n2_ n3_ n4_ n5_ n6_ n7_
              (try clear hb)
              (try clear hb2)
              (try clear hk)
              (try clear hi)
              refine hK.out _ _ ⟨(blk_cell BK876.out 0).trans rfl, (blk_cell BK859.out 0).trans rfl⟩ (fun hHeld => ?_)
              clear hK K
              refine norm_ (a' := ?_) ?_ ?_
              rotate_left
              · show Act.put _ (some 61) _ = _
                simp only [Act.put, List.setIfInBounds_toArray, List.set_cons_zero, List.set_cons_succ, i64_w, i32_w]
                rfl
              refine pure_ (i := 4) (N := some 62) (v := ?_) (a' := ?_) #[true, true, true, true, true] rfl rfl (by kernel_rfl) (fun _ _ _ h => h) (Or.inl ⟨by rfl, ?_⟩) ?_ ?_
              rotate_left
              · intro w'
                go_simp
                with_reducible rfl
              rotate_left
              · simp only [Act.put, List.setIfInBounds_toArray, List.set_cons_zero, List.set_cons_succ, i64_w, i32_w]
                rfl
              refine done_ (by kernel_rfl) ?_
              try go_wp2
              go_ret
              exact ⟨by first | rfl | (simp [errW_none, errW_some] <;> rfl) | (simp [*, errW_none, errW_some] <;> rfl), by repeat (first | (with_reducible first | exact HB.out | apply below_alloc | apply pw_below_drewN | apply below_drew1 | refine below_set ?_ GE859.out | refine below_set ?_ GE872.out | refine below_set ?_ GE876.out | refine below_set ?_ GE884.out) | exact HB.out)⟩

end Go.Proofs.Ytpbboooeahmgpaa.P


/- FirstClash: what both sides come to. -/
namespace Go.Proofs.Ytpbboooeahmgpaa.P
open Go.RowKit Go.Proofs.YtpbboooeahmgpaaW.PrintWords Go.Proofs.YtpbboooeahmgpaaW.PrintMore
set_option linter.unusedVariables false
set_option linter.unusedSimpArgs false
theorem loansB_q {m : List (List Int)} {l : List SimplLoan} (h : loansB m l = true) : memB m = true ∧ (∀ x ∈ l, rangeL x) ∧ l.length ≤ 8 := by
  unfold loansB at h
  simp only [Bool.and_eq_true, decide_eq_true_eq, List.all_eq_true] at h
  exact ⟨h.1.1, fun x hx => rangeL_of h.1.1 (h.1.2 x hx), h.2⟩
/-- A pair of numbers of loans in conflict. -/
def pairOk (ls : List SimplLoan) (p : SA2int) : Prop := ∃ (i k : Nat) (a b : SimplLoan), p = ⟨(i : Int), (k : Int)⟩ ∧ ls[i]? = some a ∧ ls[k]? = some b ∧ confB a b = true
theorem rowP_mem (ls : List SimplLoan) (a : SimplLoan) (i : Nat) (hi : ls[i]? = some a) (suf : List SimplLoan) : ∀ (pre : List SimplLoan), ls = pre ++ suf → ∀ p ∈ rowP a i pre.length suf, pairOk ls p := by
  induction suf with
  | nil => intro pre h p hp; cases hp
  | cons b r ih =>
    intro pre h p hp
    have h2 := ih (pre ++ [b]) (by simpa using h)
    simp only [List.length_append, List.length_singleton] at h2
    unfold rowP at hp
    split at hp
    · rename_i hc
      rcases List.mem_cons.1 hp with rfl | hp
      · exact ⟨i, pre.length, a, b, rfl, hi, by rw [h]; simp, hc⟩
      · exact h2 p hp
    · exact h2 p hp
theorem prs_mem (ls : List SimplLoan) (suf : List SimplLoan) : ∀ (pre : List SimplLoan), ls = pre ++ suf → ∀ p ∈ prs pre.length suf, pairOk ls p := by
  induction suf with
  | nil => intro pre h p hp; cases hp
  | cons a r ih =>
    intro pre h p hp
    have h1 := rowP_mem ls a pre.length (by rw [h]; simp) r (pre ++ [a]) (by simpa using h)
    have h2 := ih (pre ++ [a]) (by simpa using h)
    simp only [List.length_append, List.length_singleton] at h1 h2
    rcases List.mem_append.1 hp with hp | hp
    · exact h1 p hp
    · exact h2 p hp
theorem prs_length_le (l : List SimplLoan) : ∀ i, (prs i l).length ≤ l.length * l.length := by
  induction l with
  | nil => intro i; simp [prs]
  | cons a r ih =>
    intro i
    have h1 := rowP_length a i r (i + 1)
    have h2 := ih (i + 1)
    unfold prs
    rw [List.length_append, List.length_cons, Nat.add_mul, Nat.mul_add]
    omega
def cT (ls : List SimplLoan) (p : SA2int) : Int := mx (rd_TimplLoan ls p.f0).f2 (rd_TimplLoan ls p.f1).f2
def fcGo (ls : List SimplLoan) : List SA2int → Int → Int → Int → Bool → Int × Int × Int × Bool
  | [], t, a, b, ok => (t, a, b, ok)
  | p :: r, t, a, b, ok => if ok = true then (if cT ls p < t then fcGo ls r (cT ls p) p.f0 p.f1 true else fcGo ls r t a b ok) else fcGo ls r (cT ls p) p.f0 p.f1 true
theorem rdA_mid (pre : List SA2int) (x : SA2int) (suf : List SA2int) : rd_TA2int (pre ++ x :: suf) (pre.length : Int) = x := by
  unfold rd_TA2int
  simp
theorem pairOk_in {ls : List SimplLoan} {p : SA2int} (h : pairOk ls p) : (0 ≤ p.f0 ∧ p.f0 < (ls.length : Int)) ∧ (0 ≤ p.f1 ∧ p.f1 < (ls.length : Int)) ∧ rd_TimplLoan ls p.f0 ∈ ls ∧ rd_TimplLoan ls p.f1 ∈ ls ∧ confB (rd_TimplLoan ls p.f0) (rd_TimplLoan ls p.f1) = true := by
  obtain ⟨i, k, a, b, rfl, ha, hb, hc⟩ := h
  have hi : i < ls.length := by
    rcases Nat.lt_or_ge i ls.length with h | h
    · exact h
    · rw [List.getElem?_eq_none h] at ha; cases ha
  have hk : k < ls.length := by
    rcases Nat.lt_or_ge k ls.length with h | h
    · exact h
    · rw [List.getElem?_eq_none h] at hb; cases hb
  have e1 : rd_TimplLoan ls (i : Int) = a := by unfold rd_TimplLoan; rw [Int.toNat_natCast, List.getD_eq_getElem?_getD, ha]; rfl
  have e2 : rd_TimplLoan ls (k : Int) = b := by unfold rd_TimplLoan; rw [Int.toNat_natCast, List.getD_eq_getElem?_getD, hb]; rfl
  refine ⟨by simp only; omega, by simp only; omega, ?_, ?_, ?_⟩
  · simp only [e1]; exact List.mem_of_getElem? ha
  · simp only [e2]; exact List.mem_of_getElem? hb
  · simp only [e1, e2]; exact hc
theorem implClash_ev (ls : List SimplLoan) (suf : List SA2int) : ∀ (pre : List SA2int) (t a b : Int) (ok : Bool), pre.length + suf.length ≤ 1000000 → (∀ p ∈ suf, pairOk ls p) →
    Ev (fun k => impl_FirstClash.l0 k ls t ok (pre ++ suf) ((pre ++ suf).length : Int) (pre.length : Int) a b) (fcGo ls suf t a b ok) := by
  induction suf with
  | nil =>
    intro pre t a b ok h1 h2
    refine Ev.step (fun k => ?_) (Ev.now _)
    simp only [impl_FirstClash.l0]
    rw [if_neg (by simp)]
    rfl
  | cons p r ih =>
    intro pre t a b ok h1 h2
    simp only [List.length_cons] at h1
    obtain ⟨h3, h4, _, _, _⟩ := pairOk_in (h2 p (by simp))
    have hs : ∀ t' a' b' ok', Ev (fun k => impl_FirstClash.l0 k ls t' ok' (pre ++ p :: r) ((pre ++ p :: r).length : Int) (wrap64 ((pre.length : Int) + 1)) a' b') (fcGo ls r t' a' b' ok') := by
      intro t' a' b' ok'
      have := ih (pre ++ [p]) t' a' b' ok' (by simp; omega) (fun q hq => h2 q (by simp [hq]))
      rw [wrap_len (by omega)]
      simpa using this
    have step : ∀ k, impl_FirstClash.l0 (k + 1) ls t ok (pre ++ p :: r) ((pre ++ p :: r).length : Int) (pre.length : Int) a b = (if ok = true then (if cT ls p < t then impl_FirstClash.l0 k ls (cT ls p) true (pre ++ p :: r) ((pre ++ p :: r).length : Int) (wrap64 ((pre.length : Int) + 1)) p.f0 p.f1 else impl_FirstClash.l0 k ls t ok (pre ++ p :: r) ((pre ++ p :: r).length : Int) (wrap64 ((pre.length : Int) + 1)) a b) else impl_FirstClash.l0 k ls (cT ls p) true (pre ++ p :: r) ((pre ++ p :: r).length : Int) (wrap64 ((pre.length : Int) + 1)) p.f0 p.f1) := by
      intro k
      simp only [impl_FirstClash.l0]
      rw [if_pos (by simp; omega), if_pos (by omega), if_pos (by simp; omega), rdA_mid, if_pos h3.1, if_pos h3.2, if_pos h4.1, if_pos h4.2]
      rfl
    refine Ev.step step ?_
    unfold fcGo
    by_cases hok : ok = true
    · simp only [if_pos hok]
      by_cases hc : cT ls p < t
      · simp only [if_pos hc]; exact hs _ _ _ _
      · simp only [if_neg hc]; exact hs _ _ _ _
    · simp only [if_neg hok]; exact hs _ _ _ _
theorem specClash_ev (ls : List SimplLoan) (hr : ∀ y ∈ ls, rangeL y) (suf : List SA2int) : ∀ (pre : List SA2int) (best t a b : Int) (ok : Bool), pre.length + suf.length ≤ 1000000 → (∀ p ∈ suf, pairOk ls p) → (ok = true → best = t ∧ 0 ≤ t) → (ok = false → best = -1 ∧ t = 0) →
    Ev (fun k => spec_FirstClash.l0 k ls (pre ++ suf) best (pre.length : Int) a b) (fcGo ls suf t a b ok) := by
  induction suf with
  | nil =>
    intro pre best t a b ok h1 h2 h3 h4
    refine Ev.step (f := fun _ => some (mx best 0, a, b, decide (best ≥ 0))) (fun k => ?_) ?_
    · simp only [spec_FirstClash.l0]
      rw [if_neg (by simp), l1Most_f, Option.bind_some]
    · unfold fcGo
      cases ok
      · obtain ⟨rfl, rfl⟩ := h4 rfl
        exact Ev.now _
      · obtain ⟨rfl, h5⟩ := h3 rfl
        have e1 : mx best 0 = best := by unfold mx; rw [if_neg (by omega)]
        rw [e1, decide_eq_true h5]
        exact Ev.now _
  | cons p r ih =>
    intro pre best t a b ok h1 h2 h3 h4
    simp only [List.length_cons] at h1
    obtain ⟨h5, h6, h7, h8, h9⟩ := pairOk_in (h2 p (by simp))
    have hcl := l10Clash_f (rd_TimplLoan ls p.f0) (rd_TimplLoan ls p.f1) (hr _ h7) (hr _ h8)
    rw [if_pos h9] at hcl
    have hge : 0 ≤ cT ls p := mx_nonneg (hr _ h7)
    have hs : ∀ best' t' a' b' ok', (ok' = true → best' = t' ∧ 0 ≤ t') → (ok' = false → best' = -1 ∧ t' = 0) → Ev (fun k => spec_FirstClash.l0 k ls (pre ++ p :: r) best' (wrap64 ((pre.length : Int) + 1)) a' b') (fcGo ls r t' a' b' ok') := by
      intro best' t' a' b' ok' h10 h11
      have := ih (pre ++ [p]) best' t' a' b' ok' (by simp; omega) (fun q hq => h2 q (by simp [hq])) h10 h11
      rw [wrap_len (by omega)]
      simpa using this
    have step : ∀ k, spec_FirstClash.l0 (k + 1) ls (pre ++ p :: r) best (pre.length : Int) a b = (if best < 0 then spec_FirstClash.l0 k ls (pre ++ p :: r) (cT ls p) (wrap64 ((pre.length : Int) + 1)) p.f0 p.f1 else if cT ls p < best then spec_FirstClash.l0 k ls (pre ++ p :: r) (cT ls p) (wrap64 ((pre.length : Int) + 1)) p.f0 p.f1 else spec_FirstClash.l0 k ls (pre ++ p :: r) best (wrap64 ((pre.length : Int) + 1)) a b) := by
      intro k
      simp only [spec_FirstClash.l0]
      rw [if_pos (by simp; omega), if_pos (by omega), rdA_mid, if_pos h5.1, if_pos h5.2, if_pos h6.1, if_pos h6.2, hcl, Option.bind_some]
      rfl
    refine Ev.step step ?_
    unfold fcGo
    cases ok
    · obtain ⟨rfl, rfl⟩ := h4 rfl
      simp only [if_pos (show (-1 : Int) < 0 by omega), Bool.false_eq_true, if_false]
      exact hs _ _ _ _ _ (fun _ => ⟨rfl, hge⟩) (fun h => by cases h)
    · obtain ⟨rfl, h10⟩ := h3 rfl
      simp only [if_neg (show ¬ best < 0 by omega), if_true]
      by_cases hc : cT ls p < best
      · simp only [if_pos hc]
        exact hs _ _ _ _ _ (fun _ => ⟨rfl, hge⟩) (fun h => by cases h)
      · simp only [if_neg hc]
        exact hs _ _ _ _ _ (fun _ => ⟨rfl, h10⟩) (fun h => by cases h)
def firstClash (m : List (List Int)) (l : List SimplLoan) : Int × Int × Int × Bool := if loansB m l = true then fcGo l (prs 0 l) 0 0 0 false else (0, 0, 0, false)
theorem prs_small {l : List SimplLoan} (h : l.length ≤ 8) : (prs 0 l).length ≤ 1000 := by
  have h1 := prs_length_le l 0
  have h2 : l.length * l.length ≤ 8 * 8 := Nat.mul_le_mul h h
  omega
theorem specClash_f (m : List (List Int)) (l : List SimplLoan) (hm : okM m) (hl : l.length ≤ 1048576) (hw : ∀ x ∈ l, wfL x) : Ev (fun k => spec_FirstClash.f k m l) (firstClash m l) := by
  refine Ev.bind (l10Loans_f m l hm (by omega) hw) ?_
  unfold firstClash
  cases h : loansB m l
  · exact Ev.now _
  · simp only [if_true]
    obtain ⟨_, h1, h2⟩ := loansB_q h
    refine Ev.bind (pairs_f l h1 (by omega)) ?_
    have := specClash_ev l h1 (prs 0 l) [] (-1) 0 0 0 false (by have := prs_small h2; simp; omega) (prs_mem l l [] rfl) (fun h => by cases h) (fun _ => ⟨rfl, rfl⟩)
    exact this
theorem implClash_f (m : List (List Int)) (l : List SimplLoan) : Ev (fun k => impl_FirstClash.f k m l) (firstClash m l) := by
  unfold firstClash impl_FirstClash.f
  rw [areLoans_f]
  simp only [Option.bind_some]
  cases h : loansB m l
  · exact Ev.now _
  · simp only [if_true]
    obtain ⟨_, h1, h2⟩ := loansB_q h
    refine Ev.bind (conflicts_f l h1 (by omega)) ?_
    exact implClash_ev l (prs 0 l) [] 0 0 0 false (by have := prs_small h2; simp; omega) (prs_mem l l [] rfl)
theorem clash_j (l1 : List SlawsLoan) (m : List (List Int)) (hm : okM m) (hl : l1.length ≤ 1048576) : Ev (fun k => laws_FnExactFirstClash.j0 k l1 (l1.map loanOf) false m m) true := by
  refine Ev.step (f := fun k => (laws_toMemory.f m).bind fun t => (laws_eqMemory.f k m t).bind fun t2 => if t2 = true then (laws_toLoanS.f k l1).bind fun t3 => (laws_eqLoanS.f k (l1.map loanOf) t3).bind fun t4 => if t4 = true then some true else some false else some false) (fun k => ?_) ?_
  · simp only [laws_FnExactFirstClash.j0]
    rw [if_neg (by decide)]
  · simp only [toMemory_f m hm, Option.bind_some]
    refine Ev.bind (eqMemory_f m hm.len hm.rows) ?_
    simp only [if_true]
    refine Ev.bind (toLoanS_f l1 hl) ?_
    refine Ev.bind (eqLoanS_f _ (by simp; omega)) ?_
    exact Ev.now _
theorem FnExactFirstClash_ev (m : List (List Int)) (ls : List SlawsLoan) (hl : m.length ≤ 9223372036854775807) (h3 : ∀ x ∈ m, x.length ≤ 9223372036854775807) (hw : ls.length ≤ 9223372036854775807) (hwf : ∀ x ∈ ls, wfL (loanOf x)) :
    Ev (fun k => laws_FnExactFirstClash.f k m ls) true := by
  obtain ⟨r, hr, hh⟩ := szMemory_f m 1048576 (by omega) (by omega) hl h3
  refine Ev.bind hr ?_
  rcases hh with ⟨hm, h5, h6⟩ | rfl
  · simp only [if_neg (show ¬ r < 0 by omega), szLoanS_f ls r h5 h6 hw, Option.bind_some]
    by_cases h7 : (ls.length : Int) ≤ r
    · simp only [if_pos h7, if_neg (show ¬ r - (ls.length : Int) < 0 by omega), toMemory_f m hm, Option.bind_some]
      have hn : ls.length ≤ 1048576 := by omega
      refine Ev.bind (toLoanS_f ls hn) ?_
      refine Ev.bind (specClash_f m (ls.map loanOf) hm (by simp; omega) (by intro x hx; obtain ⟨y, hy, rfl⟩ := List.mem_map.1 hx; exact hwf y hy)) ?_
      refine Ev.bind (toLoanS_f ls hn) ?_
      refine Ev.bind (implClash_f m (ls.map loanOf)) ?_
      have he : ∀ a b, laws_eqIntA2.f a b a b = some true := fun a b => if_pos ⟨rfl, rfl⟩
      simp only [if_true, bne_self_eq_false, he, Option.bind_some]
      exact clash_j ls m hm hn
    · simp only [if_neg h7, if_pos (show (-1 : Int) < 0 by omega)]
      exact Ev.now _
  · simp only [if_pos (show (-1 : Int) < 0 by omega)]
    exact Ev.now _
end Go.Proofs.Ytpbboooeahmgpaa.P


/- From a row's reading of an argument to what the print's kinds say of it. -/
namespace Go.Proofs.YtpbboooeahmgpaaW.Mine
open Go.RowKit Go.Proofs.YtpbboooeahmgpaaW.PrintWords
set_option linter.unusedVariables false
/-- Whatever reads as data of type T is of the kind d, and ok. -/
def ReadsK {α : Type} (P : Program) (T : TypeId) (d : Kd α) (ok : α → Prop) : Prop :=
  ∀ {H : Type} {enc : TypeId × Value → H} {w : World} {base : Nat} {spare : Nat → Bool} {held : Bool} {fuel : Nat} {cs : List Value} {x : DataW H × List MemPlace}, DataW.trod enc P w base spare held fuel T cs = some x → ∃ a : α, d.K w a cs ∧ ok a
theorem ReadsK.int {P : Program} {T : TypeId} {k : IntKind} (hT : P.underlying T = some (.int k)) : ReadsK P T (Kd.int k) (fun n => (Lit.int k n).wf = true) := by
  intro H enc w base spare held fuel cs x h
  obtain ⟨n, rfl, _, hw⟩ := DataW.trod_int hT h
  exact ⟨n, rfl, hw⟩
theorem ReadsK.bool {P : Program} {T : TypeId} (hT : P.underlying T = some .bool) : ReadsK P T Kd.bool (fun _ => True) := by
  intro H enc w base spare held fuel cs x h
  obtain ⟨b, rfl, _⟩ := DataW.trod_bool hT h
  exact ⟨b, rfl, trivial⟩
theorem exists_list {α : Type} {n : Nat} {p : Nat → α → Prop} (h : ∀ i, i < n → ∃ a, p i a) : ∃ l : List α, l.length = n ∧ ∀ i a, l[i]? = some a → p i a := by
  induction n with
  | zero => exact ⟨[], rfl, fun i a hi => by simp at hi⟩
  | succ n ih =>
    obtain ⟨l, hl, hp⟩ := ih (fun i hi => h i (by omega))
    obtain ⟨a, ha⟩ := h n (by omega)
    refine ⟨l ++ [a], by simp [hl], fun i b hb => ?_⟩
    rcases Nat.lt_or_ge i n with hi | hi
    · rw [List.getElem?_append_left (by omega)] at hb
      exact hp i b hb
    · have hi2 : i = n := by
        have := (List.getElem?_eq_some_iff.1 hb).1
        simp [hl] at this
        omega
      subst hi2
      rw [← hl, List.getElem?_append_right (Nat.le_refl _)] at hb
      simp at hb
      rw [← hb]
      exact ha
theorem ReadsK.slice {α : Type} {P : Program} {T e : TypeId} {d : Kd α} {ok : α → Prop} (hT : P.underlying T = some (.slice e)) (hc : P.cellsOf e = d.sz) (h1 : ReadsK P e d ok) : ReadsK P T (Kd.slice e d) (fun xs => ∀ x ∈ xs, ok x) := by
  intro H enc w base spare held fuel cs x h
  rcases Deep.open_slice hT h with ⟨rfl, _⟩ | ⟨a, len, cap, m, n, D, Pl, rfl, hb, hl, hm, hmm, _, hx⟩
  · exact ⟨[], ⟨none, 0, rfl, Nat.le_refl _, rfl, by simp, fun h => absurd h (by simp)⟩, fun x hx => by simp at hx⟩
  · have hlm : len ≤ m := by rw [hmm]; split <;> omega
    obtain ⟨l, hll, hp⟩ := exists_list (n := len) (p := fun i y => ∃ cs', w.cells? base (a.add (i * P.cellsOf e)) (P.cellsOf e) = some cs' ∧ d.K w y cs' ∧ ok y) (fun i hi => by
      obtain ⟨cs', h2, h3⟩ := hx i (by omega)
      obtain ⟨y, hy, hok⟩ := h1 h3
      exact ⟨y, cs', h2, hy, hok⟩)
    refine ⟨l, ⟨some a, cap, by rw [hll], by omega, rfl, ?_, fun hn => ⟨a, rfl, fun j p hj => ?_⟩⟩, fun y hy => ?_⟩
    · rw [hll]; unfold maxLen at hm; omega
    · obtain ⟨cs', h2, h3, _⟩ := hp j p hj
      obtain ⟨_, hlen, hcell⟩ := World.cells?_some h2
      refine ⟨cs', by rw [hlen, hc], h3, fun i u hu => ?_⟩
      have hi : i < P.cellsOf e := by
        have := (List.getElem?_eq_some_iff.1 hu).1
        omega
      have h4 := hcell i hi
      rw [hu] at h4
      rw [← h4, ← hc]
      congr 1
      unfold Addr.add
      by_cases z1 : j * P.cellsOf e = 0 <;> by_cases z2 : i = 0 <;> simp [z1, z2, Nat.add_assoc]
    · obtain ⟨j, hj, rfl⟩ := List.mem_iff_getElem.1 hy
      obtain ⟨_, _, _, hok⟩ := hp j _ (List.getElem?_eq_getElem hj)
      exact hok
/-- The fields from offset o on. -/
def ReadsF {α : Type} (P : Program) (o : Nat) (fs : List Field) (d : Kd α) (ok : α → Prop) : Prop :=
  ∀ {H : Type} {enc : TypeId × Value → H} {w : World} {base : Nat} {spare : Nat → Bool} {held : Bool} {n : Nat} {cs : List Value}, (∀ f ∈ fs, ∃ x, DataW.trod enc P w base spare held n f.type ((cs.drop f.offset).take (P.cellsOf f.type)) = some x) → ∃ a : α, d.K w a ((cs.drop o).take d.sz) ∧ ok a
theorem ReadsF.last {α : Type} {P : Program} {o : Nat} {f : Field} {d : Kd α} {ok : α → Prop} (ho : f.offset = o) (h : ReadsK P f.type d ok) (hc : P.cellsOf f.type = d.sz) : ReadsF P o [f] d ok := by
  intro H enc w base spare held n cs hh
  obtain ⟨x, hx⟩ := hh f (by simp)
  rw [ho, hc] at hx
  exact h hx
theorem ReadsF.cons {α β : Type} {P : Program} {o : Nat} {f : Field} {fs : List Field} {d : Kd α} {d2 : Kd β} {ok : α → Prop} {ok2 : β → Prop} (ho : f.offset = o) (h : ReadsK P f.type d ok) (hc : P.cellsOf f.type = d.sz) (h2 : ReadsF P (o + d.sz) fs d2 ok2) : ReadsF P o (f :: fs) (Kd.pair d d2) (fun p => ok p.1 ∧ ok2 p.2) := by
  intro H enc w base spare held n cs hh
  obtain ⟨x, hx⟩ := hh f (by simp)
  rw [ho, hc] at hx
  obtain ⟨a, ha, hok⟩ := h hx
  obtain ⟨b, hb, hok2⟩ := h2 (fun g hg => hh g (by simp [hg]))
  refine ⟨(a, b), ⟨_, _, ?_, ha, hb⟩, hok, hok2⟩
  show (cs.drop o).take (d.sz + d2.sz) = _
  rw [List.take_add, List.drop_drop]
theorem ReadsK.struct {α : Type} {P : Program} {T : TypeId} {fs : Array Field} {d : Kd α} {ok : α → Prop} (hT : P.underlying T = some (.struct fs)) (hc : P.cellsOf T = d.sz) (h : ReadsF P 0 fs.toList d ok) : ReadsK P T d ok := by
  intro H enc w base spare held fuel cs x hx
  obtain ⟨xs, n, _, _, hl, hlen, hf⟩ := DataW.trod_struct hT hx
  obtain ⟨a, ha, hok⟩ := h (n := n) (cs := cs) (enc := enc) (w := w) (base := base) (spare := spare) (held := held) (fun f hf2 => by
    obtain ⟨i, hi, rfl⟩ := List.mem_iff_getElem.1 hf2
    have h1 := hf i fs[i] (by simp at hi; exact Array.getElem?_eq_getElem hi)
    have hi2 : i < xs.length := by simp at hi; omega
    rw [List.getElem?_eq_getElem hi2] at h1
    exact ⟨_, by simpa using h1⟩)
  refine ⟨a, ?_, hok⟩
  rwa [List.drop_zero, ← hc, ← hl, List.take_length] at ha
theorem ReadsK.iso {α β : Type} {P : Program} {T : TypeId} {d : Kd α} {ok : α → Prop} (h : ReadsK P T d ok) (f : β → α) (g : α → β) (hfg : ∀ a, f (g a) = a) : ReadsK P T (Kd.iso d f) (fun b => ok (f b)) := by
  intro H enc w base spare held fuel cs x hx
  obtain ⟨a, ha, hok⟩ := h hx
  refine ⟨g a, ?_, by show ok (f (g a)); rw [hfg]; exact hok⟩
  show d.K w (f (g a)) cs
  rw [hfg]
  exact ha
theorem agg_of {cs : Array Value} {L : List Value} (h : cs.toList = L) : cs = L.toArray := by rw [← h]
end Go.Proofs.YtpbboooeahmgpaaW.Mine


/- The law FnExactFirstClash. -/
namespace Go.Proofs.Ytpbboooeahmgpaa.P
open Go.RowKit Go.Proofs.YtpbboooeahmgpaaW.PrintWords Go.Proofs.YtpbboooeahmgpaaW.Mine
set_option linter.unusedVariables false
theorem FnExactFirstClash_walk (w : World) (cs0 : Array Value) (a0 : (List (List Int))) (hK0 : (Kd.slice 22 (Kd.slice 5 (Kd.int .u8))).K w a0 cs0.toList) (ok0 : (∀ y1 ∈ a0, (∀ y2 ∈ y1, (Lit.int .u8 y2).wf = true))) (A1 : Option Addr) (len1 cap1 : Nat) (a1 : (List SlawsLoan)) (hK1 : (Kd.slice 53 klawsLoan).K w a1 [.slice A1 len1 cap1]) (ok1 : (∀ y1 ∈ a1, (((Lit.int .i64 y1.f0.f0).wf = true ∧ (Lit.int .i64 y1.f0.f1).wf = true ∧ (Lit.int .i64 y1.f0.f2).wf = true ∧ (Lit.int .i64 y1.f0.f3).wf = true) ∧ True ∧ (Lit.int .i64 y1.f2).wf = true ∧ (Lit.int .i64 y1.f3).wf = true))) :
    Calls Try.prog 8 #[.agg cs0, .slice A1 len1 cap1] w fun e w' => e = .returned (.bool true) ∧ Below w.heap.size w w' := by
  obtain ⟨A0, c0, hcs0, hc0, hr0⟩ := hK0
  obtain rfl := agg_of hcs0
  obtain ⟨_, _, he1, hc1, hr1⟩ := hK1
  cases he1
  have hwf : ∀ x ∈ a1, wfL (loanOf x) := fun x hx => wf_i64 (ok1 x hx).1.2.1
  obtain ⟨k, hk⟩ := (FnExactFirstClash_ev a0 a1 hr0.2.1 (C_inner_len hr0) hr1.2.1 hwf).rounds
  exact laws_FnExactFirstClash.calls (hr0_0 := hr0) (hc0_0 := hc0) (hr1 := hr1) (hc1 := hc1) (h := hk)
end Go.Proofs.Ytpbboooeahmgpaa.P


namespace Go.Proofs.Ytpbboooeahmgpaa.fnExactFirstClash
open Go.ChangeShapes Go.WideShapes Go.ChangeAt Go.RowKit Go.Proofs.YtpbboooeahmgpaaW.PrintWords Go.Proofs.YtpbboooeahmgpaaW.Mine Go.Proofs.Ytpbboooeahmgpaa.P
open Go.ChangeMaps (open_string shut_string)
set_option linter.unusedVariables false
theorem own : ownKnob Try.prog.godebug = none := by kernel_rfl
theorem laidOut : laidOutB Try.prog = true := by kernel_rfl
set_option maxRecDepth 100000 in
theorem lifted (os : Os) (started : os.Started) (H : Type) (enc : TypeId × Value → H) :
    ReturnsInHanded {} Try.checked os 8 .any (Rows.fnExactFirstClashSpec.pre6 enc Try.prog Try.f8 Rows.fnExactFirstClashRow.domain false) (Rows.fnExactFirstClashSpec.post enc Try.prog Try.f8 false true false false) := by
  refine returnsInHanded_of_change_sized (C := Try.checked) own started (by kernel_rfl) Try.func8
    (ChangeSpec.witness6 (enc := enc) (C := Try.checked) false ⟨#[], #[.agg #[.slice none 0 0], .slice none 0 0], []⟩ 8 (by kernel_rfl) (by kernel_rfl) (by kernel_rfl) (by kernel_rfl)) ?_
  intro W base args ds gs before hval0 hW hcnd hsz0 _
  have hval : ∀ (j : Nat) t v, Try.f8.params[j]? = some t → args[j]? = some v → Value.okWide Try.prog W .any base t v := hval0
  have hW' := hW
  obtain ⟨p, q, hA0, hV, rfl, hfz, hnd⟩ := hW
  have hA : DataW.TrodAll enc Try.prog W 0 (fun _ => true) true Try.f8.params.toList args.toList ds p := hA0
  rw [Try.params8] at hA hval
  obtain ⟨v0, vs0, d0, ds0, p0, q0, hargs, rfl, rfl, h0, r0⟩ := trodAll_cons hA
  obtain ⟨v1, vs1, d1, ds1, p1, q1, rfl, rfl, rfl, h1, r1⟩ := trodAll_cons r0
  obtain ⟨rfl, rfl, rfl⟩ := trodAll_nil r1
  obtain rfl : args = #[v0, v1] := by cases args; simp_all
  obtain ⟨rfl, rfl⟩ := trodVars_none hV
  have k0 := h0
  have lt0 : ∀ x ∈ p0, x.block < W.heap.size := by obtain ⟨m, hm⟩ := k0; exact DataW.trod_lt m _ _ _ hm
  obtain ⟨cs0, rfl, _⟩ := okWide_struct Try.underlying49 (hval 0 49 v0 rfl rfl)
  obtain ⟨a0, hK0, ok0⟩ : ∃ a : (List (List Int)), (Kd.slice 22 (Kd.slice 5 (Kd.int .u8))).K W a cs0.toList ∧ (∀ y1 ∈ a, (∀ y2 ∈ y1, (Lit.int .u8 y2).wf = true)) := by obtain ⟨fuel, hf⟩ := h0; exact (ReadsK.struct Try.underlying49 (by kernel_rfl) (ReadsF.last rfl (ReadsK.slice Try.underlying24 (by kernel_rfl) (ReadsK.slice Try.underlying22 (by kernel_rfl) (ReadsK.int Try.underlying5))) (by kernel_rfl))) hf
  have k1 := h1
  have lt1 : ∀ x ∈ p1, x.block < W.heap.size := by obtain ⟨m, hm⟩ := k1; exact DataW.trod_lt m _ _ _ hm
  obtain ⟨A1, len1, cap1, rfl⟩ := okWide_slice Try.underlying50 (hval 1 50 v1 rfl rfl)
  obtain ⟨a1, hK1, ok1⟩ : ∃ a : (List SlawsLoan), (Kd.slice 53 klawsLoan).K W a [.slice A1 len1 cap1] ∧ (∀ y1 ∈ a, (((Lit.int .i64 y1.f0.f0).wf = true ∧ (Lit.int .i64 y1.f0.f1).wf = true ∧ (Lit.int .i64 y1.f0.f2).wf = true ∧ (Lit.int .i64 y1.f0.f3).wf = true) ∧ True ∧ (Lit.int .i64 y1.f2).wf = true ∧ (Lit.int .i64 y1.f3).wf = true)) := by obtain ⟨fuel, hf⟩ := h1; exact (ReadsK.slice Try.underlying50 (by kernel_rfl) (ReadsK.iso (ReadsK.struct Try.underlying53 (by kernel_rfl) (ReadsF.cons rfl (ReadsK.iso (ReadsK.struct Try.underlying51 (by kernel_rfl) (ReadsF.cons rfl (ReadsK.int Try.underlying3) (by kernel_rfl) (ReadsF.cons rfl (ReadsK.int Try.underlying3) (by kernel_rfl) (ReadsF.cons rfl (ReadsK.int Try.underlying3) (by kernel_rfl) (ReadsF.last rfl (ReadsK.int Try.underlying3) (by kernel_rfl)))))) (fun x : SlawsWindow => (x.f0, x.f1, x.f2, x.f3)) (fun a => (⟨a.1, a.2.1, a.2.2.1, a.2.2.2⟩ : SlawsWindow)) (fun _ => rfl)) (by kernel_rfl) (ReadsF.cons rfl (ReadsK.bool Try.underlying4) (by kernel_rfl) (ReadsF.cons rfl (ReadsK.int Try.underlying3) (by kernel_rfl) (ReadsF.last rfl (ReadsK.int Try.underlying3) (by kernel_rfl)))))) (fun x : SlawsLoan => (x.f0, x.f1, x.f2, x.f3)) (fun a => (⟨a.1, a.2.1, a.2.2.1, a.2.2.2⟩ : SlawsLoan)) (fun _ => rfl))) hf
  clear hA0 hval0 hsz0
  refine (FnExactFirstClash_walk W cs0 a0 hK0 ok0 A1 len1 cap1 a1 hK1 ok1).mono fun e W' ⟨he, bel⟩ => ?_
  subst he
  exact ⟨_, rfl, _, _, _, [], _, [], hW', trodAll_mk1 (shut_bool Try.underlying4 _), (trodAll_cons_mk (Below.trod laidOut (by kernel_rfl) (of_decide_eq_true (by kernel_rfl)) k0 bel lt0) (trodAll_cons_mk (Below.trod laidOut (by kernel_rfl) (of_decide_eq_true (by kernel_rfl)) k1 bel lt1) trodAll_mk0)), rfl, bel.frame _, fun h => by cases h⟩
theorem over : Rows.fnExactFirstClashRow.holds Try.pinned (OpenSpec.ofChange Rows.fnExactFirstClashSpec) :=
  OpenClaim.holds_of_wide 8 Try.f8 rfl rfl rfl rfl rfl rfl rfl ⟨rfl, rfl, rfl, rfl, rfl⟩ rfl rfl rfl rfl rfl (by kernel_rfl) Try.func8 (by kernel_rfl)
    (of_decide_eq_true (by kernel_rfl)) (by unfold Func.isWrapper; first | (rw [if_pos (by decide +kernel)]; kernel_rfl) | (rw [if_neg (by decide +kernel)]; exact ⟨rfl, rfl⟩))
    (fun os started H enc _ => lifted os started H enc)
theorem proved : Rows.FnExactFirstClashSaid := over
end Go.Proofs.Ytpbboooeahmgpaa.fnExactFirstClash
namespace Go.Proofs.Ytpbboooeahmgpaa
theorem fnExactFirstClash_holds : Rows.FnExactFirstClashSaid := fnExactFirstClash.proved
#print axioms fnExactFirstClash_holds
end Go.Proofs.Ytpbboooeahmgpaa


