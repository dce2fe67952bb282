/- For all arguments, impl.NewDesk answers what spec.NewDesk answers, leaves its arguments alone, and shares nothing of what it returns.
   The row of the law FnExactNewDesk, out of its walk. Conditions: none. -/
import Derived.Test.YtoomjghabiojkaaQFnExactNewDesk2
import Derived.Test.YtoomjghabiojkaaRows
import Derived.WalkKit
import Derived.ProofKit
import Derived.OpenShut
import Derived.ShutString
import Derived.ChangeOld
import Derived.Below
import Derived.SizedLaws
import Derived.Test.YtoomjghabiojkaaWApart
import Derived.Test.YtoomjghabiojkaaWFoot
import Derived.Test.YtoomjghabiojkaaWKept
import Derived.Test.YtoomjghabiojkaaWLast
import Derived.Test.YtoomjghabiojkaaWMore
import Derived.Test.YtoomjghabiojkaaWN
import Derived.Test.YtoomjghabiojkaaWRepsOne
import Derived.Test.YtoomjghabiojkaaWShare
import Derived.Test.YtoomjghabiojkaaWTab
import Derived.Test.YtoomjghabiojkaaWWords
namespace Go.Proofs.Ytoomjghabiojkaa.P
open Go.RowKit Go.Proofs.YtoomjghabiojkaaW.PrintWords Go.Proofs.YtoomjghabiojkaaW.PrintLast Go.Proofs.YtoomjghabiojkaaW.PrintMore
attribute [local go_sem] max2_int min2_int max_two min_two max_three min_three max_four min_four   -- for this text's walks alone
set_option linter.unusedVariables false
set_option linter.unusedSimpArgs false

/-! ### laws_heldDesk: function 22 -/
def laws_heldDesk.f (k : Nat) (l0_0 : List (List Int)) (l0_1 : List (SimplWindow)) (a0_2 : Int) (a1 : Int) : Option (Int) := (laws_heldMemory.f k l0_0 a1).bind fun t203 => (if t203 < 0 then (some (-1)) else ((laws_heldWindowS.f k l0_1 t203).bind fun t204 => (if t204 < 0 then (some (-1)) else (some t204))))
set_option maxHeartbeats 8000000 in
set_option maxRecDepth 100000 in
theorem laws_heldDesk.calls (k : Nat) (A0_0 : Option Addr) (c0_0 : Nat) (l0_0 : List (List Int)) (A0_1 : Option Addr) (c0_1 : Nat) (l0_1 : List (SimplWindow)) (a0_2 : Int) (a1 : Int) (r : Int) (w : World) (hr0_0 : Kd.C (Kd.slice 5 (Kd.int .u8)) w A0_0 l0_0.length l0_0) (hc0_0 : l0_0.length ≤ c0_0) (hr0_1 : Kd.C kimplWindow w A0_1 l0_1.length l0_1) (hc0_1 : l0_1.length ≤ c0_1) (h : laws_heldDesk.f k l0_0 l0_1 a0_2 a1 = some r) :
    Calls Try.prog 22 #[.agg #[.slice A0_0 l0_0.length c0_0, .slice A0_1 l0_1.length c0_1, .int .i64 a0_2], .int .i64 a1] w fun e w' => e = .returned (.int .i64 r) ∧ Below w.heap.size w w' := by
  have hu29 := Try.underlying29
  have hu26 := Try.underlying26
  have HR0_0 := Aside0.mk hr0_0
  have HC0_0 := Aside0.mk hc0_0
  clear hr0_0 hc0_0
  have HR0_1 := Aside0.mk hr0_1
  have HC0_1 := Aside0.mk hc0_1
  clear hr0_1 hc0_1
  have HB := Aside0.mk (Below.refl w.heap.size w)
  have H : ((laws_heldMemory.f k l0_0 a1).bind fun t203 => (if t203 < 0 then (some (-1)) else ((laws_heldWindowS.f k l0_1 t203).bind fun t204 => (if t204 < 0 then (some (-1)) else (some t204))))) = some r := h
  clear h
  replace H := Option.bind_eq_some_iff.mp H
  obtain ⟨t203, A30, H⟩ := H
  replace H : (if t203 < 0 then (some (-1)) else ((laws_heldWindowS.f k l0_1 t203).bind fun t204 => (if t204 < 0 then (some (-1)) else (some t204)))) = some r := H
  have A3 := Aside0.mk A30
  clear A30
  by_cases c4 : t203 < 0
  · rw [if_pos c4] at H
    have c4b0 : decide (t203 < 0) = true := decide_eq_true c4
    clear c4
    obtain rfl := Option.some.inj H
    go_enter Try.func22, Try.ntmps22
    go_wp2_with (first | ((with_reducible refine gate_dst (N := 2) rfl ?_); refine box_event ?hg (N := 2) ?hd (cs := #[.slice A0_0 l0_0.length c0_0, .slice A0_1 l0_1.length c0_1, .int .i64 a0_2]) (t := 29) ?hr ?_; (case hd => rfl); (case hg => rfl); (case hr => first | (go_simp; done) | (go_simp; rfl)); intro gb202 hg w5 hbox hb; have n0_ := Aside0.mk (below_step (by repeat (first | (with_reducible first | exact HB.out | apply below_alloc | apply pw_below_drewN | apply below_drew1) | exact HB.out)) hb); have n1_ := Aside0.mk (hbox); have n2_ := Aside0.mk ((by rw [hg]; exact (below_size (by repeat (first | (with_reducible first | exact HB.out | apply below_alloc | apply pw_below_drewN | apply below_drew1) | exact HB.out))) : w.heap.size ≤ gb202)); have n3_ := Aside0.mk ((by rw [hg]; exact (below_size (by repeat (first | (with_reducible first | exact HB.out | apply below_alloc | apply pw_below_drewN | apply below_drew1) | exact HB.out))) : w.heap.size ≤ gb202)); clear HB; have HB := n0_; have BK202 := n1_; have GW202 := n2_; have GE202 := n3_; clear n0_ n1_ n2_ n3_; clear hb hbox hg; have hcz6_0 : w5.cell? ⟨gb202, 0, none⟩ = some (.slice A0_0 l0_0.length c0_0) := (blk_cell BK202.out 0).trans rfl; have hcz6_1 : w5.cell? ⟨gb202, 1, none⟩ = some (.slice A0_1 l0_1.length c0_1) := (blk_cell BK202.out 1).trans rfl; have hcz6_2 : w5.cell? ⟨gb202, 2, none⟩ = some (.int .i64 a0_2) := (blk_cell BK202.out 2).trans rfl; have hfz6_0 := blk_frozen BK202.out 0; have hfz6_1 := blk_frozen BK202.out 1; have hfz6_2 := blk_frozen BK202.out 2) | ((with_reducible refine gate_callee (f := 69) rfl ?_); refine goesL_ (some 8) rfl rfl Try.func69 (by kernel_rfl) rfl #[.agg #[.slice A0_0 l0_0.length c0_0], .int .i64 a1] rfl (by (try simp only [List.map_toArray, List.map_cons, List.map_nil]); first | done | rfl | (simp only [List.length_drop, List.length_take]; rfl)) ?_; (with_reducible refine (laws_heldMemory.calls k _ _ l0_0 a1 t203 _ ?side1 ?side2 A3.out).mono ?_); (case side1 => repeat (first | exact (Kd.C_below HR0_0.out HB.out) | (with_reducible refine Kd.C_alloc ?_ _) | (with_reducible refine Kd.C_drewN ?_ _) | (with_reducible refine Kd.C_drew ?_))); (case side2 => exact HC0_0.out); rintro e w7 ⟨rfl, hb⟩; refine ⟨_, rfl, ?_⟩; have n0_ := Aside0.mk (blk_below (g := gb202) (o := .cells #[.slice A0_0 l0_0.length c0_0, .slice A0_1 l0_1.length c0_1, .int .i64 a0_2] 29 (0, 0)) (by (with_reducible repeat (first | refine blk_drewN ?_ _ | refine blk_drew ?_ | refine blk_alloc ?_ _)); exact BK202.out) hb); have n1_ := Aside0.mk (below_step (by repeat (first | (with_reducible first | exact HB.out | apply below_alloc | apply pw_below_drewN | apply below_drew1 | refine below_set ?_ GE202.out) | exact HB.out)) hb); clear BK202; clear HB; have BK202 := n0_; have HB := n1_; clear n0_ n1_; (try clear hb); (try clear hb2); (try clear hk); (try clear hi)))
    go_ret
    exact ⟨by first | rfl | (simp [errW_none, errW_some] <;> rfl) | (simp [*, errW_none, errW_some] <;> rfl), by repeat (first | (with_reducible first | exact HB.out | apply below_alloc | apply pw_below_drewN | apply below_drew1 | refine below_set ?_ GE202.out) | exact HB.out)⟩
  · rw [if_neg c4] at H
    have c4b0 : decide (t203 < 0) = false := decide_eq_false c4
    clear c4
    replace H := Option.bind_eq_some_iff.mp H
    obtain ⟨t204, A80, H⟩ := H
    replace H : (if t204 < 0 then (some (-1)) else (some t204)) = some r := H
    have A8 := Aside0.mk A80
    clear A80
    by_cases c9 : t204 < 0
    · rw [if_pos c9] at H
      have c9b0 : decide (t204 < 0) = true := decide_eq_true c9
      clear c9
      obtain rfl := Option.some.inj H
      go_enter Try.func22, Try.ntmps22
      go_wp2_with (first | ((with_reducible refine gate_dst (N := 2) rfl ?_); refine box_event ?hg (N := 2) ?hd (cs := #[.slice A0_0 l0_0.length c0_0, .slice A0_1 l0_1.length c0_1, .int .i64 a0_2]) (t := 29) ?hr ?_; (case hd => rfl); (case hg => rfl); (case hr => first | (go_simp; done) | (go_simp; rfl)); intro gb202 hg w10 hbox hb; have n0_ := Aside0.mk (below_step (by repeat (first | (with_reducible first | exact HB.out | apply below_alloc | apply pw_below_drewN | apply below_drew1) | exact HB.out)) hb); have n1_ := Aside0.mk (hbox); have n2_ := Aside0.mk ((by rw [hg]; exact (below_size (by repeat (first | (with_reducible first | exact HB.out | apply below_alloc | apply pw_below_drewN | apply below_drew1) | exact HB.out))) : w.heap.size ≤ gb202)); have n3_ := Aside0.mk ((by rw [hg]; exact (below_size (by repeat (first | (with_reducible first | exact HB.out | apply below_alloc | apply pw_below_drewN | apply below_drew1) | exact HB.out))) : w.heap.size ≤ gb202)); clear HB; have HB := n0_; have BK202 := n1_; have GW202 := n2_; have GE202 := n3_; clear n0_ n1_ n2_ n3_; clear hb hbox hg; have hcz11_0 : w10.cell? ⟨gb202, 0, none⟩ = some (.slice A0_0 l0_0.length c0_0) := (blk_cell BK202.out 0).trans rfl; have hcz11_1 : w10.cell? ⟨gb202, 1, none⟩ = some (.slice A0_1 l0_1.length c0_1) := (blk_cell BK202.out 1).trans rfl; have hcz11_2 : w10.cell? ⟨gb202, 2, none⟩ = some (.int .i64 a0_2) := (blk_cell BK202.out 2).trans rfl; have hfz11_0 := blk_frozen BK202.out 0; have hfz11_1 := blk_frozen BK202.out 1; have hfz11_2 := blk_frozen BK202.out 2) | ((with_reducible refine gate_callee (f := 69) rfl ?_); refine goesL_ (some 8) rfl rfl Try.func69 (by kernel_rfl) rfl #[.agg #[.slice A0_0 l0_0.length c0_0], .int .i64 a1] rfl (by (try simp only [List.map_toArray, List.map_cons, List.map_nil]); first | done | rfl | (simp only [List.length_drop, List.length_take]; rfl)) ?_; (with_reducible refine (laws_heldMemory.calls k _ _ l0_0 a1 t203 _ ?side1 ?side2 A3.out).mono ?_); (case side1 => repeat (first | exact (Kd.C_below HR0_0.out HB.out) | (with_reducible refine Kd.C_alloc ?_ _) | (with_reducible refine Kd.C_drewN ?_ _) | (with_reducible refine Kd.C_drew ?_))); (case side2 => exact HC0_0.out); rintro e w12 ⟨rfl, hb⟩; refine ⟨_, rfl, ?_⟩; have n0_ := Aside0.mk (blk_below (g := gb202) (o := .cells #[.slice A0_0 l0_0.length c0_0, .slice A0_1 l0_1.length c0_1, .int .i64 a0_2] 29 (0, 0)) (by (with_reducible repeat (first | refine blk_drewN ?_ _ | refine blk_drew ?_ | refine blk_alloc ?_ _)); exact BK202.out) hb); have n1_ := Aside0.mk (below_step (by repeat (first | (with_reducible first | exact HB.out | apply below_alloc | apply pw_below_drewN | apply below_drew1 | refine below_set ?_ GE202.out) | exact HB.out)) hb); clear BK202; clear HB; have BK202 := n0_; have HB := n1_; clear n0_ n1_; (try clear hb); (try clear hb2); (try clear hk); (try clear hi); have hcz13_0 : w12.cell? ⟨gb202, 0, none⟩ = some (.slice A0_0 l0_0.length c0_0) := (blk_cell BK202.out 0).trans rfl; have hcz13_1 : w12.cell? ⟨gb202, 1, none⟩ = some (.slice A0_1 l0_1.length c0_1) := (blk_cell BK202.out 1).trans rfl; have hcz13_2 : w12.cell? ⟨gb202, 2, none⟩ = some (.int .i64 a0_2) := (blk_cell BK202.out 2).trans rfl; have hfz13_0 := blk_frozen BK202.out 0; have hfz13_1 := blk_frozen BK202.out 1; have hfz13_2 := blk_frozen BK202.out 2) | ((with_reducible refine gate_callee (f := 79) rfl ?_); refine goesL_ (some 14) rfl rfl Try.func79 (by kernel_rfl) rfl #[.slice A0_1 l0_1.length c0_1, .int .i64 t203] rfl (by (try simp only [List.map_toArray, List.map_cons, List.map_nil]); first | done | rfl | (simp only [List.length_drop, List.length_take]; rfl)) ?_; (with_reducible refine (laws_heldWindowS.calls k _ _ l0_1 t203 t204 _ ?side1 ?side2 A8.out).mono ?_); (case side1 => repeat (first | exact (Kd.C_below HR0_1.out HB.out) | (with_reducible refine Kd.C_alloc ?_ _) | (with_reducible refine Kd.C_drewN ?_ _) | (with_reducible refine Kd.C_drew ?_))); (case side2 => exact HC0_1.out); rintro e w' ⟨rfl, ⟨nd, rfl⟩⟩; refine ⟨_, rfl, ?_⟩))
      go_ret
      exact ⟨by first | rfl | (simp [errW_none, errW_some] <;> rfl) | (simp [*, errW_none, errW_some] <;> rfl), by repeat (first | (with_reducible first | exact HB.out | apply below_alloc | apply pw_below_drewN | apply below_drew1 | refine below_set ?_ GE202.out) | exact HB.out)⟩
    · rw [if_neg c9] at H
      have c9b0 : decide (t204 < 0) = false := decide_eq_false c9
      clear c9
      obtain rfl := Option.some.inj H
      go_enter Try.func22, Try.ntmps22
      go_wp2_with (first | ((with_reducible refine gate_dst (N := 2) rfl ?_); refine box_event ?hg (N := 2) ?hd (cs := #[.slice A0_0 l0_0.length c0_0, .slice A0_1 l0_1.length c0_1, .int .i64 a0_2]) (t := 29) ?hr ?_; (case hd => rfl); (case hg => rfl); (case hr => first | (go_simp; done) | (go_simp; rfl)); intro gb202 hg w14 hbox hb; have n0_ := Aside0.mk (below_step (by repeat (first | (with_reducible first | exact HB.out | apply below_alloc | apply pw_below_drewN | apply below_drew1) | exact HB.out)) hb); have n1_ := Aside0.mk (hbox); have n2_ := Aside0.mk ((by rw [hg]; exact (below_size (by repeat (first | (with_reducible first | exact HB.out | apply below_alloc | apply pw_below_drewN | apply below_drew1) | exact HB.out))) : w.heap.size ≤ gb202)); have n3_ := Aside0.mk ((by rw [hg]; exact (below_size (by repeat (first | (with_reducible first | exact HB.out | apply below_alloc | apply pw_below_drewN | apply below_drew1) | exact HB.out))) : w.heap.size ≤ gb202)); clear HB; have HB := n0_; have BK202 := n1_; have GW202 := n2_; have GE202 := n3_; clear n0_ n1_ n2_ n3_; clear hb hbox hg; have hcz15_0 : w14.cell? ⟨gb202, 0, none⟩ = some (.slice A0_0 l0_0.length c0_0) := (blk_cell BK202.out 0).trans rfl; have hcz15_1 : w14.cell? ⟨gb202, 1, none⟩ = some (.slice A0_1 l0_1.length c0_1) := (blk_cell BK202.out 1).trans rfl; have hcz15_2 : w14.cell? ⟨gb202, 2, none⟩ = some (.int .i64 a0_2) := (blk_cell BK202.out 2).trans rfl; have hfz15_0 := blk_frozen BK202.out 0; have hfz15_1 := blk_frozen BK202.out 1; have hfz15_2 := blk_frozen BK202.out 2) | ((with_reducible refine gate_callee (f := 69) rfl ?_); refine goesL_ (some 8) rfl rfl Try.func69 (by kernel_rfl) rfl #[.agg #[.slice A0_0 l0_0.length c0_0], .int .i64 a1] rfl (by (try simp only [List.map_toArray, List.map_cons, List.map_nil]); first | done | rfl | (simp only [List.length_drop, List.length_take]; rfl)) ?_; (with_reducible refine (laws_heldMemory.calls k _ _ l0_0 a1 t203 _ ?side1 ?side2 A3.out).mono ?_); (case side1 => repeat (first | exact (Kd.C_below HR0_0.out HB.out) | (with_reducible refine Kd.C_alloc ?_ _) | (with_reducible refine Kd.C_drewN ?_ _) | (with_reducible refine Kd.C_drew ?_))); (case side2 => exact HC0_0.out); rintro e w16 ⟨rfl, hb⟩; refine ⟨_, rfl, ?_⟩; have n0_ := Aside0.mk (blk_below (g := gb202) (o := .cells #[.slice A0_0 l0_0.length c0_0, .slice A0_1 l0_1.length c0_1, .int .i64 a0_2] 29 (0, 0)) (by (with_reducible repeat (first | refine blk_drewN ?_ _ | refine blk_drew ?_ | refine blk_alloc ?_ _)); exact BK202.out) hb); have n1_ := Aside0.mk (below_step (by repeat (first | (with_reducible first | exact HB.out | apply below_alloc | apply pw_below_drewN | apply below_drew1 | refine below_set ?_ GE202.out) | exact HB.out)) hb); clear BK202; clear HB; have BK202 := n0_; have HB := n1_; clear n0_ n1_; (try clear hb); (try clear hb2); (try clear hk); (try clear hi); have hcz17_0 : w16.cell? ⟨gb202, 0, none⟩ = some (.slice A0_0 l0_0.length c0_0) := (blk_cell BK202.out 0).trans rfl; have hcz17_1 : w16.cell? ⟨gb202, 1, none⟩ = some (.slice A0_1 l0_1.length c0_1) := (blk_cell BK202.out 1).trans rfl; have hcz17_2 : w16.cell? ⟨gb202, 2, none⟩ = some (.int .i64 a0_2) := (blk_cell BK202.out 2).trans rfl; have hfz17_0 := blk_frozen BK202.out 0; have hfz17_1 := blk_frozen BK202.out 1; have hfz17_2 := blk_frozen BK202.out 2) | ((with_reducible refine gate_callee (f := 79) rfl ?_); refine goesL_ (some 14) rfl rfl Try.func79 (by kernel_rfl) rfl #[.slice A0_1 l0_1.length c0_1, .int .i64 t203] rfl (by (try simp only [List.map_toArray, List.map_cons, List.map_nil]); first | done | rfl | (simp only [List.length_drop, List.length_take]; rfl)) ?_; (with_reducible refine (laws_heldWindowS.calls k _ _ l0_1 t203 t204 _ ?side1 ?side2 A8.out).mono ?_); (case side1 => repeat (first | exact (Kd.C_below HR0_1.out HB.out) | (with_reducible refine Kd.C_alloc ?_ _) | (with_reducible refine Kd.C_drewN ?_ _) | (with_reducible refine Kd.C_drew ?_))); (case side2 => exact HC0_1.out); rintro e w' ⟨rfl, ⟨nd, rfl⟩⟩; refine ⟨_, rfl, ?_⟩))
      go_ret
      exact ⟨by first | rfl | (simp [errW_none, errW_some] <;> rfl) | (simp [*, errW_none, errW_some] <;> rfl), by repeat (first | (with_reducible first | exact HB.out | apply below_alloc | apply pw_below_drewN | apply below_drew1 | refine below_set ?_ GE202.out) | exact HB.out)⟩

end Go.Proofs.Ytoomjghabiojkaa.P


/- NewDesk: what both sides come to. -/
namespace Go.Proofs.Ytoomjghabiojkaa.P
open Go.RowKit Go.Proofs.YtoomjghabiojkaaW.PrintWords Go.Proofs.YtoomjghabiojkaaW.Mine
set_option linter.unusedVariables false
def newDesk (m : List (List Int)) : List (List Int) × List SimplWindow × Int × Bool := if memB m = true then (m, [], 0, true) else ([], [], 0, false)
theorem newDesk_ok (m : List (List Int)) (h : okM m) : okM (newDesk m).1 := by
  unfold newDesk
  split
  · exact h
  · exact okM_nil
theorem newDesk_len (m : List (List Int)) : (newDesk m).2.1.length ≤ 1048576 := by
  unfold newDesk
  split <;> simp
theorem implNewDesk_f (m : List (List Int)) (h : okM m) : Ev (fun k => impl_NewDesk.f k m) (newDesk m) := by
  refine Ev.bind (IsMemory_f m h.len) ?_
  unfold newDesk
  cases memB m
  · exact Ev.now _
  · simp only [if_true]
    exact Ev.bind (own_f m h) (Ev.now _)
theorem l12Own_f (m : List (List Int)) (l : List SimplWindow) (c : Int) (h : okM m) (hl : l.length ≤ 1048576) : Ev (fun k => spec_l12Own.f k m l c) (m, l, c) := by
  refine Ev.bind (l2Own_f m h) ?_
  simp only [Option.bind_some, List.length_nil, Nat.zero_add, List.nil_append]
  rw [if_pos (by omega)]
  exact Ev.now _
theorem specNewDesk_f (m : List (List Int)) (h : okM m) : Ev (fun k => spec_NewDesk.f k m) (newDesk m) := by
  refine Ev.bind (l2Memory_f m h.len) ?_
  unfold newDesk
  cases memB m
  · exact Ev.now _
  · simp only [if_true]
    exact Ev.bind (l12Own_f m [] 0 h (by simp)) (Ev.now _)
theorem eqDesk_f (m : List (List Int)) (l : List SimplWindow) (c : Int) (h : okM m) (hl : l.length ≤ 1048576) : Ev (fun k => laws_eqDesk.f k m l c m l c) true := by
  refine Ev.bind (eqM m h) ?_
  simp only [if_true]
  refine Ev.bind (eqWindowS_f l (by omega)) ?_
  simp only [if_true]
  exact Ev.now _
theorem markD (m : List (List Int)) (l : List SimplWindow) (h : okM m) (hl : l.length ≤ 1048576) : laws_markDesk.f m l 1 = some ((1 : Int) + (sizeBB m : Int) + 4 * (l.length : Int), marksBB 1 m, marksG markW 4 (1 + sizeBB m) l.length) := if_pos ⟨by omega, by have := h.2.2; omega, by have := h.1; omega⟩
theorem heldDesk_f (m : List (List Int)) (n : Nat) (c : Int) (h : okM m) (hl : n ≤ 1048576) : Ev (fun k => laws_heldDesk.f k (marksBB 1 m) (marksG markW 4 (1 + sizeBB m) n) c 1) (1 + sizeBB m + 4 * n) := by
  refine Ev.bind (heldMemory_f m h) ?_
  simp only [if_neg (show ¬ (1 : Int) + (sizeBB m : Int) < 0 by omega)]
  refine Ev.bind (heldWindowS_f n (1 + sizeBB m) (by omega) (by have := h.2.2; omega)) ?_
  simp only [if_neg (show ¬ (1 : Int) + (sizeBB m : Int) + 4 * (n : Int) < 0 by omega)]
  exact Ev.now _
end Go.Proofs.Ytoomjghabiojkaa.P


/- From a row's reading of an argument to what the print's kinds say of it. -/
namespace Go.Proofs.YtoomjghabiojkaaW.Mine
open Go.RowKit Go.Proofs.YtoomjghabiojkaaW.PrintWords
set_option linter.unusedVariables false
/-- Whatever reads as data of type T is of the kind d, and ok. -/
def ReadsK {α : Type} (P : Program) (T : TypeId) (d : Kd α) (ok : α → Prop) : Prop :=
  ∀ {H : Type} {enc : TypeId × Value → H} {w : World} {base : Nat} {spare : Nat → Bool} {held : Bool} {fuel : Nat} {cs : List Value} {x : DataW H × List MemPlace}, DataW.trod enc P w base spare held fuel T cs = some x → ∃ a : α, d.K w a cs ∧ ok a
theorem ReadsK.int {P : Program} {T : TypeId} {k : IntKind} (hT : P.underlying T = some (.int k)) : ReadsK P T (Kd.int k) (fun n => (Lit.int k n).wf = true) := by
  intro H enc w base spare held fuel cs x h
  obtain ⟨n, rfl, _, hw⟩ := DataW.trod_int hT h
  exact ⟨n, rfl, hw⟩
theorem ReadsK.bool {P : Program} {T : TypeId} (hT : P.underlying T = some .bool) : ReadsK P T Kd.bool (fun _ => True) := by
  intro H enc w base spare held fuel cs x h
  obtain ⟨b, rfl, _⟩ := DataW.trod_bool hT h
  exact ⟨b, rfl, trivial⟩
theorem exists_list {α : Type} {n : Nat} {p : Nat → α → Prop} (h : ∀ i, i < n → ∃ a, p i a) : ∃ l : List α, l.length = n ∧ ∀ i a, l[i]? = some a → p i a := by
  induction n with
  | zero => exact ⟨[], rfl, fun i a hi => by simp at hi⟩
  | succ n ih =>
    obtain ⟨l, hl, hp⟩ := ih (fun i hi => h i (by omega))
    obtain ⟨a, ha⟩ := h n (by omega)
    refine ⟨l ++ [a], by simp [hl], fun i b hb => ?_⟩
    rcases Nat.lt_or_ge i n with hi | hi
    · rw [List.getElem?_append_left (by omega)] at hb
      exact hp i b hb
    · have hi2 : i = n := by
        have := (List.getElem?_eq_some_iff.1 hb).1
        simp [hl] at this
        omega
      subst hi2
      rw [← hl, List.getElem?_append_right (Nat.le_refl _)] at hb
      simp at hb
      rw [← hb]
      exact ha
theorem ReadsK.slice {α : Type} {P : Program} {T e : TypeId} {d : Kd α} {ok : α → Prop} (hT : P.underlying T = some (.slice e)) (hc : P.cellsOf e = d.sz) (h1 : ReadsK P e d ok) : ReadsK P T (Kd.slice e d) (fun xs => ∀ x ∈ xs, ok x) := by
  intro H enc w base spare held fuel cs x h
  rcases Deep.open_slice hT h with ⟨rfl, _⟩ | ⟨a, len, cap, m, n, D, Pl, rfl, hb, hl, hm, hmm, _, hx⟩
  · exact ⟨[], ⟨none, 0, rfl, Nat.le_refl _, rfl, by simp, fun h => absurd h (by simp)⟩, fun x hx => by simp at hx⟩
  · have hlm : len ≤ m := by rw [hmm]; split <;> omega
    obtain ⟨l, hll, hp⟩ := exists_list (n := len) (p := fun i y => ∃ cs', w.cells? base (a.add (i * P.cellsOf e)) (P.cellsOf e) = some cs' ∧ d.K w y cs' ∧ ok y) (fun i hi => by
      obtain ⟨cs', h2, h3⟩ := hx i (by omega)
      obtain ⟨y, hy, hok⟩ := h1 h3
      exact ⟨y, cs', h2, hy, hok⟩)
    refine ⟨l, ⟨some a, cap, by rw [hll], by omega, rfl, ?_, fun hn => ⟨a, rfl, fun j p hj => ?_⟩⟩, fun y hy => ?_⟩
    · rw [hll]; unfold maxLen at hm; omega
    · obtain ⟨cs', h2, h3, _⟩ := hp j p hj
      obtain ⟨_, hlen, hcell⟩ := World.cells?_some h2
      refine ⟨cs', by rw [hlen, hc], h3, fun i u hu => ?_⟩
      have hi : i < P.cellsOf e := by
        have := (List.getElem?_eq_some_iff.1 hu).1
        omega
      have h4 := hcell i hi
      rw [hu] at h4
      rw [← h4, ← hc]
      congr 1
      unfold Addr.add
      by_cases z1 : j * P.cellsOf e = 0 <;> by_cases z2 : i = 0 <;> simp [z1, z2, Nat.add_assoc]
    · obtain ⟨j, hj, rfl⟩ := List.mem_iff_getElem.1 hy
      obtain ⟨_, _, _, hok⟩ := hp j _ (List.getElem?_eq_getElem hj)
      exact hok
/-- The fields from offset o on. -/
def ReadsF {α : Type} (P : Program) (o : Nat) (fs : List Field) (d : Kd α) (ok : α → Prop) : Prop :=
  ∀ {H : Type} {enc : TypeId × Value → H} {w : World} {base : Nat} {spare : Nat → Bool} {held : Bool} {n : Nat} {cs : List Value}, (∀ f ∈ fs, ∃ x, DataW.trod enc P w base spare held n f.type ((cs.drop f.offset).take (P.cellsOf f.type)) = some x) → ∃ a : α, d.K w a ((cs.drop o).take d.sz) ∧ ok a
theorem ReadsF.last {α : Type} {P : Program} {o : Nat} {f : Field} {d : Kd α} {ok : α → Prop} (ho : f.offset = o) (h : ReadsK P f.type d ok) (hc : P.cellsOf f.type = d.sz) : ReadsF P o [f] d ok := by
  intro H enc w base spare held n cs hh
  obtain ⟨x, hx⟩ := hh f (by simp)
  rw [ho, hc] at hx
  exact h hx
theorem ReadsF.cons {α β : Type} {P : Program} {o : Nat} {f : Field} {fs : List Field} {d : Kd α} {d2 : Kd β} {ok : α → Prop} {ok2 : β → Prop} (ho : f.offset = o) (h : ReadsK P f.type d ok) (hc : P.cellsOf f.type = d.sz) (h2 : ReadsF P (o + d.sz) fs d2 ok2) : ReadsF P o (f :: fs) (Kd.pair d d2) (fun p => ok p.1 ∧ ok2 p.2) := by
  intro H enc w base spare held n cs hh
  obtain ⟨x, hx⟩ := hh f (by simp)
  rw [ho, hc] at hx
  obtain ⟨a, ha, hok⟩ := h hx
  obtain ⟨b, hb, hok2⟩ := h2 (fun g hg => hh g (by simp [hg]))
  refine ⟨(a, b), ⟨_, _, ?_, ha, hb⟩, hok, hok2⟩
  show (cs.drop o).take (d.sz + d2.sz) = _
  rw [List.take_add, List.drop_drop]
theorem ReadsK.struct {α : Type} {P : Program} {T : TypeId} {fs : Array Field} {d : Kd α} {ok : α → Prop} (hT : P.underlying T = some (.struct fs)) (hc : P.cellsOf T = d.sz) (h : ReadsF P 0 fs.toList d ok) : ReadsK P T d ok := by
  intro H enc w base spare held fuel cs x hx
  obtain ⟨xs, n, _, _, hl, hlen, hf⟩ := DataW.trod_struct hT hx
  obtain ⟨a, ha, hok⟩ := h (n := n) (cs := cs) (enc := enc) (w := w) (base := base) (spare := spare) (held := held) (fun f hf2 => by
    obtain ⟨i, hi, rfl⟩ := List.mem_iff_getElem.1 hf2
    have h1 := hf i fs[i] (by simp at hi; exact Array.getElem?_eq_getElem hi)
    have hi2 : i < xs.length := by simp at hi; omega
    rw [List.getElem?_eq_getElem hi2] at h1
    exact ⟨_, by simpa using h1⟩)
  refine ⟨a, ?_, hok⟩
  rwa [List.drop_zero, ← hc, ← hl, List.take_length] at ha
theorem ReadsK.iso {α β : Type} {P : Program} {T : TypeId} {d : Kd α} {ok : α → Prop} (h : ReadsK P T d ok) (f : β → α) (g : α → β) (hfg : ∀ a, f (g a) = a) : ReadsK P T (Kd.iso d f) (fun b => ok (f b)) := by
  intro H enc w base spare held fuel cs x hx
  obtain ⟨a, ha, hok⟩ := h hx
  refine ⟨g a, ?_, by show ok (f (g a)); rw [hfg]; exact hok⟩
  show d.K w (f (g a)) cs
  rw [hfg]
  exact ha
theorem agg_of {cs : Array Value} {L : List Value} (h : cs.toList = L) : cs = L.toArray := by rw [← h]
end Go.Proofs.YtoomjghabiojkaaW.Mine


-- written by wip/gen_law.py
namespace Go.Proofs.Ytoomjghabiojkaa.P
open Go.RowKit Go.Proofs.YtoomjghabiojkaaW.PrintWords Go.Proofs.YtoomjghabiojkaaW.PrintLast Go.Proofs.YtoomjghabiojkaaW.PrintMore Go.Proofs.YtoomjghabiojkaaW.Mine
open List (setIfInBounds_toArray set_cons_zero set_cons_succ)
attribute [local go_sem] max2_int min2_int max_two min_two max_three min_three max_four min_four
set_option linter.unusedVariables false
set_option linter.unusedSimpArgs false
set_option maxHeartbeats 8000000 in
set_option maxRecDepth 100000 in
theorem FnExactNewDesk_run0 (A0_0 : Option Addr) (c0_0 : Nat) (l0_0 : List (List Int)) (r1_0 : Int) (w : World) (hr0_0 : Kd.C (Kd.slice 5 (Kd.int .u8)) w A0_0 l0_0.length l0_0) (hc0_0 : l0_0.length ≤ c0_0) (H1 : ∃ k, laws_szMemory.f k l0_0 1048576 = some r1_0) (P_ : r1_0 < 0) :
    Calls Try.prog 3 #[.agg #[.slice A0_0 l0_0.length c0_0]] w fun e w' => e = .returned (.bool true) ∧ Below w.heap.size w w' := by
  have HR0_0 := Aside0.mk hr0_0; have HC0_0 := Aside0.mk hc0_0; clear hr0_0 hc0_0
  obtain ⟨k, H1_⟩ := H1; have H1 := Aside0.mk H1_; clear H1_
  have Pb_ : decide (r1_0 < 0) = true := decide_eq_true P_; clear P_
  have HS0 : Aside0 (Stk w [] w) := ⟨Stk.nil w⟩
  go_enter Try.func3, Try.ntmps3
  refine reg (aF := ?_) (nw := ?_) [evB 0 1 [] 24 (fun s => #[.slice A0_0 l0_0.length c0_0]) 9999 [] (fun s => #[.slice A0_0 l0_0.length c0_0]), evP 1 2 [] (fun s => .bool false)] [] [] false 2 rfl rfl (by kernel_rfl) rfl (mf0) ?aF ?nw HS0.out ?hs ?_
  rotate_left 2
  case aF => intro s; simp only [putE, EvT.val, Act.put, setIfInBounds_toArray, set_cons_zero, set_cons_succ]; rfl
  case nw => intro s; simp only [thA, bsA, List.nil_append, List.cons_append, List.append_nil, if_true, if_false, Nat.reduceLT, set_cons_zero, set_cons_succ]; rfl
  case hs => exact ⟨bv rfl (fun s w => by go_simp; try rfl), pu rfl, trivial⟩
  intro s1 w1 h; have HS1 := Aside0.mk h; clear h HS0
  refine tl0 ?_
  refine reg0 (aF := ?_) [] [0] false 1 rfl rfl (by kernel_rfl) rfl (fun _ => rfl) ?aF HS1.out ?hs ?_
  rotate_left 1
  case aF => intro s; simp only [putE, EvT.val, Act.put, setIfInBounds_toArray, set_cons_zero, set_cons_succ]; rfl
  case hs => exact trivial
  intro s2 w2 h; have HS2 := Aside0.mk h; clear h HS1
  refine tlP (v := .int .i64 1048576) 3 rfl ?_
  refine tl0 ?_
  refine reg0 (aF := ?_) [evL 0 14 [] (fun s => .agg #[.slice A0_0 l0_0.length c0_0]), evP 1 15 [] (fun s => .int .i64 1048576), evC 2 (some 16) [] (fun s x => .int .i64 r1_0) (fun s x => [])] [3] false 4 rfl rfl (by kernel_rfl) rfl (fun _ => rfl) ?aF HS2.out ?hs ?_
  rotate_left 1
  case aF => intro s; simp only [putE, EvT.val, Act.put, setIfInBounds_toArray, set_cons_zero, set_cons_succ]; rfl
  case hs => exact ⟨ld rfl 0 (fun s => rfl) (fun s w h => by have h0 := h 0 _ rfl; clear h; go_simp; try rfl), pu rfl, cl rfl (fun s => #[.agg #[.slice A0_0 l0_0.length c0_0], .int .i64 1048576]) Try.func14 (fun s w1 h => (laws_szMemory.calls _ _ _ _ _ _ _ (Kd.C_below HR0_0.out h.hb) HC0_0.out H1.out).mono (by rintro e w2 ⟨rfl, hb⟩; exact fin0 hb)), trivial⟩
  intro s3 w3 h; have HS3 := Aside0.mk h; clear h HS2
  refine tlP (v := .int .i64 r1_0) 3 rfl ?_
  refine tl0 ?_
  refine wp_seq ?_
  refine reg0 (aF := ?_) [evP 0 17 [] (fun s => .int .i64 r1_0), evP 1 18 [] (fun s => .bool true)] [] false 2 rfl rfl (by kernel_rfl) rfl (fun _ => rfl) ?aF HS3.out ?hs ?_
  rotate_left 1
  case aF => intro s; simp only [putE, EvT.val, Act.put, setIfInBounds_toArray, set_cons_zero, set_cons_succ]; rfl
  case hs => exact ⟨pu rfl, pb (q := .lss) Pb_ rfl, trivial⟩
  intro s4 w4 h; have HS4 := Aside0.mk h; clear h HS3
  refine tl0 ?_
  refine wp_cond_true rfl ?_
  refine reg0 (aF := ?_) [] [0] false 1 rfl rfl (by kernel_rfl) rfl (fun _ => rfl) ?aF HS4.out ?hs ?_
  rotate_left 1
  case aF => intro s; simp only [putE, EvT.val, Act.put, setIfInBounds_toArray, set_cons_zero, set_cons_succ]; rfl
  case hs => exact trivial
  intro s5 w5 h; have HS5 := Aside0.mk h; clear h HS4
  refine tlP (v := .bool true) 2 rfl ?_
  refine tl0 ?_
  refine wp_ret ?_
  go_ret
  exact ⟨by first | rfl | simp, HS5.out.hb⟩
set_option maxHeartbeats 8000000 in
set_option maxRecDepth 100000 in
theorem FnExactNewDesk_run (A0_0 : Option Addr) (c0_0 : Nat) (l0_0 : List (List Int)) (r1_0 : Int) (r2_0 : List (List Int)) (r3_0 : List (List Int)) (r3_1 : List (SimplWindow)) (r3_2 : Int) (r3_3 : Bool) (r7_0 : Int) (r7_1 : List (List Int)) (r8_0 : Int) (r8_1 : List (List Int)) (r8_2 : List SimplWindow) (w : World) (hr0_0 : Kd.C (Kd.slice 5 (Kd.int .u8)) w A0_0 l0_0.length l0_0) (hc0_0 : l0_0.length ≤ c0_0) (H1 : ∃ k, laws_szMemory.f k l0_0 1048576 = some r1_0) (H2 : laws_toMemory.f l0_0 = some r2_0) (H3 : ∃ k, spec_NewDesk.f k r2_0 = some (r3_0, r3_1, r3_2, r3_3)) (H4 : ∃ k, impl_NewDesk.f k r2_0 = some (r3_0, r3_1, r3_2, r3_3)) (H5 : ∃ k, laws_eqDesk.f k r3_0 r3_1 r3_2 r3_0 r3_1 r3_2 = some true) (H6 : ∃ k, laws_eqMemory.f k r2_0 r2_0 = some true) (H7 : laws_markMemory.f r2_0 1 = some (r7_0, r7_1)) (H8 : laws_markDesk.f r3_0 r3_1 1 = some (r8_0, r8_1, r8_2)) (H9 : ∃ k, laws_heldDesk.f k r8_1 r8_2 r3_2 1 = some r8_0) (N_r1_0 : ¬ r1_0 < 0) (N_r7_0 : ¬ r7_0 < 0) (N_r8_0 : ¬ r8_0 < 0) :
    Calls Try.prog 3 #[.agg #[.slice A0_0 l0_0.length c0_0]] w fun e w' => e = .returned (.bool true) ∧ Below w.heap.size w w' := by
  have HR0_0 := Aside0.mk hr0_0; have HC0_0 := Aside0.mk hc0_0; clear hr0_0 hc0_0
  obtain ⟨k, H1_⟩ := H1; have H1 := Aside0.mk H1_; clear H1_
  have H2_ := Aside0.mk H2; clear H2; have H2 := H2_; clear H2_
  obtain ⟨k, H3_⟩ := H3; have H3 := Aside0.mk H3_; clear H3_
  obtain ⟨k, H4_⟩ := H4; have H4 := Aside0.mk H4_; clear H4_
  obtain ⟨k, H5_⟩ := H5; have H5 := Aside0.mk H5_; clear H5_
  obtain ⟨k, H6_⟩ := H6; have H6 := Aside0.mk H6_; clear H6_
  have H7_ := Aside0.mk H7; clear H7; have H7 := H7_; clear H7_
  have H8_ := Aside0.mk H8; clear H8; have H8 := H8_; clear H8_
  obtain ⟨k, H9_⟩ := H9; have H9 := Aside0.mk H9_; clear H9_
  have Nb_r1_0 : decide (r1_0 < 0) = false := decide_eq_false N_r1_0; clear N_r1_0
  have Nb_r7_0 : decide (r7_0 < 0) = false := decide_eq_false N_r7_0; clear N_r7_0
  have Nb_r8_0 : decide (r8_0 < 0) = false := decide_eq_false N_r8_0; clear N_r8_0
  have HS0 : Aside0 (Stk w [] w) := ⟨Stk.nil w⟩
  go_enter Try.func3, Try.ntmps3
  refine reg (aF := ?_) (nw := ?_) [evB 0 1 [] 24 (fun s => #[.slice A0_0 l0_0.length c0_0]) 9999 [] (fun s => #[.slice A0_0 l0_0.length c0_0]), evP 1 2 [] (fun s => .bool false)] [] [] false 2 rfl rfl (by kernel_rfl) rfl (mf0) ?aF ?nw HS0.out ?hs ?_
  rotate_left 2
  case aF => intro s; simp only [putE, EvT.val, Act.put, setIfInBounds_toArray, set_cons_zero, set_cons_succ]; rfl
  case nw => intro s; simp only [thA, bsA, List.nil_append, List.cons_append, List.append_nil, if_true, if_false, Nat.reduceLT, set_cons_zero, set_cons_succ]; rfl
  case hs => exact ⟨bv rfl (fun s w => by go_simp; try rfl), pu rfl, trivial⟩
  intro s1 w1 h; have HS1 := Aside0.mk h; clear h HS0
  refine tl0 ?_
  refine reg0 (aF := ?_) [] [0] false 1 rfl rfl (by kernel_rfl) rfl (fun _ => rfl) ?aF HS1.out ?hs ?_
  rotate_left 1
  case aF => intro s; simp only [putE, EvT.val, Act.put, setIfInBounds_toArray, set_cons_zero, set_cons_succ]; rfl
  case hs => exact trivial
  intro s2 w2 h; have HS2 := Aside0.mk h; clear h HS1
  refine tlP (v := .int .i64 1048576) 3 rfl ?_
  refine tl0 ?_
  refine reg0 (aF := ?_) [evL 0 14 [] (fun s => .agg #[.slice A0_0 l0_0.length c0_0]), evP 1 15 [] (fun s => .int .i64 1048576), evC 2 (some 16) [] (fun s x => .int .i64 r1_0) (fun s x => [])] [3] false 4 rfl rfl (by kernel_rfl) rfl (fun _ => rfl) ?aF HS2.out ?hs ?_
  rotate_left 1
  case aF => intro s; simp only [putE, EvT.val, Act.put, setIfInBounds_toArray, set_cons_zero, set_cons_succ]; rfl
  case hs => exact ⟨ld rfl 0 (fun s => rfl) (fun s w h => by have h0 := h 0 _ rfl; clear h; go_simp; try rfl), pu rfl, cl rfl (fun s => #[.agg #[.slice A0_0 l0_0.length c0_0], .int .i64 1048576]) Try.func14 (fun s w1 h => (laws_szMemory.calls _ _ _ _ _ _ _ (Kd.C_below HR0_0.out h.hb) HC0_0.out H1.out).mono (by rintro e w2 ⟨rfl, hb⟩; exact fin0 hb)), trivial⟩
  intro s3 w3 h; have HS3 := Aside0.mk h; clear h HS2
  refine tlP (v := .int .i64 r1_0) 3 rfl ?_
  refine tl0 ?_
  refine wp_seq ?_
  refine reg0 (aF := ?_) [evP 0 17 [] (fun s => .int .i64 r1_0), evP 1 18 [] (fun s => .bool false)] [] false 2 rfl rfl (by kernel_rfl) rfl (fun _ => rfl) ?aF HS3.out ?hs ?_
  rotate_left 1
  case aF => intro s; simp only [putE, EvT.val, Act.put, setIfInBounds_toArray, set_cons_zero, set_cons_succ]; rfl
  case hs => exact ⟨pu rfl, pb (q := .lss) Nb_r1_0 rfl, trivial⟩
  intro s4 w4 h; have HS4 := Aside0.mk h; clear h HS3
  refine tl0 ?_
  refine wp_cond_false rfl ?_
  refine wp_skip ?_
  refine thN ?_
  refine reg (aF := ?_) (nw := ?_) [evL 0 20 [] (fun s => .agg #[.slice A0_0 l0_0.length c0_0]), evC 1 (some 21) [] (fun s x => .agg #[.slice x.A r2_0.length x.c]) (fun s x => [rowS (Kd.slice 5 (Kd.int .u8)) 119 w x.lo x.hi x.A x.c r2_0]), evC 2 (some 22) [1] (fun s x => .tuple #[.agg #[.slice x.A r3_0.length x.c, .slice x.B r3_1.length x.e, .int .i64 r3_2], .bool r3_3]) (fun s x => [⟨x.lo, x.hi, fun w_ => Kd.S (Kd.slice 5 (Kd.int .u8)) 119 w_ w.heap.size (fun k_ => x.lo ≤ k_ ∧ k_ < x.hi) (.slice x.A r3_0.length x.c) r3_0 ∧ Kd.R kimplWindow 48 w_ w.heap.size (fun k_ => x.lo ≤ k_ ∧ k_ < x.hi) (.slice x.B r3_1.length x.e) r3_1⟩]), evP 3 19 [2] (fun s => .tuple #[.agg #[.slice (s 2).A r3_0.length (s 2).c, .slice (s 2).B r3_1.length (s 2).e, .int .i64 r3_2], .bool r3_3]), evP 4 23 [2] (fun s => .agg #[.slice (s 2).A r3_0.length (s 2).c, .slice (s 2).B r3_1.length (s 2).e, .int .i64 r3_2]), evP 5 24 [] (fun s => .bool r3_3), evB 6 4 [] 29 (fun s => #[.slice none 0 0, .slice none 0 0, .int .i64 0]) 7 [2] (fun s => #[.slice (s 2).A r3_0.length (s 2).c, .slice (s 2).B r3_1.length (s 2).e, .int .i64 r3_2]), evS 7] [8] [] false 9 rfl rfl (by kernel_rfl) rfl (mf0) ?aF ?nw HS4.out ?hs ?_
  rotate_left 2
  case aF => intro s; simp only [putE, EvT.val, Act.put, setIfInBounds_toArray, set_cons_zero, set_cons_succ]; rfl
  case nw => intro s; simp only [thA, bsA, List.nil_append, List.cons_append, List.append_nil, if_true, if_false, Nat.reduceLT, set_cons_zero, set_cons_succ]; rfl
  case hs => exact ⟨ld rfl 0 (fun s => rfl) (fun s w h => by have h0 := h 0 _ rfl; clear h; go_simp; try rfl), cl rfl (fun s => #[.agg #[.slice A0_0 l0_0.length c0_0]]) Try.func16 (fun s w1 h => (laws_toMemory.calls _ _ _ _ _ (Kd.C_below HR0_0.out h.hb) HC0_0.out H2.out).mono (by rintro e w2 ⟨v0_, rfl, ho0, hb⟩; obtain ⟨x, rfl, hx⟩ := fin_S ho0 hb h.hb.size; exact ⟨x, rfl, hx⟩)), cl rfl (fun s => #[.agg #[.slice (s 1).A r2_0.length (s 1).c]]) Try.func15 (fun s w1 h => (spec_NewDesk.calls _ _ _ _ _ _ _ _ _ (Kd.S_reads' (h.get 0 rfl)).2.2 (Kd.S_reads' (h.get 0 rfl)).2.1 H3.out).mono (by rintro e w2 ⟨v0_, v1_, rfl, ho0, ho1, hb⟩; obtain ⟨A0, c0, rfl⟩ := Kd.S_slice ho0; obtain ⟨A1, c1, rfl⟩ := Kd.R_slice ho1; obtain ⟨lo, hi, hx⟩ := (Stk.nil w1).push hb (P := fun lo_ hi_ w_ => Kd.S (Kd.slice 5 (Kd.int .u8)) 119 w_ w.heap.size (fun k_ => lo_ ≤ k_ ∧ k_ < hi_) (.slice A0 r3_0.length c0) r3_0 ∧ Kd.R kimplWindow 48 w_ w.heap.size (fun k_ => lo_ ≤ k_ ∧ k_ < hi_) (.slice A1 r3_1.length c1) r3_1) (fun w_ ha => ⟨S_held ho0 h.hb.size ha, R_held ho1 h.hb.size ha⟩); exact ⟨⟨lo, hi, A0, c0, A1, c1, none, 0⟩, rfl, hx⟩)), pu rfl, pu rfl, pu rfl, bv rfl (fun s w => by go_simp; try rfl), st rfl 6 0 (fun s => [.slice (s 2).A r3_0.length (s 2).c, .slice (s 2).B r3_1.length (s 2).e, .int .i64 r3_2]) rfl (fun s w h hf => by have h0 := h 0 _ rfl; have f0 := hf 0; have h1 := h 1 _ rfl; have f1 := hf 1; have h2 := h 2 _ rfl; have f2 := hf 2; clear h hf; go_simp; try rfl), trivial⟩
  intro s5 w5 h; have HS5 := Aside0.mk h; clear h HS4
  refine tlP (v := .bool r3_3) 5 rfl ?_
  refine tl0 ?_
  refine reg (aF := ?_) (nw := ?_) [evL 0 25 [] (fun s => .agg #[.slice A0_0 l0_0.length c0_0]), evC 1 (some 26) [] (fun s x => .agg #[.slice x.A r2_0.length x.c]) (fun s x => [rowS (Kd.slice 5 (Kd.int .u8)) 119 w x.lo x.hi x.A x.c r2_0]), evB 2 6 [] 26 (fun s => #[.slice none 0 0]) 3 [1] (fun s => #[.slice (s 1).A r2_0.length (s 1).c]), evS 3] [] [] false 4 rfl rfl (by kernel_rfl) rfl (mf0) ?aF ?nw HS5.out ?hs ?_
  rotate_left 2
  case aF => intro s; simp only [putE, EvT.val, Act.put, setIfInBounds_toArray, set_cons_zero, set_cons_succ]; rfl
  case nw => intro s; simp only [thA, bsA, List.nil_append, List.cons_append, List.append_nil, if_true, if_false, Nat.reduceLT, set_cons_zero, set_cons_succ]; rfl
  case hs => exact ⟨ld rfl 3 (fun s => rfl) (fun s w h => by have h0 := h 0 _ rfl; clear h; go_simp; try rfl), cl rfl (fun s => #[.agg #[.slice A0_0 l0_0.length c0_0]]) Try.func16 (fun s w1 h => (laws_toMemory.calls _ _ _ _ _ (Kd.C_below HR0_0.out h.hb) HC0_0.out H2.out).mono (by rintro e w2 ⟨v0_, rfl, ho0, hb⟩; obtain ⟨x, rfl, hx⟩ := fin_S ho0 hb h.hb.size; exact ⟨x, rfl, hx⟩)), bv rfl (fun s w => by go_simp; try rfl), st rfl 2 0 (fun s => [.slice (s 1).A r2_0.length (s 1).c]) rfl (fun s w h hf => by have h0 := h 0 _ rfl; have f0 := hf 0; clear h hf; go_simp; try rfl), trivial⟩
  intro s6 w6 h; have HS6 := Aside0.mk h; clear h HS5
  refine tl0 ?_
  refine reg (aF := ?_) (nw := ?_) [evL 0 28 [] (fun s => .agg #[.slice (s6 1).A r2_0.length (s6 1).c]), evC 1 (some 29) [] (fun s x => .tuple #[.agg #[.slice x.A r3_0.length x.c, .slice x.B r3_1.length x.e, .int .i64 r3_2], .bool r3_3]) (fun s x => [⟨x.lo, x.hi, fun w_ => Kd.S (Kd.slice 5 (Kd.int .u8)) 119 w_ w.heap.size (fun k_ => x.lo ≤ k_ ∧ k_ < x.hi) (.slice x.A r3_0.length x.c) r3_0 ∧ Kd.R kimplWindow 48 w_ w.heap.size (fun k_ => x.lo ≤ k_ ∧ k_ < x.hi) (.slice x.B r3_1.length x.e) r3_1⟩]), evP 2 27 [1] (fun s => .tuple #[.agg #[.slice (s 1).A r3_0.length (s 1).c, .slice (s 1).B r3_1.length (s 1).e, .int .i64 r3_2], .bool r3_3]), evP 3 30 [1] (fun s => .agg #[.slice (s 1).A r3_0.length (s 1).c, .slice (s 1).B r3_1.length (s 1).e, .int .i64 r3_2]), evP 4 31 [] (fun s => .bool r3_3), evB 5 7 [] 29 (fun s => #[.slice none 0 0, .slice none 0 0, .int .i64 0]) 6 [1] (fun s => #[.slice (s 1).A r3_0.length (s 1).c, .slice (s 1).B r3_1.length (s 1).e, .int .i64 r3_2]), evS 6] [7] [] false 8 rfl rfl (by kernel_rfl) rfl (mf0) ?aF ?nw HS6.out ?hs ?_
  rotate_left 2
  case aF => intro s; simp only [putE, EvT.val, Act.put, setIfInBounds_toArray, set_cons_zero, set_cons_succ]; rfl
  case nw => intro s; simp only [thA, bsA, List.nil_append, List.cons_append, List.append_nil, if_true, if_false, Nat.reduceLT, set_cons_zero, set_cons_succ]; rfl
  case hs => exact ⟨ld rfl 1 (fun s => rfl) (fun s w h => by have h0 := h 0 _ rfl; clear h; go_simp; try rfl), cl rfl (fun s => #[.agg #[.slice (s6 1).A r2_0.length (s6 1).c]]) Try.func17 (fun s w1 h => (impl_NewDesk.calls _ _ _ _ _ _ _ _ _ (Kd.S_reads' (h.get 0 rfl)).2.2 (Kd.S_reads' (h.get 0 rfl)).2.1 H4.out).mono (by rintro e w2 ⟨v0_, v1_, rfl, ho0, ho1, hb⟩; obtain ⟨A0, c0, rfl⟩ := Kd.S_slice ho0; obtain ⟨A1, c1, rfl⟩ := Kd.R_slice ho1; obtain ⟨lo, hi, hx⟩ := (Stk.nil w1).push hb (P := fun lo_ hi_ w_ => Kd.S (Kd.slice 5 (Kd.int .u8)) 119 w_ w.heap.size (fun k_ => lo_ ≤ k_ ∧ k_ < hi_) (.slice A0 r3_0.length c0) r3_0 ∧ Kd.R kimplWindow 48 w_ w.heap.size (fun k_ => lo_ ≤ k_ ∧ k_ < hi_) (.slice A1 r3_1.length c1) r3_1) (fun w_ ha => ⟨S_held ho0 h.hb.size ha, R_held ho1 h.hb.size ha⟩); exact ⟨⟨lo, hi, A0, c0, A1, c1, none, 0⟩, rfl, hx⟩)), pu rfl, pu rfl, pu rfl, bv rfl (fun s w => by go_simp; try rfl), st rfl 5 0 (fun s => [.slice (s 1).A r3_0.length (s 1).c, .slice (s 1).B r3_1.length (s 1).e, .int .i64 r3_2]) rfl (fun s w h hf => by have h0 := h 0 _ rfl; have f0 := hf 0; have h1 := h 1 _ rfl; have f1 := hf 1; have h2 := h 2 _ rfl; have f2 := hf 2; clear h hf; go_simp; try rfl), trivial⟩
  intro s7 w7 h; have HS7 := Aside0.mk h; clear h HS6
  refine tlP (v := .bool r3_3) 8 rfl ?_
  refine tl0 ?_
  refine wp_seq ?_
  refine reg0 (aF := ?_) [evL 0 32 [] (fun s => .agg #[.slice (s7 1).A r3_0.length (s7 1).c, .slice (s7 1).B r3_1.length (s7 1).e, .int .i64 r3_2]), evL 1 33 [] (fun s => .agg #[.slice (s5 2).A r3_0.length (s5 2).c, .slice (s5 2).B r3_1.length (s5 2).e, .int .i64 r3_2]), evC 2 (some 34) [] (fun s x => .bool true) (fun s x => []), evP 3 35 [] (fun s => .bool false), evP 4 36 [] (fun s => .bool false), evP 5 37 [] (fun s => .bool r3_3), evP 6 38 [] (fun s => .bool r3_3), evP 7 39 [] (fun s => .bool false), evP 8 40 [] (fun s => .bool false)] [] false 9 rfl rfl (by kernel_rfl) rfl (fun _ => rfl) ?aF HS7.out ?hs ?_
  rotate_left 1
  case aF => intro s; simp only [putE, EvT.val, Act.put, setIfInBounds_toArray, set_cons_zero, set_cons_succ]; rfl
  case hs => exact ⟨ld rfl 1 (fun s => rfl) (fun s w h => by have h0 := h 0 _ rfl; have h1 := h 1 _ rfl; have h2 := h 2 _ rfl; clear h; go_simp; try rfl), ld rfl 6 (fun s => rfl) (fun s w h => by have h0 := h 0 _ rfl; have h1 := h 1 _ rfl; have h2 := h 2 _ rfl; clear h; go_simp; try rfl), cl rfl (fun s => #[.agg #[.slice (s7 1).A r3_0.length (s7 1).c, .slice (s7 1).B r3_1.length (s7 1).e, .int .i64 r3_2], .agg #[.slice (s5 2).A r3_0.length (s5 2).c, .slice (s5 2).B r3_1.length (s5 2).e, .int .i64 r3_2]]) Try.func18 (fun s w1 h => (laws_eqDesk.calls _ _ _ _ _ _ _ _ _ _ _ _ _ _ _ _ _ (Kd.S_reads' (h.get 0 rfl).1).2.2 (Kd.S_reads' (h.get 0 rfl).1).2.1 (Kd.R_reads' (h.get 0 rfl).2).2.2 (Kd.R_reads' (h.get 0 rfl).2).2.1 (Kd.S_reads' (h.get 5 rfl).1).2.2 (Kd.S_reads' (h.get 5 rfl).1).2.1 (Kd.R_reads' (h.get 5 rfl).2).2.2 (Kd.R_reads' (h.get 5 rfl).2).2.1 H5.out).mono (by rintro e w2 ⟨rfl, hb⟩; exact fin0 hb)), pu rfl, pu rfl, pu rfl, pu rfl, pn Try.underlying4 rfl, pu rfl, trivial⟩
  intro s8 w8 h; have HS8 := Aside0.mk h; clear h HS7
  refine tl0 ?_
  refine wp_cond_false rfl ?_
  refine wp_skip ?_
  refine thN ?_
  refine wp_seq ?_
  refine reg (aF := ?_) (nw := ?_) [evR 0 41 3 (fun s => .agg #[.slice (s6 1).A r2_0.length (s6 1).c]), evL 1 42 [] (fun s => .agg #[.slice A0_0 l0_0.length c0_0]), evC 2 (some 43) [] (fun s x => .agg #[.slice x.A r2_0.length x.c]) (fun s x => [rowS (Kd.slice 5 (Kd.int .u8)) 119 w x.lo x.hi x.A x.c r2_0]), evC 3 (some 44) [2] (fun s x => .bool true) (fun s x => []), evP 4 45 [] (fun s => .bool false)] [] [] true 5 rfl rfl (by kernel_rfl) rfl (mf0) ?aF ?nw HS8.out ?hs ?_
  rotate_left 2
  case aF => intro s; simp only [putE, EvT.val, Act.put, setIfInBounds_toArray, set_cons_zero, set_cons_succ]; rfl
  case nw => intro s; simp only [thA, bsA, List.nil_append, List.cons_append, List.append_nil, if_true, if_false, Nat.reduceLT, set_cons_zero, set_cons_succ]; rfl
  case hs => exact ⟨lr rfl 3 rfl (fun s w h => by have h0 := h 0 _ rfl; clear h; go_simp; try rfl), ld rfl 7 (fun s => rfl) (fun s w h => by have h0 := h 0 _ rfl; clear h; go_simp; try rfl), cl rfl (fun s => #[.agg #[.slice A0_0 l0_0.length c0_0]]) Try.func16 (fun s w1 h => (laws_toMemory.calls _ _ _ _ _ (Kd.C_below HR0_0.out h.hb) HC0_0.out H2.out).mono (by rintro e w2 ⟨v0_, rfl, ho0, hb⟩; obtain ⟨x, rfl, hx⟩ := fin_S ho0 hb h.hb.size; exact ⟨x, rfl, hx⟩)), cl rfl (fun s => #[.agg #[.slice (s6 1).A r2_0.length (s6 1).c], .agg #[.slice (s 2).A r2_0.length (s 2).c]]) Try.func19 (fun s w1 h => (laws_eqMemory.calls _ _ _ _ _ _ _ _ _ (Kd.S_reads' (h.get 3 rfl)).2.2 (Kd.S_reads' (h.get 3 rfl)).2.1 (Kd.S_reads' (h.get 0 rfl)).2.2 (Kd.S_reads' (h.get 0 rfl)).2.1 H6.out).mono (by rintro e w2 ⟨rfl, hb⟩; exact fin0 hb)), pu rfl, trivial⟩
  intro s9 w9 h; have HS9 := Aside0.mk h; clear h HS8
  refine tl0 ?_
  refine wp_cond_false rfl ?_
  refine wp_skip ?_
  refine thN ?_
  refine reg0 (aF := ?_) [] [0] false 1 rfl rfl (by kernel_rfl) rfl (fun _ => rfl) ?aF HS9.out ?hs ?_
  rotate_left 1
  case aF => intro s; simp only [putE, EvT.val, Act.put, setIfInBounds_toArray, set_cons_zero, set_cons_succ]; rfl
  case hs => exact trivial
  intro s10 w10 h; have HS10 := Aside0.mk h; clear h HS9
  refine tlP (v := .int .i64 1) 9 rfl ?_
  refine tl0 ?_
  refine reg (aF := ?_) (nw := ?_) [evL 0 46 [] (fun s => .agg #[.slice (s6 1).A r2_0.length (s6 1).c]), evP 1 47 [] (fun s => .int .i64 1), evW 2 (some 48) [] (fun s => .int .i64 r7_0)] [3] [⟨3, 2, [], fun s => ⟨(s6 1).lo, (s6 1).hi, fun w_ => Kd.S (Kd.slice 5 (Kd.int .u8)) 119 w_ w.heap.size (fun k_ => (s6 1).lo ≤ k_ ∧ k_ < (s6 1).hi) (.slice (s6 1).A r2_0.length (s6 1).c) r7_1⟩⟩] false 4 rfl rfl (by kernel_rfl) rfl ((mf1 mf0)) ?aF ?nw HS10.out ?hs ?_
  rotate_left 2
  case aF => intro s; simp only [putE, EvT.val, Act.put, setIfInBounds_toArray, set_cons_zero, set_cons_succ]; rfl
  case nw => intro s; simp only [thA, bsA, List.nil_append, List.cons_append, List.append_nil, if_true, if_false, Nat.reduceLT, set_cons_zero, set_cons_succ]; rfl
  case hs => exact ⟨ld rfl 4 (fun s => rfl) (fun s w h => by have h0 := h 0 _ rfl; clear h; go_simp; try rfl), pu rfl, cw rfl 0 3 rfl rfl (fun s => #[.agg #[.slice (s6 1).A r2_0.length (s6 1).c], .int .i64 1]) Try.func20 (fun s w1 h => (laws_markMemory.calls (fun k_ => (s6 1).lo ≤ k_ ∧ k_ < (s6 1).hi) _ _ _ _ _ w _ h.hb (h.get 0 rfl) H7.out).mono (by rintro e w2 ⟨rfl, ho0, hb, hk⟩; exact ⟨rfl, Wrote.of 0 h rfl hb hk (fun w_ ha => S_again ho0 ha)⟩)), trivial⟩
  intro s11 w11 h; have HS11 := Aside0.mk h; clear h HS10
  refine tlP (v := .int .i64 r7_0) 9 rfl ?_
  refine tl0 ?_
  refine wp_seq ?_
  refine reg0 (aF := ?_) [evP 0 49 [] (fun s => .int .i64 r7_0), evP 1 50 [] (fun s => .bool false), evP 2 51 [] (fun s => .bool false), evL 3 52 [] (fun s => .agg #[.slice (s7 1).A r3_0.length (s7 1).c, .slice (s7 1).B r3_1.length (s7 1).e, .int .i64 r3_2]), evL 4 53 [] (fun s => .agg #[.slice (s5 2).A r3_0.length (s5 2).c, .slice (s5 2).B r3_1.length (s5 2).e, .int .i64 r3_2]), evC 5 (some 54) [] (fun s x => .bool true) (fun s x => []), evP 6 55 [] (fun s => .bool false), evP 7 56 [] (fun s => .bool false), evP 8 57 [] (fun s => .bool false), evP 9 58 [] (fun s => .bool r3_3), evP 10 59 [] (fun s => .bool r3_3), evP 11 60 [] (fun s => .bool false), evP 12 61 [] (fun s => .bool false)] [] false 13 rfl rfl (by kernel_rfl) rfl (fun _ => rfl) ?aF HS11.out ?hs ?_
  rotate_left 1
  case aF => intro s; simp only [putE, EvT.val, Act.put, setIfInBounds_toArray, set_cons_zero, set_cons_succ]; rfl
  case hs => exact ⟨pu rfl, pb (q := .lss) Nb_r7_0 rfl, pu rfl, ld rfl 2 (fun s => rfl) (fun s w h => by have h0 := h 0 _ rfl; have h1 := h 1 _ rfl; have h2 := h 2 _ rfl; clear h; go_simp; try rfl), ld rfl 7 (fun s => rfl) (fun s w h => by have h0 := h 0 _ rfl; have h1 := h 1 _ rfl; have h2 := h 2 _ rfl; clear h; go_simp; try rfl), cl rfl (fun s => #[.agg #[.slice (s7 1).A r3_0.length (s7 1).c, .slice (s7 1).B r3_1.length (s7 1).e, .int .i64 r3_2], .agg #[.slice (s5 2).A r3_0.length (s5 2).c, .slice (s5 2).B r3_1.length (s5 2).e, .int .i64 r3_2]]) Try.func18 (fun s w1 h => (laws_eqDesk.calls _ _ _ _ _ _ _ _ _ _ _ _ _ _ _ _ _ (Kd.S_reads' (h.get 1 rfl).1).2.2 (Kd.S_reads' (h.get 1 rfl).1).2.1 (Kd.R_reads' (h.get 1 rfl).2).2.2 (Kd.R_reads' (h.get 1 rfl).2).2.1 (Kd.S_reads' (h.get 6 rfl).1).2.2 (Kd.S_reads' (h.get 6 rfl).1).2.1 (Kd.R_reads' (h.get 6 rfl).2).2.2 (Kd.R_reads' (h.get 6 rfl).2).2.1 H5.out).mono (by rintro e w2 ⟨rfl, hb⟩; exact fin0 hb)), pu rfl, pu rfl, pu rfl, pu rfl, pu rfl, pn Try.underlying4 rfl, pu rfl, trivial⟩
  intro s12 w12 h; have HS12 := Aside0.mk h; clear h HS11
  refine tl0 ?_
  refine wp_cond_false rfl ?_
  refine wp_skip ?_
  refine thN ?_
  refine reg0 (aF := ?_) [] [0] false 1 rfl rfl (by kernel_rfl) rfl (fun _ => rfl) ?aF HS12.out ?hs ?_
  rotate_left 1
  case aF => intro s; simp only [putE, EvT.val, Act.put, setIfInBounds_toArray, set_cons_zero, set_cons_succ]; rfl
  case hs => exact trivial
  intro s13 w13 h; have HS13 := Aside0.mk h; clear h HS12
  refine tlP (v := .int .i64 1) 10 rfl ?_
  refine tl0 ?_
  refine reg (aF := ?_) (nw := ?_) [evL 0 62 [] (fun s => .agg #[.slice (s7 1).A r3_0.length (s7 1).c, .slice (s7 1).B r3_1.length (s7 1).e, .int .i64 r3_2]), evP 1 63 [] (fun s => .int .i64 1), evW 2 (some 64) [] (fun s => .int .i64 r8_0)] [3] [⟨1, 2, [], fun s => ⟨(s7 1).lo, (s7 1).hi, fun w_ => Kd.S (Kd.slice 5 (Kd.int .u8)) 119 w_ w.heap.size (fun k_ => (s7 1).lo ≤ k_ ∧ k_ < (s7 1).hi) (.slice (s7 1).A r3_0.length (s7 1).c) r8_1 ∧ Kd.R kimplWindow 48 w_ w.heap.size (fun k_ => (s7 1).lo ≤ k_ ∧ k_ < (s7 1).hi) (.slice (s7 1).B r3_1.length (s7 1).e) r8_2⟩⟩] false 4 rfl rfl (by kernel_rfl) rfl ((mf1 mf0)) ?aF ?nw HS13.out ?hs ?_
  rotate_left 2
  case aF => intro s; simp only [putE, EvT.val, Act.put, setIfInBounds_toArray, set_cons_zero, set_cons_succ]; rfl
  case nw => intro s; simp only [thA, bsA, List.nil_append, List.cons_append, List.append_nil, if_true, if_false, Nat.reduceLT, set_cons_zero, set_cons_succ]; rfl
  case hs => exact ⟨ld rfl 2 (fun s => rfl) (fun s w h => by have h0 := h 0 _ rfl; have h1 := h 1 _ rfl; have h2 := h 2 _ rfl; clear h; go_simp; try rfl), pu rfl, cw rfl 0 1 rfl rfl (fun s => #[.agg #[.slice (s7 1).A r3_0.length (s7 1).c, .slice (s7 1).B r3_1.length (s7 1).e, .int .i64 r3_2], .int .i64 1]) Try.func21 (fun s w1 h => (laws_markDesk.calls (fun k_ => (s7 1).lo ≤ k_ ∧ k_ < (s7 1).hi) _ _ _ _ _ _ _ _ _ w _ h.hb (h.get 0 rfl).1 (h.get 0 rfl).2 H8.out).mono (by rintro e w2 ⟨rfl, ho0, ho1, hb, hk⟩; exact ⟨rfl, Wrote.of 0 h rfl hb hk (fun w_ ha => ⟨S_again ho0 ha, R_again ho1 ha⟩)⟩)), trivial⟩
  intro s14 w14 h; have HS14 := Aside0.mk h; clear h HS13
  refine tlP (v := .int .i64 r8_0) 10 rfl ?_
  refine tl0 ?_
  refine reg0 (aF := ?_) [] [0] false 1 rfl rfl (by kernel_rfl) rfl (fun _ => rfl) ?aF HS14.out ?hs ?_
  rotate_left 1
  case aF => intro s; simp only [putE, EvT.val, Act.put, setIfInBounds_toArray, set_cons_zero, set_cons_succ]; rfl
  case hs => exact trivial
  intro s15 w15 h; have HS15 := Aside0.mk h; clear h HS14
  refine tlP (v := .int .i64 1) 11 rfl ?_
  refine tl0 ?_
  refine reg0 (aF := ?_) [evL 0 65 [] (fun s => .agg #[.slice (s7 1).A r3_0.length (s7 1).c, .slice (s7 1).B r3_1.length (s7 1).e, .int .i64 r3_2]), evP 1 66 [] (fun s => .int .i64 1), evC 2 (some 67) [] (fun s x => .int .i64 r8_0) (fun s x => [])] [3] false 4 rfl rfl (by kernel_rfl) rfl (fun _ => rfl) ?aF HS15.out ?hs ?_
  rotate_left 1
  case aF => intro s; simp only [putE, EvT.val, Act.put, setIfInBounds_toArray, set_cons_zero, set_cons_succ]; rfl
  case hs => exact ⟨ld rfl 2 (fun s => rfl) (fun s w h => by have h0 := h 0 _ rfl; have h1 := h 1 _ rfl; have h2 := h 2 _ rfl; clear h; go_simp; try rfl), pu rfl, cl rfl (fun s => #[.agg #[.slice (s7 1).A r3_0.length (s7 1).c, .slice (s7 1).B r3_1.length (s7 1).e, .int .i64 r3_2], .int .i64 1]) Try.func22 (fun s w1 h => by rw [show r3_0.length = r8_1.length from (Kd.S_reads' (h.get 1 rfl).1).1, show r3_1.length = r8_2.length from (Kd.R_reads' (h.get 1 rfl).2).1]; exact (laws_heldDesk.calls _ _ _ _ _ _ _ _ _ _ _ ((Kd.S_reads' (h.get 1 rfl).1).1 ▸ (Kd.S_reads' (h.get 1 rfl).1).2.2) ((Kd.S_reads' (h.get 1 rfl).1).1 ▸ (Kd.S_reads' (h.get 1 rfl).1).2.1) ((Kd.R_reads' (h.get 1 rfl).2).1 ▸ (Kd.R_reads' (h.get 1 rfl).2).2.2) ((Kd.R_reads' (h.get 1 rfl).2).1 ▸ (Kd.R_reads' (h.get 1 rfl).2).2.1) H9.out).mono (by rintro e w2 ⟨rfl, hb⟩; exact fin0 hb)), trivial⟩
  intro s16 w16 h; have HS16 := Aside0.mk h; clear h HS15
  refine tlP (v := .int .i64 r8_0) 11 rfl ?_
  refine tl0 ?_
  refine wp_seq ?_
  refine reg0 (aF := ?_) [evP 0 68 [] (fun s => .int .i64 r8_0), evP 1 69 [] (fun s => .bool false)] [] false 2 rfl rfl (by kernel_rfl) rfl (fun _ => rfl) ?aF HS16.out ?hs ?_
  rotate_left 1
  case aF => intro s; simp only [putE, EvT.val, Act.put, setIfInBounds_toArray, set_cons_zero, set_cons_succ]; rfl
  case hs => exact ⟨pu rfl, pb (q := .lss) Nb_r8_0 rfl, trivial⟩
  intro s17 w17 h; have HS17 := Aside0.mk h; clear h HS16
  refine tl0 ?_
  refine wp_cond_false rfl ?_
  refine wp_skip ?_
  refine thN ?_
  refine wp_seq ?_
  refine reg0 (aF := ?_) [evP 0 70 [] (fun s => .int .i64 r8_0), evP 1 71 [] (fun s => .int .i64 r8_0), evP 2 72 [] (fun s => .bool false)] [] false 3 rfl rfl (by kernel_rfl) rfl (fun _ => rfl) ?aF HS17.out ?hs ?_
  rotate_left 1
  case aF => intro s; simp only [putE, EvT.val, Act.put, setIfInBounds_toArray, set_cons_zero, set_cons_succ]; rfl
  case hs => exact ⟨pu rfl, pu rfl, pb (q := .neq) (bne_self_eq_false _) rfl, trivial⟩
  intro s18 w18 h; have HS18 := Aside0.mk h; clear h HS17
  refine tl0 ?_
  refine wp_cond_false rfl ?_
  refine wp_skip ?_
  refine thN ?_
  refine reg (aF := ?_) (nw := ?_) [evL 0 74 [] (fun s => .agg #[.slice A0_0 l0_0.length c0_0]), evC 1 (some 75) [] (fun s x => .agg #[.slice x.A r2_0.length x.c]) (fun s x => [rowS (Kd.slice 5 (Kd.int .u8)) 119 w x.lo x.hi x.A x.c r2_0]), evC 2 (some 76) [1] (fun s x => .tuple #[.agg #[.slice x.A r3_0.length x.c, .slice x.B r3_1.length x.e, .int .i64 r3_2], .bool r3_3]) (fun s x => [⟨x.lo, x.hi, fun w_ => Kd.S (Kd.slice 5 (Kd.int .u8)) 119 w_ w.heap.size (fun k_ => x.lo ≤ k_ ∧ k_ < x.hi) (.slice x.A r3_0.length x.c) r3_0 ∧ Kd.R kimplWindow 48 w_ w.heap.size (fun k_ => x.lo ≤ k_ ∧ k_ < x.hi) (.slice x.B r3_1.length x.e) r3_1⟩]), evP 3 73 [2] (fun s => .tuple #[.agg #[.slice (s 2).A r3_0.length (s 2).c, .slice (s 2).B r3_1.length (s 2).e, .int .i64 r3_2], .bool r3_3]), evP 4 77 [2] (fun s => .agg #[.slice (s 2).A r3_0.length (s 2).c, .slice (s 2).B r3_1.length (s 2).e, .int .i64 r3_2]), evP 5 78 [] (fun s => .bool r3_3), evB 6 12 [] 29 (fun s => #[.slice none 0 0, .slice none 0 0, .int .i64 0]) 7 [2] (fun s => #[.slice (s 2).A r3_0.length (s 2).c, .slice (s 2).B r3_1.length (s 2).e, .int .i64 r3_2]), evS 7] [8] [] false 9 rfl rfl (by kernel_rfl) rfl (mf0) ?aF ?nw HS18.out ?hs ?_
  rotate_left 2
  case aF => intro s; simp only [putE, EvT.val, Act.put, setIfInBounds_toArray, set_cons_zero, set_cons_succ]; rfl
  case nw => intro s; simp only [thA, bsA, List.nil_append, List.cons_append, List.append_nil, if_true, if_false, Nat.reduceLT, set_cons_zero, set_cons_succ]; rfl
  case hs => exact ⟨ld rfl 8 (fun s => rfl) (fun s w h => by have h0 := h 0 _ rfl; clear h; go_simp; try rfl), cl rfl (fun s => #[.agg #[.slice A0_0 l0_0.length c0_0]]) Try.func16 (fun s w1 h => (laws_toMemory.calls _ _ _ _ _ (Kd.C_below HR0_0.out h.hb) HC0_0.out H2.out).mono (by rintro e w2 ⟨v0_, rfl, ho0, hb⟩; obtain ⟨x, rfl, hx⟩ := fin_S ho0 hb h.hb.size; exact ⟨x, rfl, hx⟩)), cl rfl (fun s => #[.agg #[.slice (s 1).A r2_0.length (s 1).c]]) Try.func17 (fun s w1 h => (impl_NewDesk.calls _ _ _ _ _ _ _ _ _ (Kd.S_reads' (h.get 0 rfl)).2.2 (Kd.S_reads' (h.get 0 rfl)).2.1 H4.out).mono (by rintro e w2 ⟨v0_, v1_, rfl, ho0, ho1, hb⟩; obtain ⟨A0, c0, rfl⟩ := Kd.S_slice ho0; obtain ⟨A1, c1, rfl⟩ := Kd.R_slice ho1; obtain ⟨lo, hi, hx⟩ := (Stk.nil w1).push hb (P := fun lo_ hi_ w_ => Kd.S (Kd.slice 5 (Kd.int .u8)) 119 w_ w.heap.size (fun k_ => lo_ ≤ k_ ∧ k_ < hi_) (.slice A0 r3_0.length c0) r3_0 ∧ Kd.R kimplWindow 48 w_ w.heap.size (fun k_ => lo_ ≤ k_ ∧ k_ < hi_) (.slice A1 r3_1.length c1) r3_1) (fun w_ ha => ⟨S_held ho0 h.hb.size ha, R_held ho1 h.hb.size ha⟩); exact ⟨⟨lo, hi, A0, c0, A1, c1, none, 0⟩, rfl, hx⟩)), pu rfl, pu rfl, pu rfl, bv rfl (fun s w => by go_simp; try rfl), st rfl 6 0 (fun s => [.slice (s 2).A r3_0.length (s 2).c, .slice (s 2).B r3_1.length (s 2).e, .int .i64 r3_2]) rfl (fun s w h hf => by have h0 := h 0 _ rfl; have f0 := hf 0; have h1 := h 1 _ rfl; have f1 := hf 1; have h2 := h 2 _ rfl; have f2 := hf 2; clear h hf; go_simp; try rfl), trivial⟩
  intro s19 w19 h; have HS19 := Aside0.mk h; clear h HS18
  refine tlP (v := .bool r3_3) 13 rfl ?_
  refine tl0 ?_
  refine wp_seq ?_
  refine reg0 (aF := ?_) [evL 0 79 [] (fun s => .agg #[.slice (s19 2).A r3_0.length (s19 2).c, .slice (s19 2).B r3_1.length (s19 2).e, .int .i64 r3_2]), evL 1 80 [] (fun s => .agg #[.slice (s5 2).A r3_0.length (s5 2).c, .slice (s5 2).B r3_1.length (s5 2).e, .int .i64 r3_2]), evC 2 (some 81) [] (fun s x => .bool true) (fun s x => []), evP 3 82 [] (fun s => .bool false), evP 4 83 [] (fun s => .bool false), evP 5 84 [] (fun s => .bool r3_3), evP 6 85 [] (fun s => .bool r3_3), evP 7 86 [] (fun s => .bool false), evP 8 87 [] (fun s => .bool false)] [] false 9 rfl rfl (by kernel_rfl) rfl (fun _ => rfl) ?aF HS19.out ?hs ?_
  rotate_left 1
  case aF => intro s; simp only [putE, EvT.val, Act.put, setIfInBounds_toArray, set_cons_zero, set_cons_succ]; rfl
  case hs => exact ⟨ld rfl 2 (fun s => rfl) (fun s w h => by have h0 := h 0 _ rfl; have h1 := h 1 _ rfl; have h2 := h 2 _ rfl; clear h; go_simp; try rfl), ld rfl 10 (fun s => rfl) (fun s w h => by have h0 := h 0 _ rfl; have h1 := h 1 _ rfl; have h2 := h 2 _ rfl; clear h; go_simp; try rfl), cl rfl (fun s => #[.agg #[.slice (s19 2).A r3_0.length (s19 2).c, .slice (s19 2).B r3_1.length (s19 2).e, .int .i64 r3_2], .agg #[.slice (s5 2).A r3_0.length (s5 2).c, .slice (s5 2).B r3_1.length (s5 2).e, .int .i64 r3_2]]) Try.func18 (fun s w1 h => (laws_eqDesk.calls _ _ _ _ _ _ _ _ _ _ _ _ _ _ _ _ _ (Kd.S_reads' (h.get 1 rfl).1).2.2 (Kd.S_reads' (h.get 1 rfl).1).2.1 (Kd.R_reads' (h.get 1 rfl).2).2.2 (Kd.R_reads' (h.get 1 rfl).2).2.1 (Kd.S_reads' (h.get 9 rfl).1).2.2 (Kd.S_reads' (h.get 9 rfl).1).2.1 (Kd.R_reads' (h.get 9 rfl).2).2.2 (Kd.R_reads' (h.get 9 rfl).2).2.1 H5.out).mono (by rintro e w2 ⟨rfl, hb⟩; exact fin0 hb)), pu rfl, pu rfl, pu rfl, pu rfl, pn Try.underlying4 rfl, pu rfl, trivial⟩
  intro s20 w20 h; have HS20 := Aside0.mk h; clear h HS19
  refine tl0 ?_
  refine wp_cond_false rfl ?_
  refine wp_skip ?_
  refine thN ?_
  refine reg0 (aF := ?_) [] [0] false 1 rfl rfl (by kernel_rfl) rfl (fun _ => rfl) ?aF HS20.out ?hs ?_
  rotate_left 1
  case aF => intro s; simp only [putE, EvT.val, Act.put, setIfInBounds_toArray, set_cons_zero, set_cons_succ]; rfl
  case hs => exact trivial
  intro s21 w21 h; have HS21 := Aside0.mk h; clear h HS20
  refine tlP (v := .int .i64 1) 11 rfl ?_
  refine tl0 ?_
  refine reg0 (aF := ?_) [evL 0 88 [] (fun s => .agg #[.slice (s7 1).A r3_0.length (s7 1).c, .slice (s7 1).B r3_1.length (s7 1).e, .int .i64 r3_2]), evP 1 89 [] (fun s => .int .i64 1), evC 2 (some 90) [] (fun s x => .int .i64 r8_0) (fun s x => [])] [3] false 4 rfl rfl (by kernel_rfl) rfl (fun _ => rfl) ?aF HS21.out ?hs ?_
  rotate_left 1
  case aF => intro s; simp only [putE, EvT.val, Act.put, setIfInBounds_toArray, set_cons_zero, set_cons_succ]; rfl
  case hs => exact ⟨ld rfl 5 (fun s => rfl) (fun s w h => by have h0 := h 0 _ rfl; have h1 := h 1 _ rfl; have h2 := h 2 _ rfl; clear h; go_simp; try rfl), pu rfl, cl rfl (fun s => #[.agg #[.slice (s7 1).A r3_0.length (s7 1).c, .slice (s7 1).B r3_1.length (s7 1).e, .int .i64 r3_2], .int .i64 1]) Try.func22 (fun s w1 h => by rw [show r3_0.length = r8_1.length from (Kd.S_reads' (h.get 4 rfl).1).1, show r3_1.length = r8_2.length from (Kd.R_reads' (h.get 4 rfl).2).1]; exact (laws_heldDesk.calls _ _ _ _ _ _ _ _ _ _ _ ((Kd.S_reads' (h.get 4 rfl).1).1 ▸ (Kd.S_reads' (h.get 4 rfl).1).2.2) ((Kd.S_reads' (h.get 4 rfl).1).1 ▸ (Kd.S_reads' (h.get 4 rfl).1).2.1) ((Kd.R_reads' (h.get 4 rfl).2).1 ▸ (Kd.R_reads' (h.get 4 rfl).2).2.2) ((Kd.R_reads' (h.get 4 rfl).2).1 ▸ (Kd.R_reads' (h.get 4 rfl).2).2.1) H9.out).mono (by rintro e w2 ⟨rfl, hb⟩; exact fin0 hb)), trivial⟩
  intro s22 w22 h; have HS22 := Aside0.mk h; clear h HS21
  refine tlP (v := .int .i64 r8_0) 11 rfl ?_
  refine tl0 ?_
  refine wp_seq ?_
  refine reg0 (aF := ?_) [evP 0 91 [] (fun s => .int .i64 r8_0), evP 1 92 [] (fun s => .bool false)] [] false 2 rfl rfl (by kernel_rfl) rfl (fun _ => rfl) ?aF HS22.out ?hs ?_
  rotate_left 1
  case aF => intro s; simp only [putE, EvT.val, Act.put, setIfInBounds_toArray, set_cons_zero, set_cons_succ]; rfl
  case hs => exact ⟨pu rfl, pb (q := .lss) Nb_r8_0 rfl, trivial⟩
  intro s23 w23 h; have HS23 := Aside0.mk h; clear h HS22
  refine tl0 ?_
  refine wp_cond_false rfl ?_
  refine wp_skip ?_
  refine thN ?_
  refine wp_seq ?_
  refine reg0 (aF := ?_) [evP 0 93 [] (fun s => .int .i64 r8_0), evP 1 94 [] (fun s => .int .i64 r8_0), evP 2 95 [] (fun s => .bool false)] [] false 3 rfl rfl (by kernel_rfl) rfl (fun _ => rfl) ?aF HS23.out ?hs ?_
  rotate_left 1
  case aF => intro s; simp only [putE, EvT.val, Act.put, setIfInBounds_toArray, set_cons_zero, set_cons_succ]; rfl
  case hs => exact ⟨pu rfl, pu rfl, pb (q := .neq) (bne_self_eq_false _) rfl, trivial⟩
  intro s24 w24 h; have HS24 := Aside0.mk h; clear h HS23
  refine tl0 ?_
  refine wp_cond_false rfl ?_
  refine wp_skip ?_
  refine thN ?_
  refine reg0 (aF := ?_) [] [0] false 1 rfl rfl (by kernel_rfl) rfl (fun _ => rfl) ?aF HS24.out ?hs ?_
  rotate_left 1
  case aF => intro s; simp only [putE, EvT.val, Act.put, setIfInBounds_toArray, set_cons_zero, set_cons_succ]; rfl
  case hs => exact trivial
  intro s25 w25 h; have HS25 := Aside0.mk h; clear h HS24
  refine tlP (v := .bool true) 2 rfl ?_
  refine tl0 ?_
  refine wp_ret ?_
  go_ret
  exact ⟨by first | rfl | simp, HS25.out.hb⟩
end Go.Proofs.Ytoomjghabiojkaa.P


/- The law FnExactNewDesk. -/
namespace Go.Proofs.Ytoomjghabiojkaa.P
open Go.RowKit Go.Proofs.YtoomjghabiojkaaW.PrintWords Go.Proofs.YtoomjghabiojkaaW.Mine
set_option linter.unusedVariables false
theorem FnExactNewDesk_walk (w : World) (cs0 : Array Value) (a0 : (List (List Int))) (hK0 : (Kd.slice 119 (Kd.slice 5 (Kd.int .u8))).K w a0 cs0.toList) (ok0 : (∀ y1 ∈ a0, (∀ y2 ∈ y1, (Lit.int .u8 y2).wf = true))) :
    Calls Try.prog 3 #[.agg cs0] w fun e w' => e = .returned (.bool true) ∧ Below w.heap.size w w' := by
  obtain ⟨A0, c0, hcs0, hc0, hr0⟩ := hK0
  obtain rfl := agg_of hcs0
  obtain ⟨r, hz, hh⟩ := szMemory_f a0 1048576 (by omega) (by omega) hr0.2.1 (C_inner_len hr0)
  rcases hh with ⟨hm, h5⟩ | rfl
  · have h6 := newDesk_ok a0 hm
    have h7 := newDesk_len a0
    exact FnExactNewDesk_run A0 c0 a0 _ _ _ _ _ _ _ _ _ _ _ w hr0 hc0 hz.rounds (toMemory_f a0 hm) (specNewDesk_f a0 hm).rounds (implNewDesk_f a0 hm).rounds (eqDesk_f _ _ _ h6 h7).rounds (eqM _ hm).rounds (markM _ hm) (markD _ _ h6 h7) (heldDesk_f _ _ _ h6 h7).rounds (by omega) (markM_pos _) (by omega)
  · exact FnExactNewDesk_run0 A0 c0 a0 _ w hr0 hc0 hz.rounds (by omega)
end Go.Proofs.Ytoomjghabiojkaa.P


namespace Go.Proofs.Ytoomjghabiojkaa.fnExactNewDesk
open Go.ChangeShapes Go.WideShapes Go.ChangeAt Go.RowKit Go.Proofs.YtoomjghabiojkaaW.PrintWords Go.Proofs.YtoomjghabiojkaaW.Mine Go.Proofs.Ytoomjghabiojkaa.P
open Go.ChangeMaps (open_string shut_string)
set_option linter.unusedVariables false
theorem own : ownKnob Try.prog.godebug = none := by kernel_rfl
theorem laidOut : laidOutB Try.prog = true := by kernel_rfl
set_option maxRecDepth 100000 in
theorem lifted (os : Os) (started : os.Started) (H : Type) (enc : TypeId × Value → H) :
    ReturnsInHanded {} Try.checked os 3 .any (Rows.fnExactNewDeskSpec.pre6 enc Try.prog Try.f3 Rows.fnExactNewDeskRow.domain false) (Rows.fnExactNewDeskSpec.post enc Try.prog Try.f3 false true false false) := by
  refine returnsInHanded_of_change_sized (C := Try.checked) own started (by kernel_rfl) Try.func3
    (ChangeSpec.witness6 (enc := enc) (C := Try.checked) false ⟨#[], #[.agg #[.slice none 0 0]], []⟩ 8 (by kernel_rfl) (by kernel_rfl) (by kernel_rfl) (by kernel_rfl)) ?_
  intro W base args ds gs before hval0 hW hcnd hsz0 _
  have hval : ∀ (j : Nat) t v, Try.f3.params[j]? = some t → args[j]? = some v → Value.okWide Try.prog W .any base t v := hval0
  have hW' := hW
  obtain ⟨p, q, hA0, hV, rfl, hfz, hnd⟩ := hW
  have hA : DataW.TrodAll enc Try.prog W 0 (fun _ => true) true Try.f3.params.toList args.toList ds p := hA0
  rw [Try.params3] at hA hval
  obtain ⟨v0, vs0, d0, ds0, p0, q0, hargs, rfl, rfl, h0, r0⟩ := trodAll_cons hA
  obtain ⟨rfl, rfl, rfl⟩ := trodAll_nil r0
  obtain rfl : args = #[v0] := by cases args; simp_all
  obtain ⟨rfl, rfl⟩ := trodVars_none hV
  have k0 := h0
  have lt0 : ∀ x ∈ p0, x.block < W.heap.size := by obtain ⟨m, hm⟩ := k0; exact DataW.trod_lt m _ _ _ hm
  obtain ⟨cs0, rfl, _⟩ := okWide_struct Try.underlying24 (hval 0 24 v0 rfl rfl)
  obtain ⟨a0, hK0, ok0⟩ : ∃ a : (List (List Int)), (Kd.slice 119 (Kd.slice 5 (Kd.int .u8))).K W a cs0.toList ∧ (∀ y1 ∈ a, (∀ y2 ∈ y1, (Lit.int .u8 y2).wf = true)) := by obtain ⟨fuel, hf⟩ := h0; exact (ReadsK.struct Try.underlying24 (by kernel_rfl) (ReadsF.last rfl (ReadsK.slice Try.underlying22 (by kernel_rfl) (ReadsK.slice Try.underlying119 (by kernel_rfl) (ReadsK.int Try.underlying5))) (by kernel_rfl))) hf
  clear hA0 hval0 hsz0
  refine (FnExactNewDesk_walk W cs0 a0 hK0 ok0).mono fun e W' ⟨he, bel⟩ => ?_
  subst he
  exact ⟨_, rfl, _, _, _, [], _, [], hW', trodAll_mk1 (shut_bool Try.underlying4 _), (trodAll_cons_mk (Below.trod laidOut (by kernel_rfl) (of_decide_eq_true (by kernel_rfl)) k0 bel lt0) trodAll_mk0), rfl, bel.frame _, fun h => by cases h⟩
theorem over : Rows.fnExactNewDeskRow.holds Try.pinned (OpenSpec.ofChange Rows.fnExactNewDeskSpec) :=
  OpenClaim.holds_of_wide 3 Try.f3 rfl rfl rfl rfl rfl rfl rfl ⟨rfl, rfl, rfl, rfl, rfl⟩ rfl rfl rfl rfl rfl (by kernel_rfl) Try.func3 (by kernel_rfl)
    (of_decide_eq_true (by kernel_rfl)) (by unfold Func.isWrapper; first | (rw [if_pos (by decide +kernel)]; kernel_rfl) | (rw [if_neg (by decide +kernel)]; exact ⟨rfl, rfl⟩))
    (fun os started H enc _ => lifted os started H enc)
theorem proved : Rows.FnExactNewDeskSaid := over
end Go.Proofs.Ytoomjghabiojkaa.fnExactNewDesk
namespace Go.Proofs.Ytoomjghabiojkaa
theorem fnExactNewDesk_holds : Rows.FnExactNewDeskSaid := fnExactNewDesk.proved
#print axioms fnExactNewDesk_holds
end Go.Proofs.Ytoomjghabiojkaa


