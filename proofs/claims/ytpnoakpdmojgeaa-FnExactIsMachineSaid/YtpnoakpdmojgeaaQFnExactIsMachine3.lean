/- Part 3 of the proof of the law FnExactIsMachine: contracts of the functions that it reaches. -/
import Derived.Test.YtpnoakpdmojgeaaQFnExactIsMachine2
import Derived.Test.YtpnoakpdmojgeaaWApart
import Derived.Test.YtpnoakpdmojgeaaWEqStruct
import Derived.Test.YtpnoakpdmojgeaaWFoot
import Derived.Test.YtpnoakpdmojgeaaWGuard
import Derived.Test.YtpnoakpdmojgeaaWKept
import Derived.Test.YtpnoakpdmojgeaaWLast
import Derived.Test.YtpnoakpdmojgeaaWMore
import Derived.Test.YtpnoakpdmojgeaaWN
import Derived.Test.YtpnoakpdmojgeaaWRepsOne
import Derived.Test.YtpnoakpdmojgeaaWShare
import Derived.Test.YtpnoakpdmojgeaaWTab
import Derived.Test.YtpnoakpdmojgeaaWWords
namespace Go.Proofs.Ytpnoakpdmojgeaa.P
open Go.RowKit Go.Proofs.YtpnoakpdmojgeaaW.PrintWords Go.Proofs.YtpnoakpdmojgeaaW.PrintLast Go.Proofs.YtpnoakpdmojgeaaW.PrintMore
attribute [local go_sem] max2_int min2_int max_two min_two max_three min_three max_four min_four   -- for this text's walks alone
set_option linter.unusedVariables false
set_option linter.unusedSimpArgs false

attribute [local go_sem high] eqAimplWindow
/-! ### impl_IsMachine: function 56 -/
mutual
def impl_IsMachine.j0 : Nat → Bool → List (List Int) → List (SimplWindow) → List Bool → Option (Bool)
  | 0, _, _, _, _ => none
  | k + 1, x20, x881000, x881001, x881002 => if x20 = true then (some false) else (impl_IsMachine.l0 k x881001 (x881001.length : Int) 0 x881000 x881001 x881002)
def impl_IsMachine.l0 : Nat → List (SimplWindow) → Int → Int → List (List Int) → List (SimplWindow) → List Bool → Option (Bool)
  | 0, _, _, _, _, _, _ => none
  | k + 1, x22, x23, x24, x881000, x881001, x881002 => if x24 < x23 then (if 0 ≤ x24 then (if x24 < (x22.length : Int) then (if x24 < (x881002.length : Int) then (if rdOf false x881002 x24 = true then ((impl_Memory_hasWindow.f x881000 ((rd_TimplWindow x22 x24).f0) ((rd_TimplWindow x22 x24).f1) ((rd_TimplWindow x22 x24).f2) ((rd_TimplWindow x22 x24).f3)).bind fun t885 => (if t885 = true then (impl_IsMachine.l0 k x22 x23 (wrap64 (x24 + 1)) x881000 x881001 x881002) else (some false))) else (if (!(((rd_TimplWindow x22 x24).f0) == 0) || (!(((rd_TimplWindow x22 x24).f1) == 0) || (!(((rd_TimplWindow x22 x24).f2) == 0) || (!(((rd_TimplWindow x22 x24).f3) == 0))))) = true then (some false) else (impl_IsMachine.l0 k x22 x23 (wrap64 (x24 + 1)) x881000 x881001 x881002))) else (none)) else (none)) else (none)) else (some true)
end
def impl_IsMachine.f (k : Nat) (l0_0 : List (List Int)) (l0_1 : List (SimplWindow)) (l0_2 : List Bool) : Option (Bool) := (impl_IsMemory.f k l0_0).bind fun t881 => (if t881 = true then (if (l0_1.length : Int) = 4 then (impl_IsMachine.j0 k ((l0_2.length : Int) != 4) l0_0 l0_1 l0_2) else (impl_IsMachine.j0 k true l0_0 l0_1 l0_2)) else (impl_IsMachine.j0 k true l0_0 l0_1 l0_2))
set_option maxHeartbeats 8000000 in
set_option maxRecDepth 100000 in
theorem impl_IsMachine.calls (k : Nat) (A0_0 : Option Addr) (c0_0 : Nat) (l0_0 : List (List Int)) (A0_1 : Option Addr) (c0_1 : Nat) (l0_1 : List (SimplWindow)) (A0_2 : Option Addr) (c0_2 : Nat) (l0_2 : List Bool) (r : Bool) (w : World) (hr0_0 : Kd.C (Kd.slice 5 (Kd.int .u8)) w A0_0 l0_0.length l0_0) (hc0_0 : l0_0.length ≤ c0_0) (hr0_1 : Kd.C kimplWindow w A0_1 l0_1.length l0_1) (hc0_1 : l0_1.length ≤ c0_1) (hr0_2 : Kd.C Kd.bool w A0_2 l0_2.length l0_2) (hc0_2 : l0_2.length ≤ c0_2) (h : impl_IsMachine.f k l0_0 l0_1 l0_2 = some r) :
    Calls Try.prog 56 #[.agg #[.slice A0_0 l0_0.length c0_0, .slice A0_1 l0_1.length c0_1, .slice A0_2 l0_2.length c0_2]] w fun e w' => e = .returned (.bool r) ∧ Below w.heap.size w w' := by
  have hu88 := Try.underlying88
  have hu33 := Try.underlying33
  have hu35 := Try.underlying35
  have HR0_0 := Aside0.mk hr0_0
  have HC0_0 := Aside0.mk hc0_0
  clear hr0_0 hc0_0
  have HR0_1 := Aside0.mk hr0_1
  have HC0_1 := Aside0.mk hc0_1
  clear hr0_1 hc0_1
  have HR0_2 := Aside0.mk hr0_2
  have HC0_2 := Aside0.mk hc0_2
  clear hr0_2 hc0_2
  have HB := Aside0.mk (Below.refl w.heap.size w)
  have H : ((impl_IsMemory.f k l0_0).bind fun t881 => (if t881 = true then (if (l0_1.length : Int) = 4 then (impl_IsMachine.j0 k ((l0_2.length : Int) != 4) l0_0 l0_1 l0_2) else (impl_IsMachine.j0 k true l0_0 l0_1 l0_2)) else (impl_IsMachine.j0 k true l0_0 l0_1 l0_2))) = some r := h
  clear h
  have HC2 := Aside0.mk H
  clear H
  go_enter Try.func56, Try.ntmps56
  go_upto_region 1 with (first | ((with_reducible refine gate_dst (N := 1) rfl ?_); (try (refine gate_guard (by rfl) ?_; dsimp only)); refine box_event ?hg (N := 1) ?hd (cs := #[.slice A0_0 l0_0.length c0_0, .slice A0_1 l0_1.length c0_1, .slice A0_2 l0_2.length c0_2]) (t := 88) ?hr ?_; (case hd => rfl); (case hg => rfl); (case hr => first | (go_simp; done) | (go_simp; rfl)); intro gb880 hg w3 hbox hb; have n0_ := Aside0.mk (below_step (by repeat (first | (with_reducible first | exact HB.out | apply below_alloc | apply pw_below_drewN | apply below_drew1) | exact HB.out)) hb); have n1_ := Aside0.mk (hbox); have n2_ := Aside0.mk ((by rw [hg]; exact (below_size (by repeat (first | (with_reducible first | exact HB.out | apply below_alloc | apply pw_below_drewN | apply below_drew1) | exact HB.out))) : w.heap.size ≤ gb880)); have n3_ := Aside0.mk ((by rw [hg]; exact (below_size (by repeat (first | (with_reducible first | exact HB.out | apply below_alloc | apply pw_below_drewN | apply below_drew1) | exact HB.out))) : w.heap.size ≤ gb880)); clear HB; have HB := n0_; have BK880 := n1_; have GW880 := n2_; have GE880 := n3_; clear n0_ n1_ n2_ n3_; clear hb hbox hg))
  (try simp only [Act.put, List.setIfInBounds_toArray, List.set_cons_zero, List.set_cons_succ])
  go_cut [20] (fun v20 wc => ∃ (kq : Nat) (x20_1 : Bool), v20 = .bool x20_1 ∧ Aside0 (impl_IsMachine.j0 kq x20_1 l0_0 l0_1 l0_2 = some r) ∧ Aside0 (kq ≤ k) ∧ Aside0 (wc.heap[gb880]? = some (.cells #[(.slice A0_0 l0_0.length c0_0), (.slice A0_1 l0_1.length c0_1), (.slice A0_2 l0_2.length c0_2)] 88 (0, 0))) ∧ Aside0 (Below w.heap.size w wc))
  case first =>
    have H := HC2.out
    clear HC2
    replace H := Option.bind_eq_some_iff.mp H
    obtain ⟨t881, A40, H⟩ := H
    replace H : (if t881 = true then (if (l0_1.length : Int) = 4 then (impl_IsMachine.j0 k ((l0_2.length : Int) != 4) l0_0 l0_1 l0_2) else (impl_IsMachine.j0 k true l0_0 l0_1 l0_2)) else (impl_IsMachine.j0 k true l0_0 l0_1 l0_2)) = some r := H
    have A4 := Aside0.mk A40
    clear A40
    by_cases c5 : t881 = true
    · subst c5
      have H1 : (if (l0_1.length : Int) = 4 then (impl_IsMachine.j0 k ((l0_2.length : Int) != 4) l0_0 l0_1 l0_2) else (impl_IsMachine.j0 k true l0_0 l0_1 l0_2)) = some r := by rw [if_pos rfl] at H; exact H
      clear H
      have H := H1
      clear H1
      by_cases c6 : (l0_1.length : Int) = 4
      · rw [if_pos c6] at H
        have c6b0 : ((l0_1.length : Int) == 4) = true := beq_iff_eq.mpr c6
        have c6b1 : ((l0_1.length : Int) != 4) = false := bne_eq_false_iff_eq.mpr c6
        clear c6
        (first | rw [c6b0] | (simp only [i64_w, i32_w]; rw [c6b0]) | skip)
        have H' := Aside0.mk H
        clear H
        have hcz7_0 : w3.cell? ⟨gb880, 0, none⟩ = some (.slice A0_0 l0_0.length c0_0) := (blk_cell BK880.out 0).trans rfl
        have hcz7_1 : w3.cell? ⟨gb880, 1, none⟩ = some (.slice A0_1 l0_1.length c0_1) := (blk_cell BK880.out 1).trans rfl
        have hcz7_2 : w3.cell? ⟨gb880, 2, none⟩ = some (.slice A0_2 l0_2.length c0_2) := (blk_cell BK880.out 2).trans rfl
        have hfz7_0 := blk_frozen BK880.out 0
        have hfz7_1 := blk_frozen BK880.out 1
        have hfz7_2 := blk_frozen BK880.out 2
        go_wp2_with (first | ((with_reducible refine gate_callee (f := 76) rfl ?_); refine goesL_ (some 7) rfl rfl Try.func76 (by kernel_rfl) rfl #[.agg #[.slice A0_0 l0_0.length c0_0]] rfl (by (try simp only [List.map_toArray, List.map_cons, List.map_nil]); first | done | rfl | (simp only [List.length_drop, List.length_take]; rfl)) ?_; (with_reducible refine (impl_IsMemory.calls k _ _ l0_0 true _ ?side1 ?side2 A4.out).mono ?_); (case side1 => repeat (first | exact (Kd.C_below HR0_0.out HB.out) | (with_reducible refine Kd.C_alloc ?_ _) | (with_reducible refine Kd.C_drewN ?_ _) | (with_reducible refine Kd.C_drew ?_))); (case side2 => exact HC0_0.out); rintro e w8 ⟨rfl, hb⟩; refine ⟨_, rfl, ?_⟩; have n0_ := Aside0.mk (blk_below (g := gb880) (o := .cells #[.slice A0_0 l0_0.length c0_0, .slice A0_1 l0_1.length c0_1, .slice A0_2 l0_2.length c0_2] 88 (0, 0)) (by (with_reducible repeat (first | refine blk_drewN ?_ _ | refine blk_drew ?_ | refine blk_alloc ?_ _)); exact BK880.out) hb); have n1_ := Aside0.mk (below_step (by repeat (first | (with_reducible first | exact HB.out | apply below_alloc | apply pw_below_drewN | apply below_drew1 | refine below_set ?_ GE880.out) | exact HB.out)) hb); clear BK880; clear HB; have BK880 := n0_; have HB := n1_; clear n0_ n1_; (try clear hb); (try clear hb2); (try clear hk); (try clear hi); have hcz9_0 : w8.cell? ⟨gb880, 0, none⟩ = some (.slice A0_0 l0_0.length c0_0) := (blk_cell BK880.out 0).trans rfl; have hcz9_1 : w8.cell? ⟨gb880, 1, none⟩ = some (.slice A0_1 l0_1.length c0_1) := (blk_cell BK880.out 1).trans rfl; have hcz9_2 : w8.cell? ⟨gb880, 2, none⟩ = some (.slice A0_2 l0_2.length c0_2) := (blk_cell BK880.out 2).trans rfl; have hfz9_0 := blk_frozen BK880.out 0; have hfz9_1 := blk_frozen BK880.out 1; have hfz9_2 := blk_frozen BK880.out 2))
        go_meet
        case rel => exact ⟨_, (((l0_2.length : Int) != 4)), (by first | rfl | (simp; done) | (simp [*]; done)), H', ⟨by first | omega | exact Nat.le_refl _⟩, ⟨by (with_reducible repeat (first | refine blk_drewN ?_ _ | refine blk_drew ?_ | refine blk_alloc ?_ _)); exact BK880.out⟩, ⟨by repeat (first | (with_reducible first | exact HB.out | apply below_alloc | apply pw_below_drewN | apply below_drew1 | refine below_set ?_ GE880.out) | exact HB.out)⟩⟩
      · rw [if_neg c6] at H
        have c6b0 : ((l0_1.length : Int) == 4) = false := beq_eq_false_iff_ne.mpr c6
        have c6b1 : ((l0_1.length : Int) != 4) = true := bne_iff_ne.mpr c6
        (first | rw [c6b0] | (simp only [i64_w, i32_w]; rw [c6b0]) | skip)
        have H' := Aside0.mk H
        clear H
        have hcz10_0 : w3.cell? ⟨gb880, 0, none⟩ = some (.slice A0_0 l0_0.length c0_0) := (blk_cell BK880.out 0).trans rfl
        have hcz10_1 : w3.cell? ⟨gb880, 1, none⟩ = some (.slice A0_1 l0_1.length c0_1) := (blk_cell BK880.out 1).trans rfl
        have hcz10_2 : w3.cell? ⟨gb880, 2, none⟩ = some (.slice A0_2 l0_2.length c0_2) := (blk_cell BK880.out 2).trans rfl
        have hfz10_0 := blk_frozen BK880.out 0
        have hfz10_1 := blk_frozen BK880.out 1
        have hfz10_2 := blk_frozen BK880.out 2
        go_wp2_with (first | ((with_reducible refine gate_callee (f := 76) rfl ?_); refine goesL_ (some 7) rfl rfl Try.func76 (by kernel_rfl) rfl #[.agg #[.slice A0_0 l0_0.length c0_0]] rfl (by (try simp only [List.map_toArray, List.map_cons, List.map_nil]); first | done | rfl | (simp only [List.length_drop, List.length_take]; rfl)) ?_; (with_reducible refine (impl_IsMemory.calls k _ _ l0_0 true _ ?side1 ?side2 A4.out).mono ?_); (case side1 => repeat (first | exact (Kd.C_below HR0_0.out HB.out) | (with_reducible refine Kd.C_alloc ?_ _) | (with_reducible refine Kd.C_drewN ?_ _) | (with_reducible refine Kd.C_drew ?_))); (case side2 => exact HC0_0.out); rintro e w11 ⟨rfl, hb⟩; refine ⟨_, rfl, ?_⟩; have n0_ := Aside0.mk (blk_below (g := gb880) (o := .cells #[.slice A0_0 l0_0.length c0_0, .slice A0_1 l0_1.length c0_1, .slice A0_2 l0_2.length c0_2] 88 (0, 0)) (by (with_reducible repeat (first | refine blk_drewN ?_ _ | refine blk_drew ?_ | refine blk_alloc ?_ _)); exact BK880.out) hb); have n1_ := Aside0.mk (below_step (by repeat (first | (with_reducible first | exact HB.out | apply below_alloc | apply pw_below_drewN | apply below_drew1 | refine below_set ?_ GE880.out) | exact HB.out)) hb); clear BK880; clear HB; have BK880 := n0_; have HB := n1_; clear n0_ n1_; (try clear hb); (try clear hb2); (try clear hk); (try clear hi); have hcz12_0 : w11.cell? ⟨gb880, 0, none⟩ = some (.slice A0_0 l0_0.length c0_0) := (blk_cell BK880.out 0).trans rfl; have hcz12_1 : w11.cell? ⟨gb880, 1, none⟩ = some (.slice A0_1 l0_1.length c0_1) := (blk_cell BK880.out 1).trans rfl; have hcz12_2 : w11.cell? ⟨gb880, 2, none⟩ = some (.slice A0_2 l0_2.length c0_2) := (blk_cell BK880.out 2).trans rfl; have hfz12_0 := blk_frozen BK880.out 0; have hfz12_1 := blk_frozen BK880.out 1; have hfz12_2 := blk_frozen BK880.out 2))
        go_meet
        case rel => exact ⟨_, (true), (by first | rfl | (simp; done) | (simp [*]; done)), H', ⟨by first | omega | exact Nat.le_refl _⟩, ⟨by (with_reducible repeat (first | refine blk_drewN ?_ _ | refine blk_drew ?_ | refine blk_alloc ?_ _)); exact BK880.out⟩, ⟨by repeat (first | (with_reducible first | exact HB.out | apply below_alloc | apply pw_below_drewN | apply below_drew1 | refine below_set ?_ GE880.out) | exact HB.out)⟩⟩
    · replace c5 := Bool.eq_false_iff.mpr c5
      subst c5
      have H1 : (impl_IsMachine.j0 k true l0_0 l0_1 l0_2) = some r := by rw [if_neg (show ¬ (false = true) by decide)] at H; exact H
      clear H
      have H := H1
      clear H1
      have H' := Aside0.mk H
      clear H
      have hcz13_0 : w3.cell? ⟨gb880, 0, none⟩ = some (.slice A0_0 l0_0.length c0_0) := (blk_cell BK880.out 0).trans rfl
      have hcz13_1 : w3.cell? ⟨gb880, 1, none⟩ = some (.slice A0_1 l0_1.length c0_1) := (blk_cell BK880.out 1).trans rfl
      have hcz13_2 : w3.cell? ⟨gb880, 2, none⟩ = some (.slice A0_2 l0_2.length c0_2) := (blk_cell BK880.out 2).trans rfl
      have hfz13_0 := blk_frozen BK880.out 0
      have hfz13_1 := blk_frozen BK880.out 1
      have hfz13_2 := blk_frozen BK880.out 2
      go_wp2_with (first | ((with_reducible refine gate_callee (f := 76) rfl ?_); refine goesL_ (some 7) rfl rfl Try.func76 (by kernel_rfl) rfl #[.agg #[.slice A0_0 l0_0.length c0_0]] rfl (by (try simp only [List.map_toArray, List.map_cons, List.map_nil]); first | done | rfl | (simp only [List.length_drop, List.length_take]; rfl)) ?_; (with_reducible refine (impl_IsMemory.calls k _ _ l0_0 false _ ?side1 ?side2 A4.out).mono ?_); (case side1 => repeat (first | exact (Kd.C_below HR0_0.out HB.out) | (with_reducible refine Kd.C_alloc ?_ _) | (with_reducible refine Kd.C_drewN ?_ _) | (with_reducible refine Kd.C_drew ?_))); (case side2 => exact HC0_0.out); rintro e w14 ⟨rfl, hb⟩; refine ⟨_, rfl, ?_⟩; have n0_ := Aside0.mk (blk_below (g := gb880) (o := .cells #[.slice A0_0 l0_0.length c0_0, .slice A0_1 l0_1.length c0_1, .slice A0_2 l0_2.length c0_2] 88 (0, 0)) (by (with_reducible repeat (first | refine blk_drewN ?_ _ | refine blk_drew ?_ | refine blk_alloc ?_ _)); exact BK880.out) hb); have n1_ := Aside0.mk (below_step (by repeat (first | (with_reducible first | exact HB.out | apply below_alloc | apply pw_below_drewN | apply below_drew1 | refine below_set ?_ GE880.out) | exact HB.out)) hb); clear BK880; clear HB; have BK880 := n0_; have HB := n1_; clear n0_ n1_; (try clear hb); (try clear hb2); (try clear hk); (try clear hi)))
      go_meet
      case rel => exact ⟨_, (true), (by first | rfl | (simp; done) | (simp [*]; done)), H', ⟨by first | omega | exact Nat.le_refl _⟩, ⟨by (with_reducible repeat (first | refine blk_drewN ?_ _ | refine blk_drew ?_ | refine blk_alloc ?_ _)); exact BK880.out⟩, ⟨by repeat (first | (with_reducible first | exact HB.out | apply below_alloc | apply pw_below_drewN | apply below_drew1 | refine below_set ?_ GE880.out) | exact HB.out)⟩⟩
  case rest =>
    clear HC2
    try clear p2
    try clear c5
    try clear c6
    try clear c6b0
    try clear c6b1
    try clear c7
    try clear hcz10_0
    try clear hcz10_1
    try clear hcz10_2
    try clear hcz12_0
    try clear hcz12_1
    try clear hcz12_2
    try clear hcz13_0
    try clear hcz13_1
    try clear hcz13_2
    try clear hcz7_0
    try clear hcz7_1
    try clear hcz7_2
    try clear hcz9_0
    try clear hcz9_1
    try clear hcz9_2
    try clear hfz10_0
    try clear hfz10_1
    try clear hfz10_2
    try clear hfz12_0
    try clear hfz12_1
    try clear hfz12_2
    try clear hfz13_0
    try clear hfz13_1
    try clear hfz13_2
    try clear hfz7_0
    try clear hfz7_1
    try clear hfz7_2
    try clear hfz9_0
    try clear hfz9_1
    try clear hfz9_2
    obtain ⟨kq, x20_1, rfl, HA, HJ1, BK880, HB⟩ := hcut
    cases kq with
    | zero => exact absurd HA.out (by simp [impl_IsMachine.j0])
    | succ kj1 =>
      have H := HA.out
      clear HA
      simp only [impl_IsMachine.j0] at H
      by_cases c15 : x20_1 = true
      · subst c15
        have H1 : (some false) = some r := by rw [if_pos rfl] at H; exact H
        clear H
        have H := H1
        clear H1
        obtain rfl := Option.some.inj H
        go_wp2
        go_ret
        exact ⟨by first | rfl | (simp [errW_none, errW_some] <;> rfl) | (simp [*, errW_none, errW_some] <;> rfl), by repeat (first | (with_reducible first | exact HB.out | apply below_alloc | apply pw_below_drewN | apply below_drew1 | refine below_set ?_ GE880.out) | exact HB.out)⟩
      · replace c15 := Bool.eq_false_iff.mpr c15
        subst c15
        have H1 : (impl_IsMachine.l0 kj1 l0_1 (l0_1.length : Int) 0 l0_0 l0_1 l0_2) = some r := by rw [if_neg (show ¬ (false = true) by decide)] at H; exact H
        clear H
        have H := H1
        clear H1
        have H' := Aside0.mk H
        clear H
        have hcz16_0 : wc.cell? ⟨gb880, 0, none⟩ = some (.slice A0_0 l0_0.length c0_0) := (blk_cell BK880.out 0).trans rfl
        have hcz16_1 : wc.cell? ⟨gb880, 1, none⟩ = some (.slice A0_1 l0_1.length c0_1) := (blk_cell BK880.out 1).trans rfl
        have hcz16_2 : wc.cell? ⟨gb880, 2, none⟩ = some (.slice A0_2 l0_2.length c0_2) := (blk_cell BK880.out 2).trans rfl
        have hfz16_0 := blk_frozen BK880.out 0
        have hfz16_1 := blk_frozen BK880.out 1
        have hfz16_2 := blk_frozen BK880.out 2
        go_wp2
        go_loopg [24] kj1 (fun kq v24 w' => ∃ (x24_2 : Int), v24 = .int .i64 x24_2 ∧ Aside0 (impl_IsMachine.l0 kq l0_1 (l0_1.length : Int) x24_2 l0_0 l0_1 l0_2 = some r) ∧ Aside0 (kq ≤ kj1) ∧ Aside0 (w'.heap[gb880]? = some (.cells #[(.slice A0_0 l0_0.length c0_0), (.slice A0_1 l0_1.length c0_1), (.slice A0_2 l0_2.length c0_2)] 88 (0, 0))) ∧ Aside0 (Below w.heap.size w w'))
        case atStart => exact ⟨(0), (by first | rfl | (simp; done) | (simp [*]; done)), H', ⟨Nat.le_refl _⟩, ⟨by (with_reducible repeat (first | refine blk_drewN ?_ _ | refine blk_drew ?_ | refine blk_alloc ?_ _)); exact BK880.out⟩, ⟨by repeat (first | (with_reducible first | exact HB.out | apply below_alloc | apply pw_below_drewN | apply below_drew1 | refine below_set ?_ GE880.out) | exact HB.out)⟩⟩
        case round =>
          clear H'
          try clear c1
          try clear p2
          try clear c5
          try clear c6
          try clear c6b0
          try clear c6b1
          try clear c7
          try clear c15
          try clear hcz10_0
          try clear hcz10_1
          try clear hcz10_2
          try clear hcz12_0
          try clear hcz12_1
          try clear hcz12_2
          try clear hcz13_0
          try clear hcz13_1
          try clear hcz13_2
          try clear hcz16_0
          try clear hcz16_1
          try clear hcz16_2
          try clear hcz7_0
          try clear hcz7_1
          try clear hcz7_2
          try clear hcz9_0
          try clear hcz9_1
          try clear hcz9_2
          try clear hfz10_0
          try clear hfz10_1
          try clear hfz10_2
          try clear hfz12_0
          try clear hfz12_1
          try clear hfz12_2
          try clear hfz13_0
          try clear hfz13_1
          try clear hfz13_2
          try clear hfz16_0
          try clear hfz16_1
          try clear hfz16_2
          try clear hfz7_0
          try clear hfz7_1
          try clear hfz7_2
          try clear hfz9_0
          try clear hfz9_1
          try clear hfz9_2
          try clear p2
          obtain ⟨x24_2, rfl, HA, HK2, BK880, HB⟩ := hrel
          cases gk with
          | zero => exact absurd HA.out (by simp [impl_IsMachine.l0])
          | succ k2 =>
            have H := HA.out
            clear HA
            simp only [impl_IsMachine.l0] at H
            by_cases c17 : x24_2 < (l0_1.length : Int)
            · rw [if_pos c17] at H
              have c17b0 : decide (x24_2 < (l0_1.length : Int)) = true := decide_eq_true c17
              clear c17
              by_cases c18 : 0 ≤ x24_2
              · rw [if_pos c18] at H
                have c18b0 : decide (0 ≤ x24_2) = true := decide_eq_true c18
                clear c18
                by_cases c19 : x24_2 < (l0_1.length : Int)
                · rw [if_pos c19] at H
                  have c19b0 : decide (x24_2 < (l0_1.length : Int)) = true := decide_eq_true c19
                  clear c19
                  by_cases c20 : x24_2 < (l0_2.length : Int)
                  · rw [if_pos c20] at H
                    have c20b0 : decide (x24_2 < (l0_2.length : Int)) = true := decide_eq_true c20
                    clear c20
                    obtain ⟨bq21, hbq21⟩ : ∃ b_ : Bool, b_ = (rdOf false l0_2 x24_2) := ⟨_, rfl⟩
                    replace H : (if bq21 = true then ((impl_Memory_hasWindow.f l0_0 ((rd_TimplWindow l0_1 x24_2).f0) ((rd_TimplWindow l0_1 x24_2).f1) ((rd_TimplWindow l0_1 x24_2).f2) ((rd_TimplWindow l0_1 x24_2).f3)).bind fun t885 => (if t885 = true then (impl_IsMachine.l0 k2 l0_1 (l0_1.length : Int) (wrap64 (x24_2 + 1)) l0_0 l0_1 l0_2) else (some false))) else (if (!(((rd_TimplWindow l0_1 x24_2).f0) == 0) || (!(((rd_TimplWindow l0_1 x24_2).f1) == 0) || (!(((rd_TimplWindow l0_1 x24_2).f2) == 0) || (!(((rd_TimplWindow l0_1 x24_2).f3) == 0))))) = true then (some false) else (impl_IsMachine.l0 k2 l0_1 (l0_1.length : Int) (wrap64 (x24_2 + 1)) l0_0 l0_1 l0_2))) = some r := by rw [← hbq21] at H; exact H
                    have Nbq21 := Aside0.mk hbq21
                    clear hbq21
                    by_cases c22 : bq21 = true
                    · subst c22
                      have H1 : ((impl_Memory_hasWindow.f l0_0 ((rd_TimplWindow l0_1 x24_2).f0) ((rd_TimplWindow l0_1 x24_2).f1) ((rd_TimplWindow l0_1 x24_2).f2) ((rd_TimplWindow l0_1 x24_2).f3)).bind fun t885 => (if t885 = true then (impl_IsMachine.l0 k2 l0_1 (l0_1.length : Int) (wrap64 (x24_2 + 1)) l0_0 l0_1 l0_2) else (some false))) = some r := by rw [if_pos rfl] at H; exact H
                      clear H
                      have H := H1
                      clear H1
                      replace H := Option.bind_eq_some_iff.mp H
                      obtain ⟨t885, A230, H⟩ := H
                      replace H : (if t885 = true then (impl_IsMachine.l0 k2 l0_1 (l0_1.length : Int) (wrap64 (x24_2 + 1)) l0_0 l0_1 l0_2) else (some false)) = some r := H
                      have A23 := Aside0.mk A230
                      clear A230
                      by_cases c24 : t885 = true
                      · subst c24
                        have H1 : (impl_IsMachine.l0 k2 l0_1 (l0_1.length : Int) (wrap64 (x24_2 + 1)) l0_0 l0_1 l0_2) = some r := by rw [if_pos rfl] at H; exact H
                        clear H
                        have H := H1
                        clear H1
                        have H' := Aside0.mk H
                        clear H
                        have p882 : 0 ≤ (x24_2 : Int) := of_decide_eq_true (by first | (with_reducible assumption) | assumption)
                        have q882 : x24_2 < (l0_1.length : Int) := of_decide_eq_true (by first | (with_reducible assumption) | assumption)
                        obtain ⟨ad882, e882, hx882_0, hx882_1, hx882_2, hx882_3⟩ := at_TimplWindow HR0_1.out x24_2 p882 q882
                        cases e882
                        replace hx882_0 := (HB.out.cell (World.block_lt_of_cell? w _ hx882_0)).trans hx882_0
                        replace hx882_1 := (HB.out.cell (World.block_lt_of_cell? w _ hx882_1)).trans hx882_1
                        replace hx882_2 := (HB.out.cell (World.block_lt_of_cell? w _ hx882_2)).trans hx882_2
                        replace hx882_3 := (HB.out.cell (World.block_lt_of_cell? w _ hx882_3)).trans hx882_3
                        replace p882 := eq_true p882
                        replace q882 := eq_true q882
                        go_wp2_with (first | ((with_reducible refine gate_dst (N := 4) rfl ?_); (try (refine gate_guard (by rfl) ?_; dsimp only)); refine box_event ?hg (N := 4) ?hd (cs := #[.int .i64 0, .int .i64 0, .int .i64 0, .int .i64 0]) (t := 35) ?hr ?_; (case hd => rfl); (case hg => rfl); (case hr => first | (go_simp; done) | (go_simp; rfl)); intro gb883 hg w25 hbox hb; have n0_ := Aside0.mk (blk_below (g := gb880) (o := .cells #[.slice A0_0 l0_0.length c0_0, .slice (some ad882) l0_1.length c0_1, .slice A0_2 l0_2.length c0_2] 88 (0, 0)) (by (with_reducible repeat (first | refine blk_drewN ?_ _ | refine blk_drew ?_ | refine blk_alloc ?_ _)); exact BK880.out) hb); have n1_ := Aside0.mk (below_step (by repeat (first | (with_reducible first | exact HB.out | apply below_alloc | apply pw_below_drewN | apply below_drew1 | refine below_set ?_ GE880.out) | exact HB.out)) hb); have n2_ := Aside0.mk (hbox); have n3_ := Aside0.mk ((by rw [hg]; exact (below_size (by repeat (first | (with_reducible first | exact HB.out | apply below_alloc | apply pw_below_drewN | apply below_drew1 | refine below_set ?_ GE880.out) | exact HB.out))) : w.heap.size ≤ gb883)); have n4_ := Aside0.mk ((by rw [hg]; exact (below_size (by repeat (first | (with_reducible first | exact HB.out | apply below_alloc | apply pw_below_drewN | apply below_drew1 | refine below_set ?_ GE880.out) | exact HB.out))) : w.heap.size ≤ gb883)); have n5_ := Aside0.mk ((by rw [hg]; exact Nat.ne_of_lt (blk_lt (g := gb880) (o := .cells #[.slice A0_0 l0_0.length c0_0, .slice (some ad882) l0_1.length c0_1, .slice A0_2 l0_2.length c0_2] 88 (0, 0)) (by (with_reducible repeat (first | refine blk_drewN ?_ _ | refine blk_drew ?_ | refine blk_alloc ?_ _)); exact BK880.out)) : gb880 ≠ gb883)); have n6_ := Aside0.mk ((by rw [hg]; exact Nat.ne_of_gt (blk_lt (g := gb880) (o := .cells #[.slice A0_0 l0_0.length c0_0, .slice (some ad882) l0_1.length c0_1, .slice A0_2 l0_2.length c0_2] 88 (0, 0)) (by (with_reducible repeat (first | refine blk_drewN ?_ _ | refine blk_drew ?_ | refine blk_alloc ?_ _)); exact BK880.out)) : gb883 ≠ gb880)); clear BK880; clear HB; have BK880 := n0_; have HB := n1_; have BK883 := n2_; have GW883 := n3_; have GE883 := n4_; have NB880_883 := n5_; have NB883_880 := n6_; clear n0_ n1_ n2_ n3_ n4_ n5_ n6_; clear hb hbox hg; have hnb26 := NB883_880.out; have hnc26 := NB880_883.out; have hcz27_0 : w25.cell? ⟨gb883, 0, none⟩ = some (.int .i64 0) := (blk_cell BK883.out 0).trans rfl; have hcz27_1 : w25.cell? ⟨gb883, 1, none⟩ = some (.int .i64 0) := (blk_cell BK883.out 1).trans rfl; have hcz27_2 : w25.cell? ⟨gb883, 2, none⟩ = some (.int .i64 0) := (blk_cell BK883.out 2).trans rfl; have hcz27_3 : w25.cell? ⟨gb883, 3, none⟩ = some (.int .i64 0) := (blk_cell BK883.out 3).trans rfl; have hfz27_0 := blk_frozen BK883.out 0; have hfz27_1 := blk_frozen BK883.out 1; have hfz27_2 := blk_frozen BK883.out 2; have hfz27_3 := blk_frozen BK883.out 3; have hcz28_0 : w25.cell? ⟨gb880, 0, none⟩ = some (.slice A0_0 l0_0.length c0_0) := (blk_cell BK880.out 0).trans rfl; have hcz28_1 : w25.cell? ⟨gb880, 1, none⟩ = some (.slice (some ad882) l0_1.length c0_1) := (blk_cell BK880.out 1).trans rfl; have hcz28_2 : w25.cell? ⟨gb880, 2, none⟩ = some (.slice A0_2 l0_2.length c0_2) := (blk_cell BK880.out 2).trans rfl; have hfz28_0 := blk_frozen BK880.out 0; have hfz28_1 := blk_frozen BK880.out 1; have hfz28_2 := blk_frozen BK880.out 2; have p884 : 0 ≤ (x24_2 : Int) := of_decide_eq_true (by first | (with_reducible assumption) | assumption); have q884 : x24_2 < (l0_2.length : Int) := of_decide_eq_true (by first | (with_reducible assumption) | assumption); obtain ⟨ad884, e884, hx884_0⟩ := Kd.at_bool HR0_2.out x24_2 p884 q884; (try rw [← Nbq21.out] at hx884_0); cases e884; have hn884_0 : ad884.block ≠ gb883 := Nat.ne_of_lt (Nat.lt_of_lt_of_le (by have := World.block_lt_of_cell? _ _ hx884_0; first | rwa [add_block] at this | exact this) GW883.out); have hn884_1 : ad884.block ≠ gb883 := Nat.ne_of_lt (Nat.lt_of_lt_of_le (by have := World.block_lt_of_cell? _ _ hx884_0; first | rwa [add_block] at this | exact this) GW883.out); have hn884_2 : ad884.block ≠ gb883 := Nat.ne_of_lt (Nat.lt_of_lt_of_le (by have := World.block_lt_of_cell? _ _ hx884_0; first | rwa [add_block] at this | exact this) GW883.out); have hn884_3 : ad884.block ≠ gb883 := Nat.ne_of_lt (Nat.lt_of_lt_of_le (by have := World.block_lt_of_cell? _ _ hx884_0; first | rwa [add_block] at this | exact this) GW883.out); replace hx884_0 := (HB.out.cell (World.block_lt_of_cell? w _ hx884_0)).trans hx884_0; replace hx884_0 := (cell_far (p := ⟨gb883, 0, none⟩) (by first | (rw [add_block]; exact hn884_0) | (show (Addr.add _ _).block ≠ _; rw [add_block]; exact hn884_0) | exact hn884_0) (.int .i64 ((rd_TimplWindow l0_1 x24_2).f0))).trans hx884_0; replace hx884_0 := (cell_far (p := ⟨gb883, 1, none⟩) (by first | (rw [add_block]; exact hn884_1) | (show (Addr.add _ _).block ≠ _; rw [add_block]; exact hn884_1) | exact hn884_1) (.int .i64 ((rd_TimplWindow l0_1 x24_2).f1))).trans hx884_0; replace hx884_0 := (cell_far (p := ⟨gb883, 2, none⟩) (by first | (rw [add_block]; exact hn884_2) | (show (Addr.add _ _).block ≠ _; rw [add_block]; exact hn884_2) | exact hn884_2) (.int .i64 ((rd_TimplWindow l0_1 x24_2).f2))).trans hx884_0; replace hx884_0 := (cell_far (p := ⟨gb883, 3, none⟩) (by first | (rw [add_block]; exact hn884_3) | (show (Addr.add _ _).block ≠ _; rw [add_block]; exact hn884_3) | exact hn884_3) (.int .i64 ((rd_TimplWindow l0_1 x24_2).f3))).trans hx884_0; clear hn884_0; clear hn884_1; clear hn884_2; clear hn884_3; replace p884 := eq_true p884; replace q884 := eq_true q884) | (go_at_call 110; (with_reducible refine (impl_Memory_hasWindow.calls _ _ l0_0 ((rd_TimplWindow l0_1 x24_2).f0) ((rd_TimplWindow l0_1 x24_2).f1) ((rd_TimplWindow l0_1 x24_2).f2) ((rd_TimplWindow l0_1 x24_2).f3) true _ ?side1 ?side2 A23.out).mono ?_); (case side1 => exact Kd.C_below HR0_0.out (by repeat (first | (with_reducible first | exact HB.out | apply below_alloc | apply pw_below_drewN | apply below_drew1 | refine below_set ?_ GE880.out | refine below_set ?_ GE883.out) | exact HB.out))); (case side2 => exact HC0_0.out); rintro e w29 ⟨rfl, hb⟩; have n0_ := Aside0.mk (blk_below (g := gb880) (o := .cells #[.slice A0_0 l0_0.length c0_0, .slice (some ad882) l0_1.length c0_1, .slice (some ad884) l0_2.length c0_2] 88 (0, 0)) (by (with_reducible repeat (first | refine blk_drewN ?_ _ | refine blk_drew ?_ | refine blk_alloc ?_ _)); refine blk_far ?_ NB880_883.out _; (with_reducible repeat (first | refine blk_drewN ?_ _ | refine blk_drew ?_ | refine blk_alloc ?_ _)); refine blk_far ?_ NB880_883.out _; (with_reducible repeat (first | refine blk_drewN ?_ _ | refine blk_drew ?_ | refine blk_alloc ?_ _)); refine blk_far ?_ NB880_883.out _; (with_reducible repeat (first | refine blk_drewN ?_ _ | refine blk_drew ?_ | refine blk_alloc ?_ _)); refine blk_far ?_ NB880_883.out _; (with_reducible repeat (first | refine blk_drewN ?_ _ | refine blk_drew ?_ | refine blk_alloc ?_ _)); exact BK880.out) hb); have n1_ := Aside0.mk (blk_below (g := gb883) (o := .cells #[.int .i64 ((rd_TimplWindow l0_1 x24_2).f0), .int .i64 ((rd_TimplWindow l0_1 x24_2).f1), .int .i64 ((rd_TimplWindow l0_1 x24_2).f2), .int .i64 ((rd_TimplWindow l0_1 x24_2).f3)] 35 (0, 0)) (by (with_reducible repeat (first | refine blk_drewN ?_ _ | refine blk_drew ?_ | refine blk_alloc ?_ _)); refine blk_put (cs := #[.int .i64 ((rd_TimplWindow l0_1 x24_2).f0), .int .i64 ((rd_TimplWindow l0_1 x24_2).f1), .int .i64 ((rd_TimplWindow l0_1 x24_2).f2), .int .i64 0]) ?_ 3 _ rfl; (with_reducible repeat (first | refine blk_drewN ?_ _ | refine blk_drew ?_ | refine blk_alloc ?_ _)); refine blk_put (cs := #[.int .i64 ((rd_TimplWindow l0_1 x24_2).f0), .int .i64 ((rd_TimplWindow l0_1 x24_2).f1), .int .i64 0, .int .i64 0]) ?_ 2 _ rfl; (with_reducible repeat (first | refine blk_drewN ?_ _ | refine blk_drew ?_ | refine blk_alloc ?_ _)); refine blk_put (cs := #[.int .i64 ((rd_TimplWindow l0_1 x24_2).f0), .int .i64 0, .int .i64 0, .int .i64 0]) ?_ 1 _ rfl; (with_reducible repeat (first | refine blk_drewN ?_ _ | refine blk_drew ?_ | refine blk_alloc ?_ _)); refine blk_put (cs := #[.int .i64 0, .int .i64 0, .int .i64 0, .int .i64 0]) ?_ 0 _ rfl; (with_reducible repeat (first | refine blk_drewN ?_ _ | refine blk_drew ?_ | refine blk_alloc ?_ _)); exact BK883.out) hb); have n2_ := Aside0.mk (below_step (by repeat (first | (with_reducible first | exact HB.out | apply below_alloc | apply pw_below_drewN | apply below_drew1 | refine below_set ?_ GE880.out | refine below_set ?_ GE883.out) | exact HB.out)) hb); clear BK880; clear BK883; clear HB; have BK880 := n0_; have BK883 := n1_; have HB := n2_; clear n0_ n1_ n2_; (try clear hb); (try clear hb2); (try clear hk); (try clear hi); have hcz30_0 : w29.cell? ⟨gb880, 0, none⟩ = some (.slice A0_0 l0_0.length c0_0) := (blk_cell BK880.out 0).trans rfl; have hcz30_1 : w29.cell? ⟨gb880, 1, none⟩ = some (.slice (some ad882) l0_1.length c0_1) := (blk_cell BK880.out 1).trans rfl; have hcz30_2 : w29.cell? ⟨gb880, 2, none⟩ = some (.slice (some ad884) l0_2.length c0_2) := (blk_cell BK880.out 2).trans rfl; have hfz30_0 := blk_frozen BK880.out 0; have hfz30_1 := blk_frozen BK880.out 1; have hfz30_2 := blk_frozen BK880.out 2; have p886 : 0 ≤ (x24_2 : Int) := of_decide_eq_true (by first | (with_reducible assumption) | assumption); have q886 : x24_2 < (l0_2.length : Int) := of_decide_eq_true (by first | (with_reducible assumption) | assumption); obtain ⟨ad886, e886, hx886_0⟩ := Kd.at_bool HR0_2.out x24_2 p886 q886; (try rw [← Nbq21.out] at hx886_0); obtain rfl : ad884 = ad886 := (by injection e886); replace hx886_0 := (HB.out.cell (World.block_lt_of_cell? w _ hx886_0)).trans hx886_0; replace p886 := eq_true p886; replace q886 := eq_true q886))
                        go_roundg k2
                        case measure => have := HJ1.out; have := HK2.out; omega
                        case rel => exact ⟨(wrap64 (x24_2 + 1)), (by first | rfl | (simp; done) | (simp [*]; done)), H', ⟨by have := HJ1.out; have := HK2.out; omega⟩, ⟨by (with_reducible repeat (first | refine blk_drewN ?_ _ | refine blk_drew ?_ | refine blk_alloc ?_ _)); exact BK880.out⟩, ⟨by repeat (first | (with_reducible first | exact HB.out | apply below_alloc | apply pw_below_drewN | apply below_drew1 | refine below_set ?_ GE880.out | refine below_set ?_ GE883.out) | exact HB.out)⟩⟩
                      · replace c24 := Bool.eq_false_iff.mpr c24
                        subst c24
                        have H1 : (some false) = some r := by rw [if_neg (show ¬ (false = true) by decide)] at H; exact H
                        clear H
                        have H := H1
                        clear H1
                        obtain rfl := Option.some.inj H
                        have p882 : 0 ≤ (x24_2 : Int) := of_decide_eq_true (by first | (with_reducible assumption) | assumption)
                        have q882 : x24_2 < (l0_1.length : Int) := of_decide_eq_true (by first | (with_reducible assumption) | assumption)
                        obtain ⟨ad882, e882, hx882_0, hx882_1, hx882_2, hx882_3⟩ := at_TimplWindow HR0_1.out x24_2 p882 q882
                        cases e882
                        replace hx882_0 := (HB.out.cell (World.block_lt_of_cell? w _ hx882_0)).trans hx882_0
                        replace hx882_1 := (HB.out.cell (World.block_lt_of_cell? w _ hx882_1)).trans hx882_1
                        replace hx882_2 := (HB.out.cell (World.block_lt_of_cell? w _ hx882_2)).trans hx882_2
                        replace hx882_3 := (HB.out.cell (World.block_lt_of_cell? w _ hx882_3)).trans hx882_3
                        replace p882 := eq_true p882
                        replace q882 := eq_true q882
                        go_wp2_with (first | ((with_reducible refine gate_dst (N := 4) rfl ?_); (try (refine gate_guard (by rfl) ?_; dsimp only)); refine box_event ?hg (N := 4) ?hd (cs := #[.int .i64 0, .int .i64 0, .int .i64 0, .int .i64 0]) (t := 35) ?hr ?_; (case hd => rfl); (case hg => rfl); (case hr => first | (go_simp; done) | (go_simp; rfl)); intro gb883 hg w31 hbox hb; have n0_ := Aside0.mk (blk_below (g := gb880) (o := .cells #[.slice A0_0 l0_0.length c0_0, .slice (some ad882) l0_1.length c0_1, .slice A0_2 l0_2.length c0_2] 88 (0, 0)) (by (with_reducible repeat (first | refine blk_drewN ?_ _ | refine blk_drew ?_ | refine blk_alloc ?_ _)); exact BK880.out) hb); have n1_ := Aside0.mk (below_step (by repeat (first | (with_reducible first | exact HB.out | apply below_alloc | apply pw_below_drewN | apply below_drew1 | refine below_set ?_ GE880.out) | exact HB.out)) hb); have n2_ := Aside0.mk (hbox); have n3_ := Aside0.mk ((by rw [hg]; exact (below_size (by repeat (first | (with_reducible first | exact HB.out | apply below_alloc | apply pw_below_drewN | apply below_drew1 | refine below_set ?_ GE880.out) | exact HB.out))) : w.heap.size ≤ gb883)); have n4_ := Aside0.mk ((by rw [hg]; exact (below_size (by repeat (first | (with_reducible first | exact HB.out | apply below_alloc | apply pw_below_drewN | apply below_drew1 | refine below_set ?_ GE880.out) | exact HB.out))) : w.heap.size ≤ gb883)); have n5_ := Aside0.mk ((by rw [hg]; exact Nat.ne_of_lt (blk_lt (g := gb880) (o := .cells #[.slice A0_0 l0_0.length c0_0, .slice (some ad882) l0_1.length c0_1, .slice A0_2 l0_2.length c0_2] 88 (0, 0)) (by (with_reducible repeat (first | refine blk_drewN ?_ _ | refine blk_drew ?_ | refine blk_alloc ?_ _)); exact BK880.out)) : gb880 ≠ gb883)); have n6_ := Aside0.mk ((by rw [hg]; exact Nat.ne_of_gt (blk_lt (g := gb880) (o := .cells #[.slice A0_0 l0_0.length c0_0, .slice (some ad882) l0_1.length c0_1, .slice A0_2 l0_2.length c0_2] 88 (0, 0)) (by (with_reducible repeat (first | refine blk_drewN ?_ _ | refine blk_drew ?_ | refine blk_alloc ?_ _)); exact BK880.out)) : gb883 ≠ gb880)); clear BK880; clear HB; have BK880 := n0_; have HB := n1_; have BK883 := n2_; have GW883 := n3_; have GE883 := n4_; have NB880_883 := n5_; have NB883_880 := n6_; clear n0_ n1_ n2_ n3_ n4_ n5_ n6_; clear hb hbox hg; have hnb32 := NB883_880.out; have hnc32 := NB880_883.out; have hcz33_0 : w31.cell? ⟨gb883, 0, none⟩ = some (.int .i64 0) := (blk_cell BK883.out 0).trans rfl; have hcz33_1 : w31.cell? ⟨gb883, 1, none⟩ = some (.int .i64 0) := (blk_cell BK883.out 1).trans rfl; have hcz33_2 : w31.cell? ⟨gb883, 2, none⟩ = some (.int .i64 0) := (blk_cell BK883.out 2).trans rfl; have hcz33_3 : w31.cell? ⟨gb883, 3, none⟩ = some (.int .i64 0) := (blk_cell BK883.out 3).trans rfl; have hfz33_0 := blk_frozen BK883.out 0; have hfz33_1 := blk_frozen BK883.out 1; have hfz33_2 := blk_frozen BK883.out 2; have hfz33_3 := blk_frozen BK883.out 3; have hcz34_0 : w31.cell? ⟨gb880, 0, none⟩ = some (.slice A0_0 l0_0.length c0_0) := (blk_cell BK880.out 0).trans rfl; have hcz34_1 : w31.cell? ⟨gb880, 1, none⟩ = some (.slice (some ad882) l0_1.length c0_1) := (blk_cell BK880.out 1).trans rfl; have hcz34_2 : w31.cell? ⟨gb880, 2, none⟩ = some (.slice A0_2 l0_2.length c0_2) := (blk_cell BK880.out 2).trans rfl; have hfz34_0 := blk_frozen BK880.out 0; have hfz34_1 := blk_frozen BK880.out 1; have hfz34_2 := blk_frozen BK880.out 2; have p884 : 0 ≤ (x24_2 : Int) := of_decide_eq_true (by first | (with_reducible assumption) | assumption); have q884 : x24_2 < (l0_2.length : Int) := of_decide_eq_true (by first | (with_reducible assumption) | assumption); obtain ⟨ad884, e884, hx884_0⟩ := Kd.at_bool HR0_2.out x24_2 p884 q884; (try rw [← Nbq21.out] at hx884_0); cases e884; have hn884_0 : ad884.block ≠ gb883 := Nat.ne_of_lt (Nat.lt_of_lt_of_le (by have := World.block_lt_of_cell? _ _ hx884_0; first | rwa [add_block] at this | exact this) GW883.out); have hn884_1 : ad884.block ≠ gb883 := Nat.ne_of_lt (Nat.lt_of_lt_of_le (by have := World.block_lt_of_cell? _ _ hx884_0; first | rwa [add_block] at this | exact this) GW883.out); have hn884_2 : ad884.block ≠ gb883 := Nat.ne_of_lt (Nat.lt_of_lt_of_le (by have := World.block_lt_of_cell? _ _ hx884_0; first | rwa [add_block] at this | exact this) GW883.out); have hn884_3 : ad884.block ≠ gb883 := Nat.ne_of_lt (Nat.lt_of_lt_of_le (by have := World.block_lt_of_cell? _ _ hx884_0; first | rwa [add_block] at this | exact this) GW883.out); replace hx884_0 := (HB.out.cell (World.block_lt_of_cell? w _ hx884_0)).trans hx884_0; replace hx884_0 := (cell_far (p := ⟨gb883, 0, none⟩) (by first | (rw [add_block]; exact hn884_0) | (show (Addr.add _ _).block ≠ _; rw [add_block]; exact hn884_0) | exact hn884_0) (.int .i64 ((rd_TimplWindow l0_1 x24_2).f0))).trans hx884_0; replace hx884_0 := (cell_far (p := ⟨gb883, 1, none⟩) (by first | (rw [add_block]; exact hn884_1) | (show (Addr.add _ _).block ≠ _; rw [add_block]; exact hn884_1) | exact hn884_1) (.int .i64 ((rd_TimplWindow l0_1 x24_2).f1))).trans hx884_0; replace hx884_0 := (cell_far (p := ⟨gb883, 2, none⟩) (by first | (rw [add_block]; exact hn884_2) | (show (Addr.add _ _).block ≠ _; rw [add_block]; exact hn884_2) | exact hn884_2) (.int .i64 ((rd_TimplWindow l0_1 x24_2).f2))).trans hx884_0; replace hx884_0 := (cell_far (p := ⟨gb883, 3, none⟩) (by first | (rw [add_block]; exact hn884_3) | (show (Addr.add _ _).block ≠ _; rw [add_block]; exact hn884_3) | exact hn884_3) (.int .i64 ((rd_TimplWindow l0_1 x24_2).f3))).trans hx884_0; clear hn884_0; clear hn884_1; clear hn884_2; clear hn884_3; replace p884 := eq_true p884; replace q884 := eq_true q884) | (go_at_call 110; (with_reducible refine (impl_Memory_hasWindow.calls _ _ l0_0 ((rd_TimplWindow l0_1 x24_2).f0) ((rd_TimplWindow l0_1 x24_2).f1) ((rd_TimplWindow l0_1 x24_2).f2) ((rd_TimplWindow l0_1 x24_2).f3) false _ ?side1 ?side2 A23.out).mono ?_); (case side1 => exact Kd.C_below HR0_0.out (by repeat (first | (with_reducible first | exact HB.out | apply below_alloc | apply pw_below_drewN | apply below_drew1 | refine below_set ?_ GE880.out | refine below_set ?_ GE883.out) | exact HB.out))); (case side2 => exact HC0_0.out); rintro e w35 ⟨rfl, hb⟩; have n0_ := Aside0.mk (blk_below (g := gb880) (o := .cells #[.slice A0_0 l0_0.length c0_0, .slice (some ad882) l0_1.length c0_1, .slice (some ad884) l0_2.length c0_2] 88 (0, 0)) (by (with_reducible repeat (first | refine blk_drewN ?_ _ | refine blk_drew ?_ | refine blk_alloc ?_ _)); refine blk_far ?_ NB880_883.out _; (with_reducible repeat (first | refine blk_drewN ?_ _ | refine blk_drew ?_ | refine blk_alloc ?_ _)); refine blk_far ?_ NB880_883.out _; (with_reducible repeat (first | refine blk_drewN ?_ _ | refine blk_drew ?_ | refine blk_alloc ?_ _)); refine blk_far ?_ NB880_883.out _; (with_reducible repeat (first | refine blk_drewN ?_ _ | refine blk_drew ?_ | refine blk_alloc ?_ _)); refine blk_far ?_ NB880_883.out _; (with_reducible repeat (first | refine blk_drewN ?_ _ | refine blk_drew ?_ | refine blk_alloc ?_ _)); exact BK880.out) hb); have n1_ := Aside0.mk (blk_below (g := gb883) (o := .cells #[.int .i64 ((rd_TimplWindow l0_1 x24_2).f0), .int .i64 ((rd_TimplWindow l0_1 x24_2).f1), .int .i64 ((rd_TimplWindow l0_1 x24_2).f2), .int .i64 ((rd_TimplWindow l0_1 x24_2).f3)] 35 (0, 0)) (by (with_reducible repeat (first | refine blk_drewN ?_ _ | refine blk_drew ?_ | refine blk_alloc ?_ _)); refine blk_put (cs := #[.int .i64 ((rd_TimplWindow l0_1 x24_2).f0), .int .i64 ((rd_TimplWindow l0_1 x24_2).f1), .int .i64 ((rd_TimplWindow l0_1 x24_2).f2), .int .i64 0]) ?_ 3 _ rfl; (with_reducible repeat (first | refine blk_drewN ?_ _ | refine blk_drew ?_ | refine blk_alloc ?_ _)); refine blk_put (cs := #[.int .i64 ((rd_TimplWindow l0_1 x24_2).f0), .int .i64 ((rd_TimplWindow l0_1 x24_2).f1), .int .i64 0, .int .i64 0]) ?_ 2 _ rfl; (with_reducible repeat (first | refine blk_drewN ?_ _ | refine blk_drew ?_ | refine blk_alloc ?_ _)); refine blk_put (cs := #[.int .i64 ((rd_TimplWindow l0_1 x24_2).f0), .int .i64 0, .int .i64 0, .int .i64 0]) ?_ 1 _ rfl; (with_reducible repeat (first | refine blk_drewN ?_ _ | refine blk_drew ?_ | refine blk_alloc ?_ _)); refine blk_put (cs := #[.int .i64 0, .int .i64 0, .int .i64 0, .int .i64 0]) ?_ 0 _ rfl; (with_reducible repeat (first | refine blk_drewN ?_ _ | refine blk_drew ?_ | refine blk_alloc ?_ _)); exact BK883.out) hb); have n2_ := Aside0.mk (below_step (by repeat (first | (with_reducible first | exact HB.out | apply below_alloc | apply pw_below_drewN | apply below_drew1 | refine below_set ?_ GE880.out | refine below_set ?_ GE883.out) | exact HB.out)) hb); clear BK880; clear BK883; clear HB; have BK880 := n0_; have BK883 := n1_; have HB := n2_; clear n0_ n1_ n2_; (try clear hb); (try clear hb2); (try clear hk); (try clear hi)))
                        go_ret
                        exact ⟨by first | rfl | (simp [errW_none, errW_some] <;> rfl) | (simp [*, errW_none, errW_some] <;> rfl), by repeat (first | (with_reducible first | exact HB.out | apply below_alloc | apply pw_below_drewN | apply below_drew1 | refine below_set ?_ GE880.out | refine below_set ?_ GE883.out) | exact HB.out)⟩
                    · replace c22 := Bool.eq_false_iff.mpr c22
                      subst c22
                      have H1 : (if (!(((rd_TimplWindow l0_1 x24_2).f0) == 0) || (!(((rd_TimplWindow l0_1 x24_2).f1) == 0) || (!(((rd_TimplWindow l0_1 x24_2).f2) == 0) || (!(((rd_TimplWindow l0_1 x24_2).f3) == 0))))) = true then (some false) else (impl_IsMachine.l0 k2 l0_1 (l0_1.length : Int) (wrap64 (x24_2 + 1)) l0_0 l0_1 l0_2)) = some r := by rw [if_neg (show ¬ (false = true) by decide)] at H; exact H
                      clear H
                      have H := H1
                      clear H1
                      by_cases c36 : (!(((rd_TimplWindow l0_1 x24_2).f0) == 0) || (!(((rd_TimplWindow l0_1 x24_2).f1) == 0) || (!(((rd_TimplWindow l0_1 x24_2).f2) == 0) || (!(((rd_TimplWindow l0_1 x24_2).f3) == 0))))) = true
                      · rw [if_pos c36] at H
                        have c36b0 : (!(((rd_TimplWindow l0_1 x24_2).f0) == 0) || (!(((rd_TimplWindow l0_1 x24_2).f1) == 0) || (!(((rd_TimplWindow l0_1 x24_2).f2) == 0) || (!(((rd_TimplWindow l0_1 x24_2).f3) == 0))))) = true := c36
                        clear c36
                        obtain rfl := Option.some.inj H
                        have p882 : 0 ≤ (x24_2 : Int) := of_decide_eq_true (by first | (with_reducible assumption) | assumption)
                        have q882 : x24_2 < (l0_1.length : Int) := of_decide_eq_true (by first | (with_reducible assumption) | assumption)
                        obtain ⟨ad882, e882, hx882_0, hx882_1, hx882_2, hx882_3⟩ := at_TimplWindow HR0_1.out x24_2 p882 q882
                        cases e882
                        replace hx882_0 := (HB.out.cell (World.block_lt_of_cell? w _ hx882_0)).trans hx882_0
                        replace hx882_1 := (HB.out.cell (World.block_lt_of_cell? w _ hx882_1)).trans hx882_1
                        replace hx882_2 := (HB.out.cell (World.block_lt_of_cell? w _ hx882_2)).trans hx882_2
                        replace hx882_3 := (HB.out.cell (World.block_lt_of_cell? w _ hx882_3)).trans hx882_3
                        replace p882 := eq_true p882
                        replace q882 := eq_true q882
                        go_wp2_with (first | ((with_reducible refine gate_dst (N := 4) rfl ?_); (try (refine gate_guard (by rfl) ?_; dsimp only)); refine box_event ?hg (N := 4) ?hd (cs := #[.int .i64 0, .int .i64 0, .int .i64 0, .int .i64 0]) (t := 35) ?hr ?_; (case hd => rfl); (case hg => rfl); (case hr => first | (go_simp; done) | (go_simp; rfl)); intro gb883 hg w37 hbox hb; have n0_ := Aside0.mk (blk_below (g := gb880) (o := .cells #[.slice A0_0 l0_0.length c0_0, .slice (some ad882) l0_1.length c0_1, .slice A0_2 l0_2.length c0_2] 88 (0, 0)) (by (with_reducible repeat (first | refine blk_drewN ?_ _ | refine blk_drew ?_ | refine blk_alloc ?_ _)); exact BK880.out) hb); have n1_ := Aside0.mk (below_step (by repeat (first | (with_reducible first | exact HB.out | apply below_alloc | apply pw_below_drewN | apply below_drew1 | refine below_set ?_ GE880.out) | exact HB.out)) hb); have n2_ := Aside0.mk (hbox); have n3_ := Aside0.mk ((by rw [hg]; exact (below_size (by repeat (first | (with_reducible first | exact HB.out | apply below_alloc | apply pw_below_drewN | apply below_drew1 | refine below_set ?_ GE880.out) | exact HB.out))) : w.heap.size ≤ gb883)); have n4_ := Aside0.mk ((by rw [hg]; exact (below_size (by repeat (first | (with_reducible first | exact HB.out | apply below_alloc | apply pw_below_drewN | apply below_drew1 | refine below_set ?_ GE880.out) | exact HB.out))) : w.heap.size ≤ gb883)); have n5_ := Aside0.mk ((by rw [hg]; exact Nat.ne_of_lt (blk_lt (g := gb880) (o := .cells #[.slice A0_0 l0_0.length c0_0, .slice (some ad882) l0_1.length c0_1, .slice A0_2 l0_2.length c0_2] 88 (0, 0)) (by (with_reducible repeat (first | refine blk_drewN ?_ _ | refine blk_drew ?_ | refine blk_alloc ?_ _)); exact BK880.out)) : gb880 ≠ gb883)); have n6_ := Aside0.mk ((by rw [hg]; exact Nat.ne_of_gt (blk_lt (g := gb880) (o := .cells #[.slice A0_0 l0_0.length c0_0, .slice (some ad882) l0_1.length c0_1, .slice A0_2 l0_2.length c0_2] 88 (0, 0)) (by (with_reducible repeat (first | refine blk_drewN ?_ _ | refine blk_drew ?_ | refine blk_alloc ?_ _)); exact BK880.out)) : gb883 ≠ gb880)); clear BK880; clear HB; have BK880 := n0_; have HB := n1_; have BK883 := n2_; have GW883 := n3_; have GE883 := n4_; have NB880_883 := n5_; have NB883_880 := n6_; clear n0_ n1_ n2_ n3_ n4_ n5_ n6_; clear hb hbox hg; have hnb38 := NB883_880.out; have hnc38 := NB880_883.out; have hcz39_0 : w37.cell? ⟨gb883, 0, none⟩ = some (.int .i64 0) := (blk_cell BK883.out 0).trans rfl; have hcz39_1 : w37.cell? ⟨gb883, 1, none⟩ = some (.int .i64 0) := (blk_cell BK883.out 1).trans rfl; have hcz39_2 : w37.cell? ⟨gb883, 2, none⟩ = some (.int .i64 0) := (blk_cell BK883.out 2).trans rfl; have hcz39_3 : w37.cell? ⟨gb883, 3, none⟩ = some (.int .i64 0) := (blk_cell BK883.out 3).trans rfl; have hfz39_0 := blk_frozen BK883.out 0; have hfz39_1 := blk_frozen BK883.out 1; have hfz39_2 := blk_frozen BK883.out 2; have hfz39_3 := blk_frozen BK883.out 3; have hcz40_0 : w37.cell? ⟨gb880, 0, none⟩ = some (.slice A0_0 l0_0.length c0_0) := (blk_cell BK880.out 0).trans rfl; have hcz40_1 : w37.cell? ⟨gb880, 1, none⟩ = some (.slice (some ad882) l0_1.length c0_1) := (blk_cell BK880.out 1).trans rfl; have hcz40_2 : w37.cell? ⟨gb880, 2, none⟩ = some (.slice A0_2 l0_2.length c0_2) := (blk_cell BK880.out 2).trans rfl; have hfz40_0 := blk_frozen BK880.out 0; have hfz40_1 := blk_frozen BK880.out 1; have hfz40_2 := blk_frozen BK880.out 2; have p884 : 0 ≤ (x24_2 : Int) := of_decide_eq_true (by first | (with_reducible assumption) | assumption); have q884 : x24_2 < (l0_2.length : Int) := of_decide_eq_true (by first | (with_reducible assumption) | assumption); obtain ⟨ad884, e884, hx884_0⟩ := Kd.at_bool HR0_2.out x24_2 p884 q884; (try rw [← Nbq21.out] at hx884_0); cases e884; have hn884_0 : ad884.block ≠ gb883 := Nat.ne_of_lt (Nat.lt_of_lt_of_le (by have := World.block_lt_of_cell? _ _ hx884_0; first | rwa [add_block] at this | exact this) GW883.out); have hn884_1 : ad884.block ≠ gb883 := Nat.ne_of_lt (Nat.lt_of_lt_of_le (by have := World.block_lt_of_cell? _ _ hx884_0; first | rwa [add_block] at this | exact this) GW883.out); have hn884_2 : ad884.block ≠ gb883 := Nat.ne_of_lt (Nat.lt_of_lt_of_le (by have := World.block_lt_of_cell? _ _ hx884_0; first | rwa [add_block] at this | exact this) GW883.out); have hn884_3 : ad884.block ≠ gb883 := Nat.ne_of_lt (Nat.lt_of_lt_of_le (by have := World.block_lt_of_cell? _ _ hx884_0; first | rwa [add_block] at this | exact this) GW883.out); replace hx884_0 := (HB.out.cell (World.block_lt_of_cell? w _ hx884_0)).trans hx884_0; replace hx884_0 := (cell_far (p := ⟨gb883, 0, none⟩) (by first | (rw [add_block]; exact hn884_0) | (show (Addr.add _ _).block ≠ _; rw [add_block]; exact hn884_0) | exact hn884_0) (.int .i64 ((rd_TimplWindow l0_1 x24_2).f0))).trans hx884_0; replace hx884_0 := (cell_far (p := ⟨gb883, 1, none⟩) (by first | (rw [add_block]; exact hn884_1) | (show (Addr.add _ _).block ≠ _; rw [add_block]; exact hn884_1) | exact hn884_1) (.int .i64 ((rd_TimplWindow l0_1 x24_2).f1))).trans hx884_0; replace hx884_0 := (cell_far (p := ⟨gb883, 2, none⟩) (by first | (rw [add_block]; exact hn884_2) | (show (Addr.add _ _).block ≠ _; rw [add_block]; exact hn884_2) | exact hn884_2) (.int .i64 ((rd_TimplWindow l0_1 x24_2).f2))).trans hx884_0; replace hx884_0 := (cell_far (p := ⟨gb883, 3, none⟩) (by first | (rw [add_block]; exact hn884_3) | (show (Addr.add _ _).block ≠ _; rw [add_block]; exact hn884_3) | exact hn884_3) (.int .i64 ((rd_TimplWindow l0_1 x24_2).f3))).trans hx884_0; clear hn884_0; clear hn884_1; clear hn884_2; clear hn884_3; replace p884 := eq_true p884; replace q884 := eq_true q884; have p887 : 0 ≤ (x24_2 : Int) := of_decide_eq_true (by first | (with_reducible assumption) | assumption); have q887 : x24_2 < (l0_2.length : Int) := of_decide_eq_true (by first | (with_reducible assumption) | assumption); obtain ⟨ad887, e887, hx887_0⟩ := Kd.at_bool HR0_2.out x24_2 p887 q887; (try rw [← Nbq21.out] at hx887_0); obtain rfl : ad884 = ad887 := (by injection e887); have hn887_0 : ad884.block ≠ gb883 := Nat.ne_of_lt (Nat.lt_of_lt_of_le (by have := World.block_lt_of_cell? _ _ hx887_0; first | rwa [add_block] at this | exact this) GW883.out); have hn887_1 : ad884.block ≠ gb883 := Nat.ne_of_lt (Nat.lt_of_lt_of_le (by have := World.block_lt_of_cell? _ _ hx887_0; first | rwa [add_block] at this | exact this) GW883.out); have hn887_2 : ad884.block ≠ gb883 := Nat.ne_of_lt (Nat.lt_of_lt_of_le (by have := World.block_lt_of_cell? _ _ hx887_0; first | rwa [add_block] at this | exact this) GW883.out); have hn887_3 : ad884.block ≠ gb883 := Nat.ne_of_lt (Nat.lt_of_lt_of_le (by have := World.block_lt_of_cell? _ _ hx887_0; first | rwa [add_block] at this | exact this) GW883.out); replace hx887_0 := (HB.out.cell (World.block_lt_of_cell? w _ hx887_0)).trans hx887_0; replace hx887_0 := (cell_far (p := ⟨gb883, 0, none⟩) (by first | (rw [add_block]; exact hn887_0) | (show (Addr.add _ _).block ≠ _; rw [add_block]; exact hn887_0) | exact hn887_0) (.int .i64 ((rd_TimplWindow l0_1 x24_2).f0))).trans hx887_0; replace hx887_0 := (cell_far (p := ⟨gb883, 1, none⟩) (by first | (rw [add_block]; exact hn887_1) | (show (Addr.add _ _).block ≠ _; rw [add_block]; exact hn887_1) | exact hn887_1) (.int .i64 ((rd_TimplWindow l0_1 x24_2).f1))).trans hx887_0; replace hx887_0 := (cell_far (p := ⟨gb883, 2, none⟩) (by first | (rw [add_block]; exact hn887_2) | (show (Addr.add _ _).block ≠ _; rw [add_block]; exact hn887_2) | exact hn887_2) (.int .i64 ((rd_TimplWindow l0_1 x24_2).f2))).trans hx887_0; replace hx887_0 := (cell_far (p := ⟨gb883, 3, none⟩) (by first | (rw [add_block]; exact hn887_3) | (show (Addr.add _ _).block ≠ _; rw [add_block]; exact hn887_3) | exact hn887_3) (.int .i64 ((rd_TimplWindow l0_1 x24_2).f3))).trans hx887_0; clear hn887_0; clear hn887_1; clear hn887_2; clear hn887_3; replace p887 := eq_true p887; replace q887 := eq_true q887))
                        go_ret
                        exact ⟨by first | rfl | (simp [errW_none, errW_some] <;> rfl) | (simp [*, errW_none, errW_some] <;> rfl), by repeat (first | (with_reducible first | exact HB.out | apply below_alloc | apply pw_below_drewN | apply below_drew1 | refine below_set ?_ GE880.out | refine below_set ?_ GE883.out) | exact HB.out)⟩
                      · rw [if_neg c36] at H
                        have c36b0 : (!(((rd_TimplWindow l0_1 x24_2).f0) == 0) || (!(((rd_TimplWindow l0_1 x24_2).f1) == 0) || (!(((rd_TimplWindow l0_1 x24_2).f2) == 0) || (!(((rd_TimplWindow l0_1 x24_2).f3) == 0))))) = false := by simpa using c36
                        clear c36
                        have H' := Aside0.mk H
                        clear H
                        have p882 : 0 ≤ (x24_2 : Int) := of_decide_eq_true (by first | (with_reducible assumption) | assumption)
                        have q882 : x24_2 < (l0_1.length : Int) := of_decide_eq_true (by first | (with_reducible assumption) | assumption)
                        obtain ⟨ad882, e882, hx882_0, hx882_1, hx882_2, hx882_3⟩ := at_TimplWindow HR0_1.out x24_2 p882 q882
                        cases e882
                        replace hx882_0 := (HB.out.cell (World.block_lt_of_cell? w _ hx882_0)).trans hx882_0
                        replace hx882_1 := (HB.out.cell (World.block_lt_of_cell? w _ hx882_1)).trans hx882_1
                        replace hx882_2 := (HB.out.cell (World.block_lt_of_cell? w _ hx882_2)).trans hx882_2
                        replace hx882_3 := (HB.out.cell (World.block_lt_of_cell? w _ hx882_3)).trans hx882_3
                        replace p882 := eq_true p882
                        replace q882 := eq_true q882
                        go_wp2_with (first | ((with_reducible refine gate_dst (N := 4) rfl ?_); (try (refine gate_guard (by rfl) ?_; dsimp only)); refine box_event ?hg (N := 4) ?hd (cs := #[.int .i64 0, .int .i64 0, .int .i64 0, .int .i64 0]) (t := 35) ?hr ?_; (case hd => rfl); (case hg => rfl); (case hr => first | (go_simp; done) | (go_simp; rfl)); intro gb883 hg w41 hbox hb; have n0_ := Aside0.mk (blk_below (g := gb880) (o := .cells #[.slice A0_0 l0_0.length c0_0, .slice (some ad882) l0_1.length c0_1, .slice A0_2 l0_2.length c0_2] 88 (0, 0)) (by (with_reducible repeat (first | refine blk_drewN ?_ _ | refine blk_drew ?_ | refine blk_alloc ?_ _)); exact BK880.out) hb); have n1_ := Aside0.mk (below_step (by repeat (first | (with_reducible first | exact HB.out | apply below_alloc | apply pw_below_drewN | apply below_drew1 | refine below_set ?_ GE880.out) | exact HB.out)) hb); have n2_ := Aside0.mk (hbox); have n3_ := Aside0.mk ((by rw [hg]; exact (below_size (by repeat (first | (with_reducible first | exact HB.out | apply below_alloc | apply pw_below_drewN | apply below_drew1 | refine below_set ?_ GE880.out) | exact HB.out))) : w.heap.size ≤ gb883)); have n4_ := Aside0.mk ((by rw [hg]; exact (below_size (by repeat (first | (with_reducible first | exact HB.out | apply below_alloc | apply pw_below_drewN | apply below_drew1 | refine below_set ?_ GE880.out) | exact HB.out))) : w.heap.size ≤ gb883)); have n5_ := Aside0.mk ((by rw [hg]; exact Nat.ne_of_lt (blk_lt (g := gb880) (o := .cells #[.slice A0_0 l0_0.length c0_0, .slice (some ad882) l0_1.length c0_1, .slice A0_2 l0_2.length c0_2] 88 (0, 0)) (by (with_reducible repeat (first | refine blk_drewN ?_ _ | refine blk_drew ?_ | refine blk_alloc ?_ _)); exact BK880.out)) : gb880 ≠ gb883)); have n6_ := Aside0.mk ((by rw [hg]; exact Nat.ne_of_gt (blk_lt (g := gb880) (o := .cells #[.slice A0_0 l0_0.length c0_0, .slice (some ad882) l0_1.length c0_1, .slice A0_2 l0_2.length c0_2] 88 (0, 0)) (by (with_reducible repeat (first | refine blk_drewN ?_ _ | refine blk_drew ?_ | refine blk_alloc ?_ _)); exact BK880.out)) : gb883 ≠ gb880)); clear BK880; clear HB; have BK880 := n0_; have HB := n1_; have BK883 := n2_; have GW883 := n3_; have GE883 := n4_; have NB880_883 := n5_; have NB883_880 := n6_; clear n0_ n1_ n2_ n3_ n4_ n5_ n6_; clear hb hbox hg; have hnb42 := NB883_880.out; have hnc42 := NB880_883.out; have hcz43_0 : w41.cell? ⟨gb883, 0, none⟩ = some (.int .i64 0) := (blk_cell BK883.out 0).trans rfl; have hcz43_1 : w41.cell? ⟨gb883, 1, none⟩ = some (.int .i64 0) := (blk_cell BK883.out 1).trans rfl; have hcz43_2 : w41.cell? ⟨gb883, 2, none⟩ = some (.int .i64 0) := (blk_cell BK883.out 2).trans rfl; have hcz43_3 : w41.cell? ⟨gb883, 3, none⟩ = some (.int .i64 0) := (blk_cell BK883.out 3).trans rfl; have hfz43_0 := blk_frozen BK883.out 0; have hfz43_1 := blk_frozen BK883.out 1; have hfz43_2 := blk_frozen BK883.out 2; have hfz43_3 := blk_frozen BK883.out 3; have hcz44_0 : w41.cell? ⟨gb880, 0, none⟩ = some (.slice A0_0 l0_0.length c0_0) := (blk_cell BK880.out 0).trans rfl; have hcz44_1 : w41.cell? ⟨gb880, 1, none⟩ = some (.slice (some ad882) l0_1.length c0_1) := (blk_cell BK880.out 1).trans rfl; have hcz44_2 : w41.cell? ⟨gb880, 2, none⟩ = some (.slice A0_2 l0_2.length c0_2) := (blk_cell BK880.out 2).trans rfl; have hfz44_0 := blk_frozen BK880.out 0; have hfz44_1 := blk_frozen BK880.out 1; have hfz44_2 := blk_frozen BK880.out 2; have p884 : 0 ≤ (x24_2 : Int) := of_decide_eq_true (by first | (with_reducible assumption) | assumption); have q884 : x24_2 < (l0_2.length : Int) := of_decide_eq_true (by first | (with_reducible assumption) | assumption); obtain ⟨ad884, e884, hx884_0⟩ := Kd.at_bool HR0_2.out x24_2 p884 q884; (try rw [← Nbq21.out] at hx884_0); cases e884; have hn884_0 : ad884.block ≠ gb883 := Nat.ne_of_lt (Nat.lt_of_lt_of_le (by have := World.block_lt_of_cell? _ _ hx884_0; first | rwa [add_block] at this | exact this) GW883.out); have hn884_1 : ad884.block ≠ gb883 := Nat.ne_of_lt (Nat.lt_of_lt_of_le (by have := World.block_lt_of_cell? _ _ hx884_0; first | rwa [add_block] at this | exact this) GW883.out); have hn884_2 : ad884.block ≠ gb883 := Nat.ne_of_lt (Nat.lt_of_lt_of_le (by have := World.block_lt_of_cell? _ _ hx884_0; first | rwa [add_block] at this | exact this) GW883.out); have hn884_3 : ad884.block ≠ gb883 := Nat.ne_of_lt (Nat.lt_of_lt_of_le (by have := World.block_lt_of_cell? _ _ hx884_0; first | rwa [add_block] at this | exact this) GW883.out); replace hx884_0 := (HB.out.cell (World.block_lt_of_cell? w _ hx884_0)).trans hx884_0; replace hx884_0 := (cell_far (p := ⟨gb883, 0, none⟩) (by first | (rw [add_block]; exact hn884_0) | (show (Addr.add _ _).block ≠ _; rw [add_block]; exact hn884_0) | exact hn884_0) (.int .i64 ((rd_TimplWindow l0_1 x24_2).f0))).trans hx884_0; replace hx884_0 := (cell_far (p := ⟨gb883, 1, none⟩) (by first | (rw [add_block]; exact hn884_1) | (show (Addr.add _ _).block ≠ _; rw [add_block]; exact hn884_1) | exact hn884_1) (.int .i64 ((rd_TimplWindow l0_1 x24_2).f1))).trans hx884_0; replace hx884_0 := (cell_far (p := ⟨gb883, 2, none⟩) (by first | (rw [add_block]; exact hn884_2) | (show (Addr.add _ _).block ≠ _; rw [add_block]; exact hn884_2) | exact hn884_2) (.int .i64 ((rd_TimplWindow l0_1 x24_2).f2))).trans hx884_0; replace hx884_0 := (cell_far (p := ⟨gb883, 3, none⟩) (by first | (rw [add_block]; exact hn884_3) | (show (Addr.add _ _).block ≠ _; rw [add_block]; exact hn884_3) | exact hn884_3) (.int .i64 ((rd_TimplWindow l0_1 x24_2).f3))).trans hx884_0; clear hn884_0; clear hn884_1; clear hn884_2; clear hn884_3; replace p884 := eq_true p884; replace q884 := eq_true q884; have p887 : 0 ≤ (x24_2 : Int) := of_decide_eq_true (by first | (with_reducible assumption) | assumption); have q887 : x24_2 < (l0_2.length : Int) := of_decide_eq_true (by first | (with_reducible assumption) | assumption); obtain ⟨ad887, e887, hx887_0⟩ := Kd.at_bool HR0_2.out x24_2 p887 q887; (try rw [← Nbq21.out] at hx887_0); obtain rfl : ad884 = ad887 := (by injection e887); have hn887_0 : ad884.block ≠ gb883 := Nat.ne_of_lt (Nat.lt_of_lt_of_le (by have := World.block_lt_of_cell? _ _ hx887_0; first | rwa [add_block] at this | exact this) GW883.out); have hn887_1 : ad884.block ≠ gb883 := Nat.ne_of_lt (Nat.lt_of_lt_of_le (by have := World.block_lt_of_cell? _ _ hx887_0; first | rwa [add_block] at this | exact this) GW883.out); have hn887_2 : ad884.block ≠ gb883 := Nat.ne_of_lt (Nat.lt_of_lt_of_le (by have := World.block_lt_of_cell? _ _ hx887_0; first | rwa [add_block] at this | exact this) GW883.out); have hn887_3 : ad884.block ≠ gb883 := Nat.ne_of_lt (Nat.lt_of_lt_of_le (by have := World.block_lt_of_cell? _ _ hx887_0; first | rwa [add_block] at this | exact this) GW883.out); replace hx887_0 := (HB.out.cell (World.block_lt_of_cell? w _ hx887_0)).trans hx887_0; replace hx887_0 := (cell_far (p := ⟨gb883, 0, none⟩) (by first | (rw [add_block]; exact hn887_0) | (show (Addr.add _ _).block ≠ _; rw [add_block]; exact hn887_0) | exact hn887_0) (.int .i64 ((rd_TimplWindow l0_1 x24_2).f0))).trans hx887_0; replace hx887_0 := (cell_far (p := ⟨gb883, 1, none⟩) (by first | (rw [add_block]; exact hn887_1) | (show (Addr.add _ _).block ≠ _; rw [add_block]; exact hn887_1) | exact hn887_1) (.int .i64 ((rd_TimplWindow l0_1 x24_2).f1))).trans hx887_0; replace hx887_0 := (cell_far (p := ⟨gb883, 2, none⟩) (by first | (rw [add_block]; exact hn887_2) | (show (Addr.add _ _).block ≠ _; rw [add_block]; exact hn887_2) | exact hn887_2) (.int .i64 ((rd_TimplWindow l0_1 x24_2).f2))).trans hx887_0; replace hx887_0 := (cell_far (p := ⟨gb883, 3, none⟩) (by first | (rw [add_block]; exact hn887_3) | (show (Addr.add _ _).block ≠ _; rw [add_block]; exact hn887_3) | exact hn887_3) (.int .i64 ((rd_TimplWindow l0_1 x24_2).f3))).trans hx887_0; clear hn887_0; clear hn887_1; clear hn887_2; clear hn887_3; replace p887 := eq_true p887; replace q887 := eq_true q887))
                        go_roundg k2
                        case measure => have := HJ1.out; have := HK2.out; omega
                        case rel => exact ⟨(wrap64 (x24_2 + 1)), (by first | rfl | (simp; done) | (simp [*]; done)), H', ⟨by have := HJ1.out; have := HK2.out; omega⟩, ⟨by (with_reducible repeat (first | refine blk_drewN ?_ _ | refine blk_drew ?_ | refine blk_alloc ?_ _)); refine blk_far ?_ NB880_883.out _; (with_reducible repeat (first | refine blk_drewN ?_ _ | refine blk_drew ?_ | refine blk_alloc ?_ _)); refine blk_far ?_ NB880_883.out _; (with_reducible repeat (first | refine blk_drewN ?_ _ | refine blk_drew ?_ | refine blk_alloc ?_ _)); refine blk_far ?_ NB880_883.out _; (with_reducible repeat (first | refine blk_drewN ?_ _ | refine blk_drew ?_ | refine blk_alloc ?_ _)); refine blk_far ?_ NB880_883.out _; (with_reducible repeat (first | refine blk_drewN ?_ _ | refine blk_drew ?_ | refine blk_alloc ?_ _)); exact BK880.out⟩, ⟨by repeat (first | (with_reducible first | exact HB.out | apply below_alloc | apply pw_below_drewN | apply below_drew1 | refine below_set ?_ GE880.out | refine below_set ?_ GE883.out) | exact HB.out)⟩⟩
                  · rw [if_neg c20] at H
                    exact absurd H (by simp)
                · rw [if_neg c19] at H
                  exact absurd H (by simp)
              · rw [if_neg c18] at H
                exact absurd H (by simp)
            · rw [if_neg c17] at H
              have c17b0 : decide (x24_2 < (l0_1.length : Int)) = false := decide_eq_false c17
              clear c17
              obtain rfl := Option.some.inj H
              go_wp2
              go_ret
              exact ⟨by first | rfl | (simp [errW_none, errW_some] <;> rfl) | (simp [*, errW_none, errW_some] <;> rfl), by repeat (first | (with_reducible first | exact HB.out | apply below_alloc | apply pw_below_drewN | apply below_drew1 | refine below_set ?_ GE880.out) | exact HB.out)⟩

end Go.Proofs.Ytpnoakpdmojgeaa.P


namespace Go.Proofs.Ytpnoakpdmojgeaa.P
open Go.RowKit Go.Proofs.YtpnoakpdmojgeaaW.PrintWords Go.Proofs.YtpnoakpdmojgeaaW.PrintLast Go.Proofs.YtpnoakpdmojgeaaW.PrintMore
attribute [local go_sem] max2_int min2_int max_two min_two max_three min_three max_four min_four   -- for this text's walks alone
set_option linter.unusedVariables false
set_option linter.unusedSimpArgs false

attribute [local go_sem high] eqAimplWindow
/-! ### spec_l11Machine: function 108 -/
mutual
def spec_l11Machine.j0 : Nat → Bool → List (List Int) → List (SimplWindow) → List Bool → Option (Bool)
  | 0, _, _, _, _ => none
  | k + 1, x19, x854000, x854001, x854002 => if x19 = true then (some false) else (spec_l11Machine.l0 k 0 x854000 x854001 x854002)
def spec_l11Machine.l0 : Nat → Int → List (List Int) → List (SimplWindow) → List Bool → Option (Bool)
  | 0, _, _, _, _ => none
  | k + 1, x3, x854000, x854001, x854002 => if x3 < 4 then (if 0 ≤ x3 then (if x3 < (x854002.length : Int) then (if rdOf false x854002 x3 = true then (if x3 < (x854001.length : Int) then ((spec_l2Window.f k x854000 ((rd_TimplWindow x854001 x3).f0) ((rd_TimplWindow x854001 x3).f1) ((rd_TimplWindow x854001 x3).f2) ((rd_TimplWindow x854001 x3).f3)).bind fun t857 => (if t857 = true then (spec_l11Machine.l0 k (wrap64 (x3 + 1)) x854000 x854001 x854002) else (some false))) else (none)) else (if x3 < (x854001.length : Int) then (if (!(((rd_TimplWindow x854001 x3).f0) == 0) || (!(((rd_TimplWindow x854001 x3).f1) == 0) || (!(((rd_TimplWindow x854001 x3).f2) == 0) || (!(((rd_TimplWindow x854001 x3).f3) == 0))))) = true then (some false) else (spec_l11Machine.l0 k (wrap64 (x3 + 1)) x854000 x854001 x854002)) else (none))) else (none)) else (none)) else (some true)
end
def spec_l11Machine.f (k : Nat) (l0_0 : List (List Int)) (l0_1 : List (SimplWindow)) (l0_2 : List Bool) : Option (Bool) := (spec_l2Memory.f k l0_0).bind fun t854 => (if t854 = true then (if (l0_1.length : Int) = 4 then (spec_l11Machine.j0 k ((l0_2.length : Int) != 4) l0_0 l0_1 l0_2) else (spec_l11Machine.j0 k true l0_0 l0_1 l0_2)) else (spec_l11Machine.j0 k true l0_0 l0_1 l0_2))
def spec_l11Machine.T6 : Bool × List (List Nat × List Nat) := (true, [([], []), ([0], [0]), ([], []), ([1, 2], [1, 2]), ([3], [3]), ([4], [4]), ([5], [5]), ([6, 5], [5, 6]), ([5], [5]), ([8, 5], [5, 8]), ([5], [5]), ([9, 10, 5], [5, 9, 10]), ([11, 5], [5, 11]), ([7, 12, 5, 5], [5, 7, 12]), ([13, 5], [5, 13]), ([5, 14], [5, 14]), ([15, 13], [15]), ([16], [16]), ([17, 16], [16, 17]), ([16], [16]), ([18, 19, 16], [16, 18, 19]), ([20, 16], [16, 20]), ([21, 16], [16, 21]), ([22, 16, 16], [16, 22]), ([23], [23]), ([24, 23], [23, 24]), ([23], [23]), ([25, 26, 23], [23, 25, 26]), ([27, 23], [23, 27]), ([23], [23]), ([28, 29, 23], [23, 28, 29]), ([23, 30, 16], [16, 23, 30]), ([16, 31], [16, 31])])
def spec_l11Machine.B6 : List Nat := [0, 1, 0, 7, 15, 31, 63, 127, 63, 319, 63, 1855, 3903, 8191, 16383, 32767, 65535, 131071, 262143, 131071, 1048575, 2097151, 4194303, 8388607, 16777215, 33554431, 16777215, 134217727, 268435455, 16777215, 1073741823, 2147483647, 4294967295]
theorem spec_l11Machine.tab6 : rtab .any (opsOf Try.f108 6) = spec_l11Machine.T6 := by kernel_rfl
theorem spec_l11Machine.bits6 : waitsOk spec_l11Machine.T6.2 spec_l11Machine.B6 = true := by kernel_rfl
set_option maxHeartbeats 8000000 in
set_option maxRecDepth 100000 in
theorem spec_l11Machine.calls (k : Nat) (A0_0 : Option Addr) (c0_0 : Nat) (l0_0 : List (List Int)) (A0_1 : Option Addr) (c0_1 : Nat) (l0_1 : List (SimplWindow)) (A0_2 : Option Addr) (c0_2 : Nat) (l0_2 : List Bool) (r : Bool) (w : World) (hr0_0 : Kd.C (Kd.slice 5 (Kd.int .u8)) w A0_0 l0_0.length l0_0) (hc0_0 : l0_0.length ≤ c0_0) (hr0_1 : Kd.C kimplWindow w A0_1 l0_1.length l0_1) (hc0_1 : l0_1.length ≤ c0_1) (hr0_2 : Kd.C Kd.bool w A0_2 l0_2.length l0_2) (hc0_2 : l0_2.length ≤ c0_2) (h : spec_l11Machine.f k l0_0 l0_1 l0_2 = some r) :
    Calls Try.prog 108 #[.agg #[.slice A0_0 l0_0.length c0_0, .slice A0_1 l0_1.length c0_1, .slice A0_2 l0_2.length c0_2]] w fun e w' => e = .returned (.bool r) ∧ Below w.heap.size w w' := by
  have hu88 := Try.underlying88
  have hu33 := Try.underlying33
  have hu35 := Try.underlying35
  have HR0_0 := Aside0.mk hr0_0
  have HC0_0 := Aside0.mk hc0_0
  clear hr0_0 hc0_0
  have HR0_1 := Aside0.mk hr0_1
  have HC0_1 := Aside0.mk hc0_1
  clear hr0_1 hc0_1
  have HR0_2 := Aside0.mk hr0_2
  have HC0_2 := Aside0.mk hc0_2
  clear hr0_2 hc0_2
  have HB := Aside0.mk (Below.refl w.heap.size w)
  have H : ((spec_l2Memory.f k l0_0).bind fun t854 => (if t854 = true then (if (l0_1.length : Int) = 4 then (spec_l11Machine.j0 k ((l0_2.length : Int) != 4) l0_0 l0_1 l0_2) else (spec_l11Machine.j0 k true l0_0 l0_1 l0_2)) else (spec_l11Machine.j0 k true l0_0 l0_1 l0_2))) = some r := h
  clear h
  have HC2 := Aside0.mk H
  clear H
  go_enter Try.func108, Try.ntmps108
  go_upto_region 1 with (first | ((with_reducible refine gate_dst (N := 1) rfl ?_); (try (refine gate_guard (by rfl) ?_; dsimp only)); refine box_event ?hg (N := 1) ?hd (cs := #[.slice A0_0 l0_0.length c0_0, .slice A0_1 l0_1.length c0_1, .slice A0_2 l0_2.length c0_2]) (t := 88) ?hr ?_; (case hd => rfl); (case hg => rfl); (case hr => first | (go_simp; done) | (go_simp; rfl)); intro gb853 hg w3 hbox hb; have n0_ := Aside0.mk (below_step (by repeat (first | (with_reducible first | exact HB.out | apply below_alloc | apply pw_below_drewN | apply below_drew1) | exact HB.out)) hb); have n1_ := Aside0.mk (hbox); have n2_ := Aside0.mk ((by rw [hg]; exact (below_size (by repeat (first | (with_reducible first | exact HB.out | apply below_alloc | apply pw_below_drewN | apply below_drew1) | exact HB.out))) : w.heap.size ≤ gb853)); have n3_ := Aside0.mk ((by rw [hg]; exact (below_size (by repeat (first | (with_reducible first | exact HB.out | apply below_alloc | apply pw_below_drewN | apply below_drew1) | exact HB.out))) : w.heap.size ≤ gb853)); clear HB; have HB := n0_; have BK853 := n1_; have GW853 := n2_; have GE853 := n3_; clear n0_ n1_ n2_ n3_; clear hb hbox hg))
  (try simp only [Act.put, List.setIfInBounds_toArray, List.set_cons_zero, List.set_cons_succ])
  go_cut [19] (fun v19 wc => ∃ (kq : Nat) (x19_1 : Bool), v19 = .bool x19_1 ∧ Aside0 (spec_l11Machine.j0 kq x19_1 l0_0 l0_1 l0_2 = some r) ∧ Aside0 (kq ≤ k) ∧ Aside0 (wc.heap[gb853]? = some (.cells #[(.slice A0_0 l0_0.length c0_0), (.slice A0_1 l0_1.length c0_1), (.slice A0_2 l0_2.length c0_2)] 88 (0, 0))) ∧ Aside0 (Below w.heap.size w wc))
  case first =>
    have H := HC2.out
    clear HC2
    replace H := Option.bind_eq_some_iff.mp H
    obtain ⟨t854, A40, H⟩ := H
    replace H : (if t854 = true then (if (l0_1.length : Int) = 4 then (spec_l11Machine.j0 k ((l0_2.length : Int) != 4) l0_0 l0_1 l0_2) else (spec_l11Machine.j0 k true l0_0 l0_1 l0_2)) else (spec_l11Machine.j0 k true l0_0 l0_1 l0_2)) = some r := H
    have A4 := Aside0.mk A40
    clear A40
    by_cases c5 : t854 = true
    · subst c5
      have H1 : (if (l0_1.length : Int) = 4 then (spec_l11Machine.j0 k ((l0_2.length : Int) != 4) l0_0 l0_1 l0_2) else (spec_l11Machine.j0 k true l0_0 l0_1 l0_2)) = some r := by rw [if_pos rfl] at H; exact H
      clear H
      have H := H1
      clear H1
      by_cases c6 : (l0_1.length : Int) = 4
      · rw [if_pos c6] at H
        have c6b0 : ((l0_1.length : Int) == 4) = true := beq_iff_eq.mpr c6
        have c6b1 : ((l0_1.length : Int) != 4) = false := bne_eq_false_iff_eq.mpr c6
        clear c6
        (first | rw [c6b0] | (simp only [i64_w, i32_w]; rw [c6b0]) | skip)
        have H' := Aside0.mk H
        clear H
        have hcz7_0 : w3.cell? ⟨gb853, 0, none⟩ = some (.slice A0_0 l0_0.length c0_0) := (blk_cell BK853.out 0).trans rfl
        have hcz7_1 : w3.cell? ⟨gb853, 1, none⟩ = some (.slice A0_1 l0_1.length c0_1) := (blk_cell BK853.out 1).trans rfl
        have hcz7_2 : w3.cell? ⟨gb853, 2, none⟩ = some (.slice A0_2 l0_2.length c0_2) := (blk_cell BK853.out 2).trans rfl
        have hfz7_0 := blk_frozen BK853.out 0
        have hfz7_1 := blk_frozen BK853.out 1
        have hfz7_2 := blk_frozen BK853.out 2
        go_wp2_with (first | ((with_reducible refine gate_callee (f := 72) rfl ?_); refine goesL_ (some 6) rfl rfl Try.func72 (by kernel_rfl) rfl #[.agg #[.slice A0_0 l0_0.length c0_0]] rfl (by (try simp only [List.map_toArray, List.map_cons, List.map_nil]); first | done | rfl | (simp only [List.length_drop, List.length_take]; rfl)) ?_; (with_reducible refine (spec_l2Memory.calls k _ _ l0_0 true _ ?side1 ?side2 A4.out).mono ?_); (case side1 => repeat (first | exact (Kd.C_below HR0_0.out HB.out) | (with_reducible refine Kd.C_alloc ?_ _) | (with_reducible refine Kd.C_drewN ?_ _) | (with_reducible refine Kd.C_drew ?_))); (case side2 => exact HC0_0.out); rintro e w8 ⟨rfl, hb⟩; refine ⟨_, rfl, ?_⟩; have n0_ := Aside0.mk (blk_below (g := gb853) (o := .cells #[.slice A0_0 l0_0.length c0_0, .slice A0_1 l0_1.length c0_1, .slice A0_2 l0_2.length c0_2] 88 (0, 0)) (by (with_reducible repeat (first | refine blk_drewN ?_ _ | refine blk_drew ?_ | refine blk_alloc ?_ _)); exact BK853.out) hb); have n1_ := Aside0.mk (below_step (by repeat (first | (with_reducible first | exact HB.out | apply below_alloc | apply pw_below_drewN | apply below_drew1 | refine below_set ?_ GE853.out) | exact HB.out)) hb); clear BK853; clear HB; have BK853 := n0_; have HB := n1_; clear n0_ n1_; (try clear hb); (try clear hb2); (try clear hk); (try clear hi); have hcz9_0 : w8.cell? ⟨gb853, 0, none⟩ = some (.slice A0_0 l0_0.length c0_0) := (blk_cell BK853.out 0).trans rfl; have hcz9_1 : w8.cell? ⟨gb853, 1, none⟩ = some (.slice A0_1 l0_1.length c0_1) := (blk_cell BK853.out 1).trans rfl; have hcz9_2 : w8.cell? ⟨gb853, 2, none⟩ = some (.slice A0_2 l0_2.length c0_2) := (blk_cell BK853.out 2).trans rfl; have hfz9_0 := blk_frozen BK853.out 0; have hfz9_1 := blk_frozen BK853.out 1; have hfz9_2 := blk_frozen BK853.out 2))
        go_meet
        case rel => exact ⟨_, (((l0_2.length : Int) != 4)), (by first | rfl | (simp; done) | (simp [*]; done)), H', ⟨by first | omega | exact Nat.le_refl _⟩, ⟨by (with_reducible repeat (first | refine blk_drewN ?_ _ | refine blk_drew ?_ | refine blk_alloc ?_ _)); exact BK853.out⟩, ⟨by repeat (first | (with_reducible first | exact HB.out | apply below_alloc | apply pw_below_drewN | apply below_drew1 | refine below_set ?_ GE853.out) | exact HB.out)⟩⟩
      · rw [if_neg c6] at H
        have c6b0 : ((l0_1.length : Int) == 4) = false := beq_eq_false_iff_ne.mpr c6
        have c6b1 : ((l0_1.length : Int) != 4) = true := bne_iff_ne.mpr c6
        (first | rw [c6b0] | (simp only [i64_w, i32_w]; rw [c6b0]) | skip)
        have H' := Aside0.mk H
        clear H
        have hcz10_0 : w3.cell? ⟨gb853, 0, none⟩ = some (.slice A0_0 l0_0.length c0_0) := (blk_cell BK853.out 0).trans rfl
        have hcz10_1 : w3.cell? ⟨gb853, 1, none⟩ = some (.slice A0_1 l0_1.length c0_1) := (blk_cell BK853.out 1).trans rfl
        have hcz10_2 : w3.cell? ⟨gb853, 2, none⟩ = some (.slice A0_2 l0_2.length c0_2) := (blk_cell BK853.out 2).trans rfl
        have hfz10_0 := blk_frozen BK853.out 0
        have hfz10_1 := blk_frozen BK853.out 1
        have hfz10_2 := blk_frozen BK853.out 2
        go_wp2_with (first | ((with_reducible refine gate_callee (f := 72) rfl ?_); refine goesL_ (some 6) rfl rfl Try.func72 (by kernel_rfl) rfl #[.agg #[.slice A0_0 l0_0.length c0_0]] rfl (by (try simp only [List.map_toArray, List.map_cons, List.map_nil]); first | done | rfl | (simp only [List.length_drop, List.length_take]; rfl)) ?_; (with_reducible refine (spec_l2Memory.calls k _ _ l0_0 true _ ?side1 ?side2 A4.out).mono ?_); (case side1 => repeat (first | exact (Kd.C_below HR0_0.out HB.out) | (with_reducible refine Kd.C_alloc ?_ _) | (with_reducible refine Kd.C_drewN ?_ _) | (with_reducible refine Kd.C_drew ?_))); (case side2 => exact HC0_0.out); rintro e w11 ⟨rfl, hb⟩; refine ⟨_, rfl, ?_⟩; have n0_ := Aside0.mk (blk_below (g := gb853) (o := .cells #[.slice A0_0 l0_0.length c0_0, .slice A0_1 l0_1.length c0_1, .slice A0_2 l0_2.length c0_2] 88 (0, 0)) (by (with_reducible repeat (first | refine blk_drewN ?_ _ | refine blk_drew ?_ | refine blk_alloc ?_ _)); exact BK853.out) hb); have n1_ := Aside0.mk (below_step (by repeat (first | (with_reducible first | exact HB.out | apply below_alloc | apply pw_below_drewN | apply below_drew1 | refine below_set ?_ GE853.out) | exact HB.out)) hb); clear BK853; clear HB; have BK853 := n0_; have HB := n1_; clear n0_ n1_; (try clear hb); (try clear hb2); (try clear hk); (try clear hi); have hcz12_0 : w11.cell? ⟨gb853, 0, none⟩ = some (.slice A0_0 l0_0.length c0_0) := (blk_cell BK853.out 0).trans rfl; have hcz12_1 : w11.cell? ⟨gb853, 1, none⟩ = some (.slice A0_1 l0_1.length c0_1) := (blk_cell BK853.out 1).trans rfl; have hcz12_2 : w11.cell? ⟨gb853, 2, none⟩ = some (.slice A0_2 l0_2.length c0_2) := (blk_cell BK853.out 2).trans rfl; have hfz12_0 := blk_frozen BK853.out 0; have hfz12_1 := blk_frozen BK853.out 1; have hfz12_2 := blk_frozen BK853.out 2))
        go_meet
        case rel => exact ⟨_, (true), (by first | rfl | (simp; done) | (simp [*]; done)), H', ⟨by first | omega | exact Nat.le_refl _⟩, ⟨by (with_reducible repeat (first | refine blk_drewN ?_ _ | refine blk_drew ?_ | refine blk_alloc ?_ _)); exact BK853.out⟩, ⟨by repeat (first | (with_reducible first | exact HB.out | apply below_alloc | apply pw_below_drewN | apply below_drew1 | refine below_set ?_ GE853.out) | exact HB.out)⟩⟩
    · replace c5 := Bool.eq_false_iff.mpr c5
      subst c5
      have H1 : (spec_l11Machine.j0 k true l0_0 l0_1 l0_2) = some r := by rw [if_neg (show ¬ (false = true) by decide)] at H; exact H
      clear H
      have H := H1
      clear H1
      have H' := Aside0.mk H
      clear H
      have hcz13_0 : w3.cell? ⟨gb853, 0, none⟩ = some (.slice A0_0 l0_0.length c0_0) := (blk_cell BK853.out 0).trans rfl
      have hcz13_1 : w3.cell? ⟨gb853, 1, none⟩ = some (.slice A0_1 l0_1.length c0_1) := (blk_cell BK853.out 1).trans rfl
      have hcz13_2 : w3.cell? ⟨gb853, 2, none⟩ = some (.slice A0_2 l0_2.length c0_2) := (blk_cell BK853.out 2).trans rfl
      have hfz13_0 := blk_frozen BK853.out 0
      have hfz13_1 := blk_frozen BK853.out 1
      have hfz13_2 := blk_frozen BK853.out 2
      go_wp2_with (first | ((with_reducible refine gate_callee (f := 72) rfl ?_); refine goesL_ (some 6) rfl rfl Try.func72 (by kernel_rfl) rfl #[.agg #[.slice A0_0 l0_0.length c0_0]] rfl (by (try simp only [List.map_toArray, List.map_cons, List.map_nil]); first | done | rfl | (simp only [List.length_drop, List.length_take]; rfl)) ?_; (with_reducible refine (spec_l2Memory.calls k _ _ l0_0 false _ ?side1 ?side2 A4.out).mono ?_); (case side1 => repeat (first | exact (Kd.C_below HR0_0.out HB.out) | (with_reducible refine Kd.C_alloc ?_ _) | (with_reducible refine Kd.C_drewN ?_ _) | (with_reducible refine Kd.C_drew ?_))); (case side2 => exact HC0_0.out); rintro e w14 ⟨rfl, hb⟩; refine ⟨_, rfl, ?_⟩; have n0_ := Aside0.mk (blk_below (g := gb853) (o := .cells #[.slice A0_0 l0_0.length c0_0, .slice A0_1 l0_1.length c0_1, .slice A0_2 l0_2.length c0_2] 88 (0, 0)) (by (with_reducible repeat (first | refine blk_drewN ?_ _ | refine blk_drew ?_ | refine blk_alloc ?_ _)); exact BK853.out) hb); have n1_ := Aside0.mk (below_step (by repeat (first | (with_reducible first | exact HB.out | apply below_alloc | apply pw_below_drewN | apply below_drew1 | refine below_set ?_ GE853.out) | exact HB.out)) hb); clear BK853; clear HB; have BK853 := n0_; have HB := n1_; clear n0_ n1_; (try clear hb); (try clear hb2); (try clear hk); (try clear hi)))
      go_meet
      case rel => exact ⟨_, (true), (by first | rfl | (simp; done) | (simp [*]; done)), H', ⟨by first | omega | exact Nat.le_refl _⟩, ⟨by (with_reducible repeat (first | refine blk_drewN ?_ _ | refine blk_drew ?_ | refine blk_alloc ?_ _)); exact BK853.out⟩, ⟨by repeat (first | (with_reducible first | exact HB.out | apply below_alloc | apply pw_below_drewN | apply below_drew1 | refine below_set ?_ GE853.out) | exact HB.out)⟩⟩
  case rest =>
    clear HC2
    try clear c1
    try clear p2
    try clear c5
    try clear c6
    try clear c6b0
    try clear c6b1
    try clear c7
    try clear c10
    try clear hcz10_0
    try clear hcz10_1
    try clear hcz10_2
    try clear hcz12_0
    try clear hcz12_1
    try clear hcz12_2
    try clear hcz13_0
    try clear hcz13_1
    try clear hcz13_2
    try clear hcz7_0
    try clear hcz7_1
    try clear hcz7_2
    try clear hcz9_0
    try clear hcz9_1
    try clear hcz9_2
    try clear hfz10_0
    try clear hfz10_1
    try clear hfz10_2
    try clear hfz12_0
    try clear hfz12_1
    try clear hfz12_2
    try clear hfz13_0
    try clear hfz13_1
    try clear hfz13_2
    try clear hfz7_0
    try clear hfz7_1
    try clear hfz7_2
    try clear hfz9_0
    try clear hfz9_1
    try clear hfz9_2
    obtain ⟨kq, x19_1, rfl, HA, HJ1, BK853, HB⟩ := hcut
    cases kq with
    | zero => exact absurd HA.out (by simp [spec_l11Machine.j0])
    | succ kj1 =>
      have H := HA.out
      clear HA
      simp only [spec_l11Machine.j0] at H
      by_cases c15 : x19_1 = true
      · subst c15
        have H1 : (some false) = some r := by rw [if_pos rfl] at H; exact H
        clear H
        have H := H1
        clear H1
        obtain rfl := Option.some.inj H
        go_wp2
        go_ret
        exact ⟨by first | rfl | (simp [errW_none, errW_some] <;> rfl) | (simp [*, errW_none, errW_some] <;> rfl), by repeat (first | (with_reducible first | exact HB.out | apply below_alloc | apply pw_below_drewN | apply below_drew1 | refine below_set ?_ GE853.out) | exact HB.out)⟩
      · replace c15 := Bool.eq_false_iff.mpr c15
        subst c15
        have H1 : (spec_l11Machine.l0 kj1 0 l0_0 l0_1 l0_2) = some r := by rw [if_neg (show ¬ (false = true) by decide)] at H; exact H
        clear H
        have H := H1
        clear H1
        have H' := Aside0.mk H
        clear H
        go_wp2
        go_loopg [3] kj1 (fun kq v3 w' => ∃ (x3_2 : Int), v3 = .int .i64 x3_2 ∧ Aside0 (spec_l11Machine.l0 kq x3_2 l0_0 l0_1 l0_2 = some r) ∧ Aside0 (kq ≤ kj1) ∧ Aside0 (w'.heap[gb853]? = some (.cells #[(.slice A0_0 l0_0.length c0_0), (.slice A0_1 l0_1.length c0_1), (.slice A0_2 l0_2.length c0_2)] 88 (0, 0))) ∧ Aside0 (Below w.heap.size w w'))
        case atStart => exact ⟨(0), (by first | rfl | (simp; done) | (simp [*]; done)), H', ⟨Nat.le_refl _⟩, ⟨by (with_reducible repeat (first | refine blk_drewN ?_ _ | refine blk_drew ?_ | refine blk_alloc ?_ _)); exact BK853.out⟩, ⟨by repeat (first | (with_reducible first | exact HB.out | apply below_alloc | apply pw_below_drewN | apply below_drew1 | refine below_set ?_ GE853.out) | exact HB.out)⟩⟩
        case round =>
          clear H'
          try clear c1
          try clear p2
          try clear c5
          try clear c6
          try clear c6b0
          try clear c6b1
          try clear c7
          try clear c10
          try clear c15
          try clear hcz10_0
          try clear hcz10_1
          try clear hcz10_2
          try clear hcz12_0
          try clear hcz12_1
          try clear hcz12_2
          try clear hcz13_0
          try clear hcz13_1
          try clear hcz13_2
          try clear hcz7_0
          try clear hcz7_1
          try clear hcz7_2
          try clear hcz9_0
          try clear hcz9_1
          try clear hcz9_2
          try clear hfz10_0
          try clear hfz10_1
          try clear hfz10_2
          try clear hfz12_0
          try clear hfz12_1
          try clear hfz12_2
          try clear hfz13_0
          try clear hfz13_1
          try clear hfz13_2
          try clear hfz7_0
          try clear hfz7_1
          try clear hfz7_2
          try clear hfz9_0
          try clear hfz9_1
          try clear hfz9_2
          try clear p2
          obtain ⟨x3_2, rfl, HA, HK2, BK853, HB⟩ := hrel
          cases gk with
          | zero => exact absurd HA.out (by simp [spec_l11Machine.l0])
          | succ k2 =>
            have H := HA.out
            clear HA
            simp only [spec_l11Machine.l0] at H
            by_cases c16 : x3_2 < 4
            · rw [if_pos c16] at H
              have c16b0 : decide (x3_2 < 4) = true := decide_eq_true c16
              clear c16
              by_cases c17 : 0 ≤ x3_2
              · rw [if_pos c17] at H
                have c17b0 : decide (0 ≤ x3_2) = true := decide_eq_true c17
                clear c17
                by_cases c18 : x3_2 < (l0_2.length : Int)
                · rw [if_pos c18] at H
                  have c18b0 : decide (x3_2 < (l0_2.length : Int)) = true := decide_eq_true c18
                  clear c18
                  obtain ⟨bq19, hbq19⟩ : ∃ b_ : Bool, b_ = (rdOf false l0_2 x3_2) := ⟨_, rfl⟩
                  replace H : (if bq19 = true then (if x3_2 < (l0_1.length : Int) then ((spec_l2Window.f k2 l0_0 ((rd_TimplWindow l0_1 x3_2).f0) ((rd_TimplWindow l0_1 x3_2).f1) ((rd_TimplWindow l0_1 x3_2).f2) ((rd_TimplWindow l0_1 x3_2).f3)).bind fun t857 => (if t857 = true then (spec_l11Machine.l0 k2 (wrap64 (x3_2 + 1)) l0_0 l0_1 l0_2) else (some false))) else (none)) else (if x3_2 < (l0_1.length : Int) then (if (!(((rd_TimplWindow l0_1 x3_2).f0) == 0) || (!(((rd_TimplWindow l0_1 x3_2).f1) == 0) || (!(((rd_TimplWindow l0_1 x3_2).f2) == 0) || (!(((rd_TimplWindow l0_1 x3_2).f3) == 0))))) = true then (some false) else (spec_l11Machine.l0 k2 (wrap64 (x3_2 + 1)) l0_0 l0_1 l0_2)) else (none))) = some r := by rw [← hbq19] at H; exact H
                  have Nbq19 := Aside0.mk hbq19
                  clear hbq19
                  by_cases c20 : bq19 = true
                  · subst c20
                    have H1 : (if x3_2 < (l0_1.length : Int) then ((spec_l2Window.f k2 l0_0 ((rd_TimplWindow l0_1 x3_2).f0) ((rd_TimplWindow l0_1 x3_2).f1) ((rd_TimplWindow l0_1 x3_2).f2) ((rd_TimplWindow l0_1 x3_2).f3)).bind fun t857 => (if t857 = true then (spec_l11Machine.l0 k2 (wrap64 (x3_2 + 1)) l0_0 l0_1 l0_2) else (some false))) else (none)) = some r := by rw [if_pos rfl] at H; exact H
                    clear H
                    have H := H1
                    clear H1
                    by_cases c21 : x3_2 < (l0_1.length : Int)
                    · rw [if_pos c21] at H
                      have c21b0 : decide (x3_2 < (l0_1.length : Int)) = true := decide_eq_true c21
                      clear c21
                      replace H := Option.bind_eq_some_iff.mp H
                      obtain ⟨t857, A220, H⟩ := H
                      replace H : (if t857 = true then (spec_l11Machine.l0 k2 (wrap64 (x3_2 + 1)) l0_0 l0_1 l0_2) else (some false)) = some r := H
                      have A22 := Aside0.mk A220
                      clear A220
                      by_cases c23 : t857 = true
                      · subst c23
                        have H1 : (spec_l11Machine.l0 k2 (wrap64 (x3_2 + 1)) l0_0 l0_1 l0_2) = some r := by rw [if_pos rfl] at H; exact H
                        clear H
                        have H := H1
                        clear H1
                        have H' := Aside0.mk H
                        clear H
                        try go_wp2
                        have n0_ := Aside0.mk (blk_drew BK853.out)
                        have n1_ := Aside0.mk (below_drew1 HB.out)
                        clear BK853
                        clear HB
                        have BK853 := n0_
                        have HB := n1_
                        clear n0_ n1_
                        have p855 : 0 ≤ (x3_2 : Int) := of_decide_eq_true (by first | (with_reducible assumption) | assumption)
                        have q855 : x3_2 < (l0_2.length : Int) := of_decide_eq_true (by first | (with_reducible assumption) | assumption)
                        obtain ⟨ad855, e855, hx855_0⟩ := Kd.at_bool HR0_2.out x3_2 p855 q855
                        have hw855_0 := hx855_0
                        (try rw [← Nbq19.out] at hx855_0)
                        cases e855
                        replace hx855_0 := (HB.out.cell (World.block_lt_of_cell? w _ hx855_0)).trans hx855_0
                        replace p855 := eq_true p855
                        replace q855 := eq_true q855
                        have p856 : 0 ≤ (x3_2 : Int) := of_decide_eq_true (by first | (with_reducible assumption) | assumption)
                        have q856 : x3_2 < (l0_1.length : Int) := of_decide_eq_true (by first | (with_reducible assumption) | assumption)
                        obtain ⟨ad856, e856, hx856_0, hx856_1, hx856_2, hx856_3⟩ := at_TimplWindow HR0_1.out x3_2 p856 q856
                        have hw856_3 := hx856_3
                        have hw856_2 := hx856_2
                        have hw856_1 := hx856_1
                        have hw856_0 := hx856_0
                        cases e856
                        replace hx856_0 := (HB.out.cell (World.block_lt_of_cell? w _ hx856_0)).trans hx856_0
                        replace hx856_1 := (HB.out.cell (World.block_lt_of_cell? w _ hx856_1)).trans hx856_1
                        replace hx856_2 := (HB.out.cell (World.block_lt_of_cell? w _ hx856_2)).trans hx856_2
                        replace hx856_3 := (HB.out.cell (World.block_lt_of_cell? w _ hx856_3)).trans hx856_3
                        replace p856 := eq_true p856
                        replace q856 := eq_true q856
                        have p858 : 0 ≤ (x3_2 : Int) := of_decide_eq_true (by first | (with_reducible assumption) | assumption)
                        have q858 : x3_2 < (l0_2.length : Int) := of_decide_eq_true (by first | (with_reducible assumption) | assumption)
                        obtain ⟨ad858, e858, hx858_0⟩ := Kd.at_bool HR0_2.out x3_2 p858 q858
                        have hw858_0 := hx858_0
                        (try rw [← Nbq19.out] at hx858_0)
                        obtain rfl : ad855 = ad858 := (by injection e858)
                        replace hx858_0 := (HB.out.cell (World.block_lt_of_cell? w _ hx858_0)).trans hx858_0
                        replace p858 := eq_true p858
                        replace q858 := eq_true q858
                        refine start_ (n := 33) (S := fun w' => w'.cell? ⟨gb853, 0, none⟩ = some (.slice A0_0 l0_0.length c0_0) ∧ w'.cell? ⟨gb853, 1, none⟩ = some (.slice (some ad856) l0_1.length c0_1) ∧ w'.cell? ⟨gb853, 2, none⟩ = some (.slice (some ad855) l0_2.length c0_2) ∧ w'.cell? (ad855.add (x3_2).toNat) = some (.bool true) ∧ w'.cell? (ad856.add ((x3_2).toNat * 4)) = some (.int .i64 ((rd_TimplWindow l0_1 x3_2).f0)) ∧ w'.cell? ⟨(ad856.add ((x3_2).toNat * 4)).block, (ad856.add ((x3_2).toNat * 4)).off + 1, none⟩ = some (.int .i64 ((rd_TimplWindow l0_1 x3_2).f1)) ∧ w'.cell? ⟨(ad856.add ((x3_2).toNat * 4)).block, (ad856.add ((x3_2).toNat * 4)).off + 2, none⟩ = some (.int .i64 ((rd_TimplWindow l0_1 x3_2).f2)) ∧ w'.cell? ⟨(ad856.add ((x3_2).toNat * 4)).block, (ad856.add ((x3_2).toNat * 4)).off + 3, none⟩ = some (.int .i64 ((rd_TimplWindow l0_1 x3_2).f3)) ∧ w'.cell? (ad855.add (x3_2).toNat) = some (.bool (true))) (ds := []) #[false, false, false, false, false, false, false, false, false, false, false, false, false, false, false, false, false, false, false, false, false, false, false, false, false, false, false, false, false, false, false, false, false] (by kernel_rfl) rfl rfl ⟨(blk_cell BK853.out 0).trans rfl, (blk_cell BK853.out 1).trans rfl, (blk_cell BK853.out 2).trans rfl, (by have h_ := ((HB.out.cell (World.block_lt_of_cell? w _ hw855_0)).trans hw855_0); first | exact h_ | (simp only [*] at h_; exact h_) | (simp [*]; done) | (rw [← Nbq19.out] at h_; exact h_)), (by have h_ := ((HB.out.cell (World.block_lt_of_cell? w _ hw856_0)).trans hw856_0); first | exact h_ | (simp only [*] at h_; exact h_) | (simp [*]; done) | (rw [← Nbq19.out] at h_; exact h_)), (by have h_ := ((HB.out.cell (World.block_lt_of_cell? w _ hw856_1)).trans hw856_1); first | exact h_ | (simp only [*] at h_; exact h_) | (simp [*]; done) | (rw [← Nbq19.out] at h_; exact h_)), (by have h_ := ((HB.out.cell (World.block_lt_of_cell? w _ hw856_2)).trans hw856_2); first | exact h_ | (simp only [*] at h_; exact h_) | (simp [*]; done) | (rw [← Nbq19.out] at h_; exact h_)), (by have h_ := ((HB.out.cell (World.block_lt_of_cell? w _ hw856_3)).trans hw856_3); first | exact h_ | (simp only [*] at h_; exact h_) | (simp [*]; done) | (rw [← Nbq19.out] at h_; exact h_)), (by have h_ := ((HB.out.cell (World.block_lt_of_cell? w _ hw858_0)).trans hw858_0); first | exact h_ | (simp only [*] at h_; exact h_) | (simp [*]; done) | (rw [← Nbq19.out] at h_; exact h_))⟩ (fun hHeld => ?_); refine with_tabW spec_l11Machine.tab6 spec_l11Machine.bits6 (fun HT_ HW_ => ?_)
                        generalize wr.drew = w24 at BK853 HB hx855_0 hx856_0 hx856_1 hx856_2 hx856_3 hx858_0 hHeld ⊢
                        refine pure_ (i := 0) (N := some 24) (v := ?_) (a' := ?_) #[true, false, false, false, false, false, false, false, false, false, false, false, false, false, false, false, false, false, false, false, false, false, false, false, false, false, false, false, false, false, false, false, false] rfl rfl (any_of HT_.out (by kernel_rfl)) (fun _ _ _ h => h) (Or.inl ⟨by rfl, ?_⟩) ?_ ?_
                        rotate_left
                        · intro w'
                          go_simp
                          with_reducible rfl
                        rotate_left
                        · simp only [Act.put, List.setIfInBounds_toArray, List.set_cons_zero, List.set_cons_succ, i64_w, i32_w]
                          rfl
                        refine pure_ (i := 2) (N := some 26) (v := ?_) (a' := ?_) #[true, false, true, false, false, false, false, false, false, false, false, false, false, false, false, false, false, false, false, false, false, false, false, false, false, false, false, false, false, false, false, false, false] rfl rfl (any_of HT_.out (by kernel_rfl)) (fun _ _ _ h => h) (Or.inl ⟨by rfl, ?_⟩) ?_ ?_
                        rotate_left
                        · intro w'
                          go_simp
                          with_reducible rfl
                        rotate_left
                        · simp only [Act.put, List.setIfInBounds_toArray, List.set_cons_zero, List.set_cons_succ, i64_w, i32_w]
                          rfl
                        refine take_ (i := 1) (N := some 25) (v := ?_) (a' := ?_) #[true, true, true, false, false, false, false, false, false, false, false, false, false, false, false, false, false, false, false, false, false, false, false, false, false, false, false, false, false, false, false, false, false] rfl rfl (take_ofW HT_.out HW_.out (by kernel_rfl)) (fun _ _ _ h => h) (Or.inl ⟨by rfl, ?_⟩) hHeld ?_ ?_
                        rotate_left
                        · rintro w' ⟨s0, s1, s2, s3, s4, s5, s6, s7, s8⟩
                          go_simp
                          with_reducible rfl
                        rotate_left
                        · simp only [Act.put, List.setIfInBounds_toArray, List.set_cons_zero, List.set_cons_succ, i64_w, i32_w]
                          rfl
                        refine pure_ (i := 3) (N := some 27) (v := ?_) (a' := ?_) #[true, true, true, true, false, false, false, false, false, false, false, false, false, false, false, false, false, false, false, false, false, false, false, false, false, false, false, false, false, false, false, false, false] rfl rfl (any_of HT_.out (by kernel_rfl)) (fun _ _ _ h => h) (Or.inl ⟨by rfl, ?_⟩) ?_ ?_
                        rotate_left
                        · intro w'
                          go_simp
                          with_reducible rfl
                        rotate_left
                        · simp only [Act.put, List.setIfInBounds_toArray, List.set_cons_zero, List.set_cons_succ, i64_w, i32_w]
                          rfl
                        refine take_ (i := 4) (N := some 28) (v := ?_) (a' := ?_) #[true, true, true, true, true, false, false, false, false, false, false, false, false, false, false, false, false, false, false, false, false, false, false, false, false, false, false, false, false, false, false, false, false] rfl rfl (take_ofW HT_.out HW_.out (by kernel_rfl)) (fun _ _ _ h => h) (Or.inl ⟨by rfl, ?_⟩) hHeld ?_ ?_
                        rotate_left
                        · rintro w' ⟨s0, s1, s2, s3, s4, s5, s6, s7, s8⟩
                          go_simp
                          with_reducible rfl
                        rotate_left
                        · simp only [Act.put, List.setIfInBounds_toArray, List.set_cons_zero, List.set_cons_succ, i64_w, i32_w]
                          rfl
                        refine pure_ (i := 5) (N := some 29) (v := ?_) (a' := ?_) #[true, true, true, true, true, true, false, false, false, false, false, false, false, false, false, false, false, false, false, false, false, false, false, false, false, false, false, false, false, false, false, false, false] rfl rfl (any_of HT_.out (by kernel_rfl)) (fun _ _ _ h => h) (Or.inl ⟨by rfl, ?_⟩) ?_ ?_
                        rotate_left
                        · intro w'
                          go_simp
                          with_reducible rfl
                        rotate_left
                        · simp only [Act.put, List.setIfInBounds_toArray, List.set_cons_zero, List.set_cons_succ, i64_w, i32_w]
                          rfl
                        refine pure_ (i := 6) (N := some 30) (v := ?_) (a' := ?_) #[true, true, true, true, true, true, true, false, false, false, false, false, false, false, false, false, false, false, false, false, false, false, false, false, false, false, false, false, false, false, false, false, false] rfl rfl (any_of HT_.out (by kernel_rfl)) (fun _ _ _ h => h) (Or.inl ⟨by rfl, ?_⟩) ?_ ?_
                        rotate_left
                        · intro w'
                          go_simp
                          with_reducible rfl
                        rotate_left
                        · simp only [Act.put, List.setIfInBounds_toArray, List.set_cons_zero, List.set_cons_succ, i64_w, i32_w]
                          rfl
                        refine pure_ (i := 8) (N := some 32) (v := ?_) (a' := ?_) #[true, true, true, true, true, true, true, false, true, false, false, false, false, false, false, false, false, false, false, false, false, false, false, false, false, false, false, false, false, false, false, false, false] rfl rfl (any_of HT_.out (by kernel_rfl)) (fun _ _ _ h => h) (Or.inl ⟨by rfl, ?_⟩) ?_ ?_
                        rotate_left
                        · intro w'
                          go_simp
                          with_reducible rfl
                        rotate_left
                        · simp only [Act.put, List.setIfInBounds_toArray, List.set_cons_zero, List.set_cons_succ, i64_w, i32_w]
                          rfl
                        refine pure_ (i := 10) (N := some 34) (v := ?_) (a' := ?_) #[true, true, true, true, true, true, true, false, true, false, true, false, false, false, false, false, false, false, false, false, false, false, false, false, false, false, false, false, false, false, false, false, false] rfl rfl (any_of HT_.out (by kernel_rfl)) (fun _ _ _ h => h) (Or.inl ⟨by rfl, ?_⟩) ?_ ?_
                        rotate_left
                        · intro w'
                          go_simp
                          with_reducible rfl
                        rotate_left
                        · simp only [Act.put, List.setIfInBounds_toArray, List.set_cons_zero, List.set_cons_succ, i64_w, i32_w]
                          rfl
                        refine take_ (i := 7) (N := some 31) (v := ?_) (a' := ?_) #[true, true, true, true, true, true, true, true, true, false, true, false, false, false, false, false, false, false, false, false, false, false, false, false, false, false, false, false, false, false, false, false, false] rfl rfl (take_ofW HT_.out HW_.out (by kernel_rfl)) (fun _ _ _ h => h) (Or.inl ⟨by rfl, ?_⟩) hHeld ?_ ?_
                        rotate_left
                        · rintro w' ⟨s0, s1, s2, s3, s4, s5, s6, s7, s8⟩
                          go_simp
                          with_reducible rfl
                        rotate_left
                        · simp only [Act.put, List.setIfInBounds_toArray, List.set_cons_zero, List.set_cons_succ, i64_w, i32_w]
                          rfl
                        refine take_ (i := 9) (N := some 33) (v := ?_) (a' := ?_) #[true, true, true, true, true, true, true, true, true, true, true, false, false, false, false, false, false, false, false, false, false, false, false, false, false, false, false, false, false, false, false, false, false] rfl rfl (take_ofW HT_.out HW_.out (by kernel_rfl)) (fun _ _ _ h => h) (Or.inl ⟨by rfl, ?_⟩) hHeld ?_ ?_
                        rotate_left
                        · rintro w' ⟨s0, s1, s2, s3, s4, s5, s6, s7, s8⟩
                          go_simp
                          with_reducible rfl
                        rotate_left
                        · simp only [Act.put, List.setIfInBounds_toArray, List.set_cons_zero, List.set_cons_succ, i64_w, i32_w]
                          rfl
                        refine pure_ (i := 11) (N := some 35) (v := ?_) (a' := ?_) #[true, true, true, true, true, true, true, true, true, true, true, true, false, false, false, false, false, false, false, false, false, false, false, false, false, false, false, false, false, false, false, false, false] rfl rfl (any_of HT_.out (by kernel_rfl)) (fun _ _ _ h => h) (Or.inl ⟨by rfl, ?_⟩) ?_ ?_
                        rotate_left
                        · intro w'
                          go_simp
                          with_reducible rfl
                        rotate_left
                        · simp only [Act.put, List.setIfInBounds_toArray, List.set_cons_zero, List.set_cons_succ, i64_w, i32_w]
                          rfl
                        refine take_ (i := 12) (N := some 36) (v := ?_) (a' := ?_) #[true, true, true, true, true, true, true, true, true, true, true, true, true, false, false, false, false, false, false, false, false, false, false, false, false, false, false, false, false, false, false, false, false] rfl rfl (take_ofW HT_.out HW_.out (by kernel_rfl)) (fun _ _ _ h => h) (Or.inl ⟨by rfl, ?_⟩) hHeld ?_ ?_
                        rotate_left
                        · rintro w' ⟨s0, s1, s2, s3, s4, s5, s6, s7, s8⟩
                          go_simp
                          with_reducible rfl
                        rotate_left
                        · simp only [Act.put, List.setIfInBounds_toArray, List.set_cons_zero, List.set_cons_succ, i64_w, i32_w]
                          rfl
                        refine one_ (i := 13) (N := some 37) #[true, true, true, true, true, true, true, true, true, true, true, true, true, true, false, false, false, false, false, false, false, false, false, false, false, false, false, false, false, false, false, false, false] rfl rfl (one_of HT_.out (by kernel_rfl)) (by decide) (fun K hK => ?_)
                        refine goes_ Try.func87 (by kernel_rfl) rfl #[.agg #[.slice A0_0 l0_0.length c0_0], .agg #[.int .i64 ((rd_TimplWindow l0_1 x3_2).f0), .int .i64 ((rd_TimplWindow l0_1 x3_2).f1), .int .i64 ((rd_TimplWindow l0_1 x3_2).f2), .int .i64 ((rd_TimplWindow l0_1 x3_2).f3)]] (by rfl) rfl rfl (by (try simp only [List.map_toArray, List.map_cons, List.map_nil]); first | done | rfl | (simp only [List.length_drop, List.length_take]; rfl)) ?_
                        with_reducible refine (spec_l2Window.calls k2 _ _ l0_0 ((rd_TimplWindow l0_1 x3_2).f0) ((rd_TimplWindow l0_1 x3_2).f1) ((rd_TimplWindow l0_1 x3_2).f2) ((rd_TimplWindow l0_1 x3_2).f3) true _ ?side1 ?side2 A22.out).mono ?_
                        (case side1 => repeat (first | exact (Kd.C_below HR0_0.out HB.out) | (with_reducible refine Kd.C_alloc ?_ _) | (with_reducible refine Kd.C_drewN ?_ _) | (with_reducible refine Kd.C_drew ?_)))
                        (case side2 => exact HC0_0.out)
                        rintro e w25 ⟨rfl, hb⟩
                        refine ⟨_, rfl, ?_⟩
                        have n0_ := Aside0.mk (blk_below (g := gb853) (o := .cells #[.slice A0_0 l0_0.length c0_0, .slice (some ad856) l0_1.length c0_1, .slice (some ad855) l0_2.length c0_2] 88 (0, 0)) (by (with_reducible repeat (first | refine blk_drewN ?_ _ | refine blk_drew ?_ | refine blk_alloc ?_ _)); exact BK853.out) hb)
                        have n1_ := Aside0.mk (below_step (by repeat (first | (with_reducible first | exact HB.out | apply below_alloc | apply pw_below_drewN | apply below_drew1 | refine below_set ?_ GE853.out) | exact HB.out)) hb)
                        clear BK853
                        clear HB
                        have BK853 := n0_
                        have HB := n1_
                        clear n0_ n1_
                        (try clear hb)
                        (try clear hb2)
                        (try clear hk)
                        (try clear hi)
                        refine hK.out _ _ ⟨(blk_cell BK853.out 0).trans rfl, (blk_cell BK853.out 1).trans rfl, (blk_cell BK853.out 2).trans rfl, (by have h_ := ((HB.out.cell (World.block_lt_of_cell? w _ hw855_0)).trans hw855_0); first | exact h_ | (simp only [*] at h_; exact h_) | (simp [*]; done) | (rw [← Nbq19.out] at h_; exact h_)), (by have h_ := ((HB.out.cell (World.block_lt_of_cell? w _ hw856_0)).trans hw856_0); first | exact h_ | (simp only [*] at h_; exact h_) | (simp [*]; done) | (rw [← Nbq19.out] at h_; exact h_)), (by have h_ := ((HB.out.cell (World.block_lt_of_cell? w _ hw856_1)).trans hw856_1); first | exact h_ | (simp only [*] at h_; exact h_) | (simp [*]; done) | (rw [← Nbq19.out] at h_; exact h_)), (by have h_ := ((HB.out.cell (World.block_lt_of_cell? w _ hw856_2)).trans hw856_2); first | exact h_ | (simp only [*] at h_; exact h_) | (simp [*]; done) | (rw [← Nbq19.out] at h_; exact h_)), (by have h_ := ((HB.out.cell (World.block_lt_of_cell? w _ hw856_3)).trans hw856_3); first | exact h_ | (simp only [*] at h_; exact h_) | (simp [*]; done) | (rw [← Nbq19.out] at h_; exact h_)), (by have h_ := ((HB.out.cell (World.block_lt_of_cell? w _ hw858_0)).trans hw858_0); first | exact h_ | (simp only [*] at h_; exact h_) | (simp [*]; done) | (rw [← Nbq19.out] at h_; exact h_))⟩ (fun hHeld => ?_)
                        clear hK K
                        refine norm_ (a' := ?_) ?_ ?_
                        rotate_left
                        · show Act.put _ (some 37) _ = _
                          simp only [Act.put, List.setIfInBounds_toArray, List.set_cons_zero, List.set_cons_succ, i64_w, i32_w]
                          rfl
                        refine pure_ (i := 14) (N := some 38) (v := ?_) (a' := ?_) #[true, true, true, true, true, true, true, true, true, true, true, true, true, true, true, false, false, false, false, false, false, false, false, false, false, false, false, false, false, false, false, false, false] rfl rfl (any_of HT_.out (by kernel_rfl)) (fun _ _ _ h => h) (Or.inl ⟨by rfl, ?_⟩) ?_ ?_
                        rotate_left
                        · intro w'
                          go_simp
                          with_reducible rfl
                        rotate_left
                        · simp only [Act.put, List.setIfInBounds_toArray, List.set_cons_zero, List.set_cons_succ, i64_w, i32_w]
                          rfl
                        refine pure_ (i := 15) (N := some 39) (v := ?_) (a' := ?_) #[true, true, true, true, true, true, true, true, true, true, true, true, true, true, true, true, false, false, false, false, false, false, false, false, false, false, false, false, false, false, false, false, false] rfl rfl (any_of HT_.out (by kernel_rfl)) (fun _ _ _ h => h) (Or.inl ⟨by rfl, ?_⟩) ?_ ?_
                        rotate_left
                        · intro w'
                          go_simp
                          with_reducible rfl
                        rotate_left
                        · simp only [Act.put, List.setIfInBounds_toArray, List.set_cons_zero, List.set_cons_succ, i64_w, i32_w]
                          rfl
                        refine pure_ (i := 16) (N := some 40) (v := ?_) (a' := ?_) #[true, true, true, true, true, true, true, true, true, true, true, true, true, true, true, true, true, false, false, false, false, false, false, false, false, false, false, false, false, false, false, false, false] rfl rfl (any_of HT_.out (by kernel_rfl)) (fun _ _ _ h => h) (Or.inl ⟨by rfl, ?_⟩) ?_ ?_
                        rotate_left
                        · intro w'
                          go_simp
                          with_reducible rfl
                        rotate_left
                        · simp only [Act.put, List.setIfInBounds_toArray, List.set_cons_zero, List.set_cons_succ, i64_w, i32_w]
                          rfl
                        refine pure_ (i := 17) (N := some 41) (v := ?_) (a' := ?_) #[true, true, true, true, true, true, true, true, true, true, true, true, true, true, true, true, true, true, false, false, false, false, false, false, false, false, false, false, false, false, false, false, false] rfl rfl (any_of HT_.out (by kernel_rfl)) (fun _ _ _ h => h) (Or.inl ⟨by rfl, ?_⟩) ?_ ?_
                        rotate_left
                        · intro w'
                          go_simp
                          with_reducible rfl
                        rotate_left
                        · simp only [Act.put, List.setIfInBounds_toArray, List.set_cons_zero, List.set_cons_succ, i64_w, i32_w]
                          rfl
                        refine pure_ (i := 19) (N := some 43) (v := ?_) (a' := ?_) #[true, true, true, true, true, true, true, true, true, true, true, true, true, true, true, true, true, true, false, true, false, false, false, false, false, false, false, false, false, false, false, false, false] rfl rfl (any_of HT_.out (by kernel_rfl)) (fun _ _ _ h => h) (Or.inl ⟨by rfl, ?_⟩) ?_ ?_
                        rotate_left
                        · intro w'
                          go_simp
                          with_reducible rfl
                        rotate_left
                        · simp only [Act.put, List.setIfInBounds_toArray, List.set_cons_zero, List.set_cons_succ, i64_w, i32_w]
                          rfl
                        refine take_ (i := 18) (N := some 42) (v := ?_) (a' := ?_) #[true, true, true, true, true, true, true, true, true, true, true, true, true, true, true, true, true, true, true, true, false, false, false, false, false, false, false, false, false, false, false, false, false] rfl rfl (take_ofW HT_.out HW_.out (by kernel_rfl)) (fun _ _ _ h => h) (Or.inl ⟨by rfl, ?_⟩) hHeld ?_ ?_
                        rotate_left
                        · rintro w' ⟨s0, s1, s2, s3, s4, s5, s6, s7, s8⟩
                          go_simp
                          with_reducible rfl
                        rotate_left
                        · simp only [Act.put, List.setIfInBounds_toArray, List.set_cons_zero, List.set_cons_succ, i64_w, i32_w]
                          rfl
                        refine pure_ (i := 20) (N := some 44) (v := ?_) (a' := ?_) #[true, true, true, true, true, true, true, true, true, true, true, true, true, true, true, true, true, true, true, true, true, false, false, false, false, false, false, false, false, false, false, false, false] rfl rfl (any_of HT_.out (by kernel_rfl)) (fun _ _ _ h => h) (Or.inl ⟨by rfl, ?_⟩) ?_ ?_
                        rotate_left
                        · intro w'
                          go_simp
                          with_reducible rfl
                        rotate_left
                        · simp only [Act.put, List.setIfInBounds_toArray, List.set_cons_zero, List.set_cons_succ, i64_w, i32_w]
                          rfl
                        refine take_ (i := 21) (N := some 45) (v := ?_) (a' := ?_) #[true, true, true, true, true, true, true, true, true, true, true, true, true, true, true, true, true, true, true, true, true, true, false, false, false, false, false, false, false, false, false, false, false] rfl rfl (take_ofW HT_.out HW_.out (by kernel_rfl)) (fun _ _ _ h => h) (Or.inl ⟨by rfl, ?_⟩) hHeld ?_ ?_
                        rotate_left
                        · rintro w' ⟨s0, s1, s2, s3, s4, s5, s6, s7, s8⟩
                          go_simp
                          with_reducible rfl
                        rotate_left
                        · simp only [Act.put, List.setIfInBounds_toArray, List.set_cons_zero, List.set_cons_succ, i64_w, i32_w]
                          rfl
                        refine pure_ (i := 22) (N := some 46) (v := ?_) (a' := ?_) #[true, true, true, true, true, true, true, true, true, true, true, true, true, true, true, true, true, true, true, true, true, true, true, false, false, false, false, false, false, false, false, false, false] rfl rfl (any_of HT_.out (by kernel_rfl)) (fun _ _ _ h => h) (Or.inl ⟨by rfl, ?_⟩) ?_ ?_
                        rotate_left
                        · intro w'
                          go_simp
                          with_reducible rfl
                        rotate_left
                        · simp only [Act.put, List.setIfInBounds_toArray, List.set_cons_zero, List.set_cons_succ, i64_w, i32_w]
                          rfl
                        refine pure_ (i := 23) (N := some 47) (v := ?_) (a' := ?_) #[true, true, true, true, true, true, true, true, true, true, true, true, true, true, true, true, true, true, true, true, true, true, true, true, false, false, false, false, false, false, false, false, false] rfl rfl (any_of HT_.out (by kernel_rfl)) (fun _ _ _ h => h) (Or.inl ⟨by rfl, ?_⟩) ?_ ?_
                        rotate_left
                        · intro w'
                          go_simp
                          with_reducible rfl
                        rotate_left
                        · simp only [Act.put, List.setIfInBounds_toArray, List.set_cons_zero, List.set_cons_succ, i64_w, i32_w]
                          rfl
                        refine pure_ (i := 24) (N := some 48) (v := undef) (a' := ?_) #[true, true, true, true, true, true, true, true, true, true, true, true, true, true, true, true, true, true, true, true, true, true, true, true, true, false, false, false, false, false, false, false, false] rfl rfl (any_of HT_.out (by kernel_rfl)) (fun _ _ _ h => h) (Or.inr ⟨by rfl, rfl⟩) ?_ ?_
                        rotate_left
                        · simp only [Act.put, List.setIfInBounds_toArray, List.set_cons_zero, List.set_cons_succ, i64_w, i32_w]
                          rfl
                        refine pure_ (i := 25) (N := some 49) (v := undef) (a' := ?_) #[true, true, true, true, true, true, true, true, true, true, true, true, true, true, true, true, true, true, true, true, true, true, true, true, true, true, false, false, false, false, false, false, false] rfl rfl (any_of HT_.out (by kernel_rfl)) (fun _ _ _ h => h) (Or.inr ⟨by rfl, rfl⟩) ?_ ?_
                        rotate_left
                        · simp only [Act.put, List.setIfInBounds_toArray, List.set_cons_zero, List.set_cons_succ, i64_w, i32_w]
                          rfl
                        refine pure_ (i := 26) (N := some 50) (v := undef) (a' := ?_) #[true, true, true, true, true, true, true, true, true, true, true, true, true, true, true, true, true, true, true, true, true, true, true, true, true, true, true, false, false, false, false, false, false] rfl rfl (any_of HT_.out (by kernel_rfl)) (fun _ _ _ h => h) (Or.inr ⟨by rfl, rfl⟩) ?_ ?_
                        rotate_left
                        · simp only [Act.put, List.setIfInBounds_toArray, List.set_cons_zero, List.set_cons_succ, i64_w, i32_w]
                          rfl
                        refine pure_ (i := 27) (N := some 51) (v := undef) (a' := ?_) #[true, true, true, true, true, true, true, true, true, true, true, true, true, true, true, true, true, true, true, true, true, true, true, true, true, true, true, true, false, false, false, false, false] rfl rfl (any_of HT_.out (by kernel_rfl)) (fun _ _ _ h => h) (Or.inr ⟨by rfl, rfl⟩) ?_ ?_
                        rotate_left
                        · simp only [Act.put, List.setIfInBounds_toArray, List.set_cons_zero, List.set_cons_succ, i64_w, i32_w]
                          rfl
                        refine pure_ (i := 28) (N := some 52) (v := undef) (a' := ?_) #[true, true, true, true, true, true, true, true, true, true, true, true, true, true, true, true, true, true, true, true, true, true, true, true, true, true, true, true, true, false, false, false, false] rfl rfl (any_of HT_.out (by kernel_rfl)) (fun _ _ _ h => h) (Or.inr ⟨by rfl, rfl⟩) ?_ ?_
                        rotate_left
                        · simp only [Act.put, List.setIfInBounds_toArray, List.set_cons_zero, List.set_cons_succ, i64_w, i32_w]
                          rfl
                        refine pure_ (i := 29) (N := some 53) (v := undef) (a' := ?_) #[true, true, true, true, true, true, true, true, true, true, true, true, true, true, true, true, true, true, true, true, true, true, true, true, true, true, true, true, true, true, false, false, false] rfl rfl (any_of HT_.out (by kernel_rfl)) (fun _ _ _ h => h) (Or.inr ⟨by rfl, rfl⟩) ?_ ?_
                        rotate_left
                        · simp only [Act.put, List.setIfInBounds_toArray, List.set_cons_zero, List.set_cons_succ, i64_w, i32_w]
                          rfl
                        refine pure_ (i := 30) (N := some 54) (v := undef) (a' := ?_) #[true, true, true, true, true, true, true, true, true, true, true, true, true, true, true, true, true, true, true, true, true, true, true, true, true, true, true, true, true, true, true, false, false] rfl rfl (any_of HT_.out (by kernel_rfl)) (fun _ _ _ h => h) (Or.inr ⟨by rfl, rfl⟩) ?_ ?_
                        rotate_left
                        · simp only [Act.put, List.setIfInBounds_toArray, List.set_cons_zero, List.set_cons_succ, i64_w, i32_w]
                          rfl
                        refine pure_ (i := 31) (N := some 55) (v := ?_) (a' := ?_) #[true, true, true, true, true, true, true, true, true, true, true, true, true, true, true, true, true, true, true, true, true, true, true, true, true, true, true, true, true, true, true, true, false] rfl rfl (any_of HT_.out (by kernel_rfl)) (fun _ _ _ h => h) (Or.inl ⟨by rfl, ?_⟩) ?_ ?_
                        rotate_left
                        · intro w'
                          go_simp
                          with_reducible rfl
                        rotate_left
                        · simp only [Act.put, List.setIfInBounds_toArray, List.set_cons_zero, List.set_cons_succ, i64_w, i32_w]
                          rfl
                        refine pure_ (i := 32) (N := some 56) (v := ?_) (a' := ?_) #[true, true, true, true, true, true, true, true, true, true, true, true, true, true, true, true, true, true, true, true, true, true, true, true, true, true, true, true, true, true, true, true, true] rfl rfl (any_of HT_.out (by kernel_rfl)) (fun _ _ _ h => h) (Or.inl ⟨by rfl, ?_⟩) ?_ ?_
                        rotate_left
                        · intro w'
                          go_simp
                          with_reducible rfl
                        rotate_left
                        · simp only [Act.put, List.setIfInBounds_toArray, List.set_cons_zero, List.set_cons_succ, i64_w, i32_w]
                          rfl
                        refine done_ (done_of HT_.out (by kernel_rfl)) ?_
                        try go_wp2
                        go_roundg k2
                        case measure => have := HJ1.out; have := HK2.out; omega
                        case rel => exact ⟨(wrap64 (x3_2 + 1)), (by first | rfl | (simp; done) | (simp [*]; done)), H', ⟨by have := HJ1.out; have := HK2.out; omega⟩, ⟨by (with_reducible repeat (first | refine blk_drewN ?_ _ | refine blk_drew ?_ | refine blk_alloc ?_ _)); exact BK853.out⟩, ⟨by repeat (first | (with_reducible first | exact HB.out | apply below_alloc | apply pw_below_drewN | apply below_drew1 | refine below_set ?_ GE853.out) | exact HB.out)⟩⟩
                      · replace c23 := Bool.eq_false_iff.mpr c23
                        subst c23
                        have H1 : (some false) = some r := by rw [if_neg (show ¬ (false = true) by decide)] at H; exact H
                        clear H
                        have H := H1
                        clear H1
                        obtain rfl := Option.some.inj H
                        try go_wp2
                        have n0_ := Aside0.mk (blk_drew BK853.out)
                        have n1_ := Aside0.mk (below_drew1 HB.out)
                        clear BK853
                        clear HB
                        have BK853 := n0_
                        have HB := n1_
                        clear n0_ n1_
                        have p855 : 0 ≤ (x3_2 : Int) := of_decide_eq_true (by first | (with_reducible assumption) | assumption)
                        have q855 : x3_2 < (l0_2.length : Int) := of_decide_eq_true (by first | (with_reducible assumption) | assumption)
                        obtain ⟨ad855, e855, hx855_0⟩ := Kd.at_bool HR0_2.out x3_2 p855 q855
                        have hw855_0 := hx855_0
                        (try rw [← Nbq19.out] at hx855_0)
                        cases e855
                        replace hx855_0 := (HB.out.cell (World.block_lt_of_cell? w _ hx855_0)).trans hx855_0
                        replace p855 := eq_true p855
                        replace q855 := eq_true q855
                        have p856 : 0 ≤ (x3_2 : Int) := of_decide_eq_true (by first | (with_reducible assumption) | assumption)
                        have q856 : x3_2 < (l0_1.length : Int) := of_decide_eq_true (by first | (with_reducible assumption) | assumption)
                        obtain ⟨ad856, e856, hx856_0, hx856_1, hx856_2, hx856_3⟩ := at_TimplWindow HR0_1.out x3_2 p856 q856
                        have hw856_3 := hx856_3
                        have hw856_2 := hx856_2
                        have hw856_1 := hx856_1
                        have hw856_0 := hx856_0
                        cases e856
                        replace hx856_0 := (HB.out.cell (World.block_lt_of_cell? w _ hx856_0)).trans hx856_0
                        replace hx856_1 := (HB.out.cell (World.block_lt_of_cell? w _ hx856_1)).trans hx856_1
                        replace hx856_2 := (HB.out.cell (World.block_lt_of_cell? w _ hx856_2)).trans hx856_2
                        replace hx856_3 := (HB.out.cell (World.block_lt_of_cell? w _ hx856_3)).trans hx856_3
                        replace p856 := eq_true p856
                        replace q856 := eq_true q856
                        refine start_ (n := 33) (S := fun w' => w'.cell? ⟨gb853, 0, none⟩ = some (.slice A0_0 l0_0.length c0_0) ∧ w'.cell? ⟨gb853, 1, none⟩ = some (.slice (some ad856) l0_1.length c0_1) ∧ w'.cell? ⟨gb853, 2, none⟩ = some (.slice (some ad855) l0_2.length c0_2) ∧ w'.cell? (ad855.add (x3_2).toNat) = some (.bool true) ∧ w'.cell? (ad856.add ((x3_2).toNat * 4)) = some (.int .i64 ((rd_TimplWindow l0_1 x3_2).f0)) ∧ w'.cell? ⟨(ad856.add ((x3_2).toNat * 4)).block, (ad856.add ((x3_2).toNat * 4)).off + 1, none⟩ = some (.int .i64 ((rd_TimplWindow l0_1 x3_2).f1)) ∧ w'.cell? ⟨(ad856.add ((x3_2).toNat * 4)).block, (ad856.add ((x3_2).toNat * 4)).off + 2, none⟩ = some (.int .i64 ((rd_TimplWindow l0_1 x3_2).f2)) ∧ w'.cell? ⟨(ad856.add ((x3_2).toNat * 4)).block, (ad856.add ((x3_2).toNat * 4)).off + 3, none⟩ = some (.int .i64 ((rd_TimplWindow l0_1 x3_2).f3))) (ds := []) #[false, false, false, false, false, false, false, false, false, false, false, false, false, false, false, false, false, false, false, false, false, false, false, false, false, false, false, false, false, false, false, false, false] (by kernel_rfl) rfl rfl ⟨(blk_cell BK853.out 0).trans rfl, (blk_cell BK853.out 1).trans rfl, (blk_cell BK853.out 2).trans rfl, (by have h_ := ((HB.out.cell (World.block_lt_of_cell? w _ hw855_0)).trans hw855_0); first | exact h_ | (simp only [*] at h_; exact h_) | (simp [*]; done) | (rw [← Nbq19.out] at h_; exact h_)), (by have h_ := ((HB.out.cell (World.block_lt_of_cell? w _ hw856_0)).trans hw856_0); first | exact h_ | (simp only [*] at h_; exact h_) | (simp [*]; done) | (rw [← Nbq19.out] at h_; exact h_)), (by have h_ := ((HB.out.cell (World.block_lt_of_cell? w _ hw856_1)).trans hw856_1); first | exact h_ | (simp only [*] at h_; exact h_) | (simp [*]; done) | (rw [← Nbq19.out] at h_; exact h_)), (by have h_ := ((HB.out.cell (World.block_lt_of_cell? w _ hw856_2)).trans hw856_2); first | exact h_ | (simp only [*] at h_; exact h_) | (simp [*]; done) | (rw [← Nbq19.out] at h_; exact h_)), (by have h_ := ((HB.out.cell (World.block_lt_of_cell? w _ hw856_3)).trans hw856_3); first | exact h_ | (simp only [*] at h_; exact h_) | (simp [*]; done) | (rw [← Nbq19.out] at h_; exact h_))⟩ (fun hHeld => ?_); refine with_tabW spec_l11Machine.tab6 spec_l11Machine.bits6 (fun HT_ HW_ => ?_)
                        generalize wr.drew = w26 at BK853 HB hx855_0 hx856_0 hx856_1 hx856_2 hx856_3 hHeld ⊢
                        refine pure_ (i := 0) (N := some 24) (v := ?_) (a' := ?_) #[true, false, false, false, false, false, false, false, false, false, false, false, false, false, false, false, false, false, false, false, false, false, false, false, false, false, false, false, false, false, false, false, false] rfl rfl (any_of HT_.out (by kernel_rfl)) (fun _ _ _ h => h) (Or.inl ⟨by rfl, ?_⟩) ?_ ?_
                        rotate_left
                        · intro w'
                          go_simp
                          with_reducible rfl
                        rotate_left
                        · simp only [Act.put, List.setIfInBounds_toArray, List.set_cons_zero, List.set_cons_succ, i64_w, i32_w]
                          rfl
                        refine pure_ (i := 2) (N := some 26) (v := ?_) (a' := ?_) #[true, false, true, false, false, false, false, false, false, false, false, false, false, false, false, false, false, false, false, false, false, false, false, false, false, false, false, false, false, false, false, false, false] rfl rfl (any_of HT_.out (by kernel_rfl)) (fun _ _ _ h => h) (Or.inl ⟨by rfl, ?_⟩) ?_ ?_
                        rotate_left
                        · intro w'
                          go_simp
                          with_reducible rfl
                        rotate_left
                        · simp only [Act.put, List.setIfInBounds_toArray, List.set_cons_zero, List.set_cons_succ, i64_w, i32_w]
                          rfl
                        refine take_ (i := 1) (N := some 25) (v := ?_) (a' := ?_) #[true, true, true, false, false, false, false, false, false, false, false, false, false, false, false, false, false, false, false, false, false, false, false, false, false, false, false, false, false, false, false, false, false] rfl rfl (take_ofW HT_.out HW_.out (by kernel_rfl)) (fun _ _ _ h => h) (Or.inl ⟨by rfl, ?_⟩) hHeld ?_ ?_
                        rotate_left
                        · rintro w' ⟨s0, s1, s2, s3, s4, s5, s6, s7⟩
                          go_simp
                          with_reducible rfl
                        rotate_left
                        · simp only [Act.put, List.setIfInBounds_toArray, List.set_cons_zero, List.set_cons_succ, i64_w, i32_w]
                          rfl
                        refine pure_ (i := 3) (N := some 27) (v := ?_) (a' := ?_) #[true, true, true, true, false, false, false, false, false, false, false, false, false, false, false, false, false, false, false, false, false, false, false, false, false, false, false, false, false, false, false, false, false] rfl rfl (any_of HT_.out (by kernel_rfl)) (fun _ _ _ h => h) (Or.inl ⟨by rfl, ?_⟩) ?_ ?_
                        rotate_left
                        · intro w'
                          go_simp
                          with_reducible rfl
                        rotate_left
                        · simp only [Act.put, List.setIfInBounds_toArray, List.set_cons_zero, List.set_cons_succ, i64_w, i32_w]
                          rfl
                        refine take_ (i := 4) (N := some 28) (v := ?_) (a' := ?_) #[true, true, true, true, true, false, false, false, false, false, false, false, false, false, false, false, false, false, false, false, false, false, false, false, false, false, false, false, false, false, false, false, false] rfl rfl (take_ofW HT_.out HW_.out (by kernel_rfl)) (fun _ _ _ h => h) (Or.inl ⟨by rfl, ?_⟩) hHeld ?_ ?_
                        rotate_left
                        · rintro w' ⟨s0, s1, s2, s3, s4, s5, s6, s7⟩
                          go_simp
                          with_reducible rfl
                        rotate_left
                        · simp only [Act.put, List.setIfInBounds_toArray, List.set_cons_zero, List.set_cons_succ, i64_w, i32_w]
                          rfl
                        refine pure_ (i := 5) (N := some 29) (v := ?_) (a' := ?_) #[true, true, true, true, true, true, false, false, false, false, false, false, false, false, false, false, false, false, false, false, false, false, false, false, false, false, false, false, false, false, false, false, false] rfl rfl (any_of HT_.out (by kernel_rfl)) (fun _ _ _ h => h) (Or.inl ⟨by rfl, ?_⟩) ?_ ?_
                        rotate_left
                        · intro w'
                          go_simp
                          with_reducible rfl
                        rotate_left
                        · simp only [Act.put, List.setIfInBounds_toArray, List.set_cons_zero, List.set_cons_succ, i64_w, i32_w]
                          rfl
                        refine pure_ (i := 6) (N := some 30) (v := ?_) (a' := ?_) #[true, true, true, true, true, true, true, false, false, false, false, false, false, false, false, false, false, false, false, false, false, false, false, false, false, false, false, false, false, false, false, false, false] rfl rfl (any_of HT_.out (by kernel_rfl)) (fun _ _ _ h => h) (Or.inl ⟨by rfl, ?_⟩) ?_ ?_
                        rotate_left
                        · intro w'
                          go_simp
                          with_reducible rfl
                        rotate_left
                        · simp only [Act.put, List.setIfInBounds_toArray, List.set_cons_zero, List.set_cons_succ, i64_w, i32_w]
                          rfl
                        refine pure_ (i := 8) (N := some 32) (v := ?_) (a' := ?_) #[true, true, true, true, true, true, true, false, true, false, false, false, false, false, false, false, false, false, false, false, false, false, false, false, false, false, false, false, false, false, false, false, false] rfl rfl (any_of HT_.out (by kernel_rfl)) (fun _ _ _ h => h) (Or.inl ⟨by rfl, ?_⟩) ?_ ?_
                        rotate_left
                        · intro w'
                          go_simp
                          with_reducible rfl
                        rotate_left
                        · simp only [Act.put, List.setIfInBounds_toArray, List.set_cons_zero, List.set_cons_succ, i64_w, i32_w]
                          rfl
                        refine pure_ (i := 10) (N := some 34) (v := ?_) (a' := ?_) #[true, true, true, true, true, true, true, false, true, false, true, false, false, false, false, false, false, false, false, false, false, false, false, false, false, false, false, false, false, false, false, false, false] rfl rfl (any_of HT_.out (by kernel_rfl)) (fun _ _ _ h => h) (Or.inl ⟨by rfl, ?_⟩) ?_ ?_
                        rotate_left
                        · intro w'
                          go_simp
                          with_reducible rfl
                        rotate_left
                        · simp only [Act.put, List.setIfInBounds_toArray, List.set_cons_zero, List.set_cons_succ, i64_w, i32_w]
                          rfl
                        refine take_ (i := 7) (N := some 31) (v := ?_) (a' := ?_) #[true, true, true, true, true, true, true, true, true, false, true, false, false, false, false, false, false, false, false, false, false, false, false, false, false, false, false, false, false, false, false, false, false] rfl rfl (take_ofW HT_.out HW_.out (by kernel_rfl)) (fun _ _ _ h => h) (Or.inl ⟨by rfl, ?_⟩) hHeld ?_ ?_
                        rotate_left
                        · rintro w' ⟨s0, s1, s2, s3, s4, s5, s6, s7⟩
                          go_simp
                          with_reducible rfl
                        rotate_left
                        · simp only [Act.put, List.setIfInBounds_toArray, List.set_cons_zero, List.set_cons_succ, i64_w, i32_w]
                          rfl
                        refine take_ (i := 9) (N := some 33) (v := ?_) (a' := ?_) #[true, true, true, true, true, true, true, true, true, true, true, false, false, false, false, false, false, false, false, false, false, false, false, false, false, false, false, false, false, false, false, false, false] rfl rfl (take_ofW HT_.out HW_.out (by kernel_rfl)) (fun _ _ _ h => h) (Or.inl ⟨by rfl, ?_⟩) hHeld ?_ ?_
                        rotate_left
                        · rintro w' ⟨s0, s1, s2, s3, s4, s5, s6, s7⟩
                          go_simp
                          with_reducible rfl
                        rotate_left
                        · simp only [Act.put, List.setIfInBounds_toArray, List.set_cons_zero, List.set_cons_succ, i64_w, i32_w]
                          rfl
                        refine pure_ (i := 11) (N := some 35) (v := ?_) (a' := ?_) #[true, true, true, true, true, true, true, true, true, true, true, true, false, false, false, false, false, false, false, false, false, false, false, false, false, false, false, false, false, false, false, false, false] rfl rfl (any_of HT_.out (by kernel_rfl)) (fun _ _ _ h => h) (Or.inl ⟨by rfl, ?_⟩) ?_ ?_
                        rotate_left
                        · intro w'
                          go_simp
                          with_reducible rfl
                        rotate_left
                        · simp only [Act.put, List.setIfInBounds_toArray, List.set_cons_zero, List.set_cons_succ, i64_w, i32_w]
                          rfl
                        refine take_ (i := 12) (N := some 36) (v := ?_) (a' := ?_) #[true, true, true, true, true, true, true, true, true, true, true, true, true, false, false, false, false, false, false, false, false, false, false, false, false, false, false, false, false, false, false, false, false] rfl rfl (take_ofW HT_.out HW_.out (by kernel_rfl)) (fun _ _ _ h => h) (Or.inl ⟨by rfl, ?_⟩) hHeld ?_ ?_
                        rotate_left
                        · rintro w' ⟨s0, s1, s2, s3, s4, s5, s6, s7⟩
                          go_simp
                          with_reducible rfl
                        rotate_left
                        · simp only [Act.put, List.setIfInBounds_toArray, List.set_cons_zero, List.set_cons_succ, i64_w, i32_w]
                          rfl
                        refine one_ (i := 13) (N := some 37) #[true, true, true, true, true, true, true, true, true, true, true, true, true, true, false, false, false, false, false, false, false, false, false, false, false, false, false, false, false, false, false, false, false] rfl rfl (one_of HT_.out (by kernel_rfl)) (by decide) (fun K hK => ?_)
                        refine goes_ Try.func87 (by kernel_rfl) rfl #[.agg #[.slice A0_0 l0_0.length c0_0], .agg #[.int .i64 ((rd_TimplWindow l0_1 x3_2).f0), .int .i64 ((rd_TimplWindow l0_1 x3_2).f1), .int .i64 ((rd_TimplWindow l0_1 x3_2).f2), .int .i64 ((rd_TimplWindow l0_1 x3_2).f3)]] (by rfl) rfl rfl (by (try simp only [List.map_toArray, List.map_cons, List.map_nil]); first | done | rfl | (simp only [List.length_drop, List.length_take]; rfl)) ?_
                        with_reducible refine (spec_l2Window.calls k2 _ _ l0_0 ((rd_TimplWindow l0_1 x3_2).f0) ((rd_TimplWindow l0_1 x3_2).f1) ((rd_TimplWindow l0_1 x3_2).f2) ((rd_TimplWindow l0_1 x3_2).f3) false _ ?side1 ?side2 A22.out).mono ?_
                        (case side1 => repeat (first | exact (Kd.C_below HR0_0.out HB.out) | (with_reducible refine Kd.C_alloc ?_ _) | (with_reducible refine Kd.C_drewN ?_ _) | (with_reducible refine Kd.C_drew ?_)))
                        (case side2 => exact HC0_0.out)
                        rintro e w27 ⟨rfl, hb⟩
                        refine ⟨_, rfl, ?_⟩
                        have n0_ := Aside0.mk (blk_below (g := gb853) (o := .cells #[.slice A0_0 l0_0.length c0_0, .slice (some ad856) l0_1.length c0_1, .slice (some ad855) l0_2.length c0_2] 88 (0, 0)) (by (with_reducible repeat (first | refine blk_drewN ?_ _ | refine blk_drew ?_ | refine blk_alloc ?_ _)); exact BK853.out) hb)
                        have n1_ := Aside0.mk (below_step (by repeat (first | (with_reducible first | exact HB.out | apply below_alloc | apply pw_below_drewN | apply below_drew1 | refine below_set ?_ GE853.out) | exact HB.out)) hb)
                        clear BK853
                        clear HB
                        have BK853 := n0_
                        have HB := n1_
                        clear n0_ n1_
                        (try clear hb)
                        (try clear hb2)
                        (try clear hk)
                        (try clear hi)
                        refine hK.out _ _ ⟨(blk_cell BK853.out 0).trans rfl, (blk_cell BK853.out 1).trans rfl, (blk_cell BK853.out 2).trans rfl, (by have h_ := ((HB.out.cell (World.block_lt_of_cell? w _ hw855_0)).trans hw855_0); first | exact h_ | (simp only [*] at h_; exact h_) | (simp [*]; done) | (rw [← Nbq19.out] at h_; exact h_)), (by have h_ := ((HB.out.cell (World.block_lt_of_cell? w _ hw856_0)).trans hw856_0); first | exact h_ | (simp only [*] at h_; exact h_) | (simp [*]; done) | (rw [← Nbq19.out] at h_; exact h_)), (by have h_ := ((HB.out.cell (World.block_lt_of_cell? w _ hw856_1)).trans hw856_1); first | exact h_ | (simp only [*] at h_; exact h_) | (simp [*]; done) | (rw [← Nbq19.out] at h_; exact h_)), (by have h_ := ((HB.out.cell (World.block_lt_of_cell? w _ hw856_2)).trans hw856_2); first | exact h_ | (simp only [*] at h_; exact h_) | (simp [*]; done) | (rw [← Nbq19.out] at h_; exact h_)), (by have h_ := ((HB.out.cell (World.block_lt_of_cell? w _ hw856_3)).trans hw856_3); first | exact h_ | (simp only [*] at h_; exact h_) | (simp [*]; done) | (rw [← Nbq19.out] at h_; exact h_))⟩ (fun hHeld => ?_)
                        clear hK K
                        refine norm_ (a' := ?_) ?_ ?_
                        rotate_left
                        · show Act.put _ (some 37) _ = _
                          simp only [Act.put, List.setIfInBounds_toArray, List.set_cons_zero, List.set_cons_succ, i64_w, i32_w]
                          rfl
                        refine pure_ (i := 14) (N := some 38) (v := ?_) (a' := ?_) #[true, true, true, true, true, true, true, true, true, true, true, true, true, true, true, false, false, false, false, false, false, false, false, false, false, false, false, false, false, false, false, false, false] rfl rfl (any_of HT_.out (by kernel_rfl)) (fun _ _ _ h => h) (Or.inl ⟨by rfl, ?_⟩) ?_ ?_
                        rotate_left
                        · intro w'
                          go_simp
                          with_reducible rfl
                        rotate_left
                        · simp only [Act.put, List.setIfInBounds_toArray, List.set_cons_zero, List.set_cons_succ, i64_w, i32_w]
                          rfl
                        refine pure_ (i := 15) (N := some 39) (v := ?_) (a' := ?_) #[true, true, true, true, true, true, true, true, true, true, true, true, true, true, true, true, false, false, false, false, false, false, false, false, false, false, false, false, false, false, false, false, false] rfl rfl (any_of HT_.out (by kernel_rfl)) (fun _ _ _ h => h) (Or.inl ⟨by rfl, ?_⟩) ?_ ?_
                        rotate_left
                        · intro w'
                          go_simp
                          with_reducible rfl
                        rotate_left
                        · simp only [Act.put, List.setIfInBounds_toArray, List.set_cons_zero, List.set_cons_succ, i64_w, i32_w]
                          rfl
                        refine pure_ (i := 16) (N := some 40) (v := ?_) (a' := ?_) #[true, true, true, true, true, true, true, true, true, true, true, true, true, true, true, true, true, false, false, false, false, false, false, false, false, false, false, false, false, false, false, false, false] rfl rfl (any_of HT_.out (by kernel_rfl)) (fun _ _ _ h => h) (Or.inl ⟨by rfl, ?_⟩) ?_ ?_
                        rotate_left
                        · intro w'
                          go_simp
                          with_reducible rfl
                        rotate_left
                        · simp only [Act.put, List.setIfInBounds_toArray, List.set_cons_zero, List.set_cons_succ, i64_w, i32_w]
                          rfl
                        refine pure_ (i := 17) (N := some 41) (v := undef) (a' := ?_) #[true, true, true, true, true, true, true, true, true, true, true, true, true, true, true, true, true, true, false, false, false, false, false, false, false, false, false, false, false, false, false, false, false] rfl rfl (any_of HT_.out (by kernel_rfl)) (fun _ _ _ h => h) (Or.inr ⟨by rfl, rfl⟩) ?_ ?_
                        rotate_left
                        · simp only [Act.put, List.setIfInBounds_toArray, List.set_cons_zero, List.set_cons_succ, i64_w, i32_w]
                          rfl
                        refine pure_ (i := 18) (N := some 42) (v := undef) (a' := ?_) #[true, true, true, true, true, true, true, true, true, true, true, true, true, true, true, true, true, true, true, false, false, false, false, false, false, false, false, false, false, false, false, false, false] rfl rfl (any_of HT_.out (by kernel_rfl)) (fun _ _ _ h => h) (Or.inr ⟨by rfl, rfl⟩) ?_ ?_
                        rotate_left
                        · simp only [Act.put, List.setIfInBounds_toArray, List.set_cons_zero, List.set_cons_succ, i64_w, i32_w]
                          rfl
                        refine pure_ (i := 19) (N := some 43) (v := undef) (a' := ?_) #[true, true, true, true, true, true, true, true, true, true, true, true, true, true, true, true, true, true, true, true, false, false, false, false, false, false, false, false, false, false, false, false, false] rfl rfl (any_of HT_.out (by kernel_rfl)) (fun _ _ _ h => h) (Or.inr ⟨by rfl, rfl⟩) ?_ ?_
                        rotate_left
                        · simp only [Act.put, List.setIfInBounds_toArray, List.set_cons_zero, List.set_cons_succ, i64_w, i32_w]
                          rfl
                        refine pure_ (i := 20) (N := some 44) (v := undef) (a' := ?_) #[true, true, true, true, true, true, true, true, true, true, true, true, true, true, true, true, true, true, true, true, true, false, false, false, false, false, false, false, false, false, false, false, false] rfl rfl (any_of HT_.out (by kernel_rfl)) (fun _ _ _ h => h) (Or.inr ⟨by rfl, rfl⟩) ?_ ?_
                        rotate_left
                        · simp only [Act.put, List.setIfInBounds_toArray, List.set_cons_zero, List.set_cons_succ, i64_w, i32_w]
                          rfl
                        refine pure_ (i := 21) (N := some 45) (v := undef) (a' := ?_) #[true, true, true, true, true, true, true, true, true, true, true, true, true, true, true, true, true, true, true, true, true, true, false, false, false, false, false, false, false, false, false, false, false] rfl rfl (any_of HT_.out (by kernel_rfl)) (fun _ _ _ h => h) (Or.inr ⟨by rfl, rfl⟩) ?_ ?_
                        rotate_left
                        · simp only [Act.put, List.setIfInBounds_toArray, List.set_cons_zero, List.set_cons_succ, i64_w, i32_w]
                          rfl
                        refine pure_ (i := 22) (N := some 46) (v := undef) (a' := ?_) #[true, true, true, true, true, true, true, true, true, true, true, true, true, true, true, true, true, true, true, true, true, true, true, false, false, false, false, false, false, false, false, false, false] rfl rfl (any_of HT_.out (by kernel_rfl)) (fun _ _ _ h => h) (Or.inr ⟨by rfl, rfl⟩) ?_ ?_
                        rotate_left
                        · simp only [Act.put, List.setIfInBounds_toArray, List.set_cons_zero, List.set_cons_succ, i64_w, i32_w]
                          rfl
                        refine pure_ (i := 23) (N := some 47) (v := undef) (a' := ?_) #[true, true, true, true, true, true, true, true, true, true, true, true, true, true, true, true, true, true, true, true, true, true, true, true, false, false, false, false, false, false, false, false, false] rfl rfl (any_of HT_.out (by kernel_rfl)) (fun _ _ _ h => h) (Or.inr ⟨by rfl, rfl⟩) ?_ ?_
                        rotate_left
                        · simp only [Act.put, List.setIfInBounds_toArray, List.set_cons_zero, List.set_cons_succ, i64_w, i32_w]
                          rfl
                        refine pure_ (i := 24) (N := some 48) (v := undef) (a' := ?_) #[true, true, true, true, true, true, true, true, true, true, true, true, true, true, true, true, true, true, true, true, true, true, true, true, true, false, false, false, false, false, false, false, false] rfl rfl (any_of HT_.out (by kernel_rfl)) (fun _ _ _ h => h) (Or.inr ⟨by rfl, rfl⟩) ?_ ?_
                        rotate_left
                        · simp only [Act.put, List.setIfInBounds_toArray, List.set_cons_zero, List.set_cons_succ, i64_w, i32_w]
                          rfl
                        refine pure_ (i := 25) (N := some 49) (v := undef) (a' := ?_) #[true, true, true, true, true, true, true, true, true, true, true, true, true, true, true, true, true, true, true, true, true, true, true, true, true, true, false, false, false, false, false, false, false] rfl rfl (any_of HT_.out (by kernel_rfl)) (fun _ _ _ h => h) (Or.inr ⟨by rfl, rfl⟩) ?_ ?_
                        rotate_left
                        · simp only [Act.put, List.setIfInBounds_toArray, List.set_cons_zero, List.set_cons_succ, i64_w, i32_w]
                          rfl
                        refine pure_ (i := 26) (N := some 50) (v := undef) (a' := ?_) #[true, true, true, true, true, true, true, true, true, true, true, true, true, true, true, true, true, true, true, true, true, true, true, true, true, true, true, false, false, false, false, false, false] rfl rfl (any_of HT_.out (by kernel_rfl)) (fun _ _ _ h => h) (Or.inr ⟨by rfl, rfl⟩) ?_ ?_
                        rotate_left
                        · simp only [Act.put, List.setIfInBounds_toArray, List.set_cons_zero, List.set_cons_succ, i64_w, i32_w]
                          rfl
                        refine pure_ (i := 27) (N := some 51) (v := undef) (a' := ?_) #[true, true, true, true, true, true, true, true, true, true, true, true, true, true, true, true, true, true, true, true, true, true, true, true, true, true, true, true, false, false, false, false, false] rfl rfl (any_of HT_.out (by kernel_rfl)) (fun _ _ _ h => h) (Or.inr ⟨by rfl, rfl⟩) ?_ ?_
                        rotate_left
                        · simp only [Act.put, List.setIfInBounds_toArray, List.set_cons_zero, List.set_cons_succ, i64_w, i32_w]
                          rfl
                        refine pure_ (i := 28) (N := some 52) (v := undef) (a' := ?_) #[true, true, true, true, true, true, true, true, true, true, true, true, true, true, true, true, true, true, true, true, true, true, true, true, true, true, true, true, true, false, false, false, false] rfl rfl (any_of HT_.out (by kernel_rfl)) (fun _ _ _ h => h) (Or.inr ⟨by rfl, rfl⟩) ?_ ?_
                        rotate_left
                        · simp only [Act.put, List.setIfInBounds_toArray, List.set_cons_zero, List.set_cons_succ, i64_w, i32_w]
                          rfl
                        refine pure_ (i := 29) (N := some 53) (v := undef) (a' := ?_) #[true, true, true, true, true, true, true, true, true, true, true, true, true, true, true, true, true, true, true, true, true, true, true, true, true, true, true, true, true, true, false, false, false] rfl rfl (any_of HT_.out (by kernel_rfl)) (fun _ _ _ h => h) (Or.inr ⟨by rfl, rfl⟩) ?_ ?_
                        rotate_left
                        · simp only [Act.put, List.setIfInBounds_toArray, List.set_cons_zero, List.set_cons_succ, i64_w, i32_w]
                          rfl
                        refine pure_ (i := 30) (N := some 54) (v := undef) (a' := ?_) #[true, true, true, true, true, true, true, true, true, true, true, true, true, true, true, true, true, true, true, true, true, true, true, true, true, true, true, true, true, true, true, false, false] rfl rfl (any_of HT_.out (by kernel_rfl)) (fun _ _ _ h => h) (Or.inr ⟨by rfl, rfl⟩) ?_ ?_
                        rotate_left
                        · simp only [Act.put, List.setIfInBounds_toArray, List.set_cons_zero, List.set_cons_succ, i64_w, i32_w]
                          rfl
                        refine pure_ (i := 31) (N := some 55) (v := undef) (a' := ?_) #[true, true, true, true, true, true, true, true, true, true, true, true, true, true, true, true, true, true, true, true, true, true, true, true, true, true, true, true, true, true, true, true, false] rfl rfl (any_of HT_.out (by kernel_rfl)) (fun _ _ _ h => h) (Or.inr ⟨by rfl, rfl⟩) ?_ ?_
                        rotate_left
                        · simp only [Act.put, List.setIfInBounds_toArray, List.set_cons_zero, List.set_cons_succ, i64_w, i32_w]
                          rfl
                        refine pure_ (i := 32) (N := some 56) (v := ?_) (a' := ?_) #[true, true, true, true, true, true, true, true, true, true, true, true, true, true, true, true, true, true, true, true, true, true, true, true, true, true, true, true, true, true, true, true, true] rfl rfl (any_of HT_.out (by kernel_rfl)) (fun _ _ _ h => h) (Or.inl ⟨by rfl, ?_⟩) ?_ ?_
                        rotate_left
                        · intro w'
                          go_simp
                          with_reducible rfl
                        rotate_left
                        · simp only [Act.put, List.setIfInBounds_toArray, List.set_cons_zero, List.set_cons_succ, i64_w, i32_w]
                          rfl
                        refine done_ (done_of HT_.out (by kernel_rfl)) ?_
                        try go_wp2
                        go_ret
                        exact ⟨by first | rfl | (simp [errW_none, errW_some] <;> rfl) | (simp [*, errW_none, errW_some] <;> rfl), by repeat (first | (with_reducible first | exact HB.out | apply below_alloc | apply pw_below_drewN | apply below_drew1 | refine below_set ?_ GE853.out) | exact HB.out)⟩
                    · rw [if_neg c21] at H
                      exact absurd H (by simp)
                  · replace c20 := Bool.eq_false_iff.mpr c20
                    subst c20
                    have H1 : (if x3_2 < (l0_1.length : Int) then (if (!(((rd_TimplWindow l0_1 x3_2).f0) == 0) || (!(((rd_TimplWindow l0_1 x3_2).f1) == 0) || (!(((rd_TimplWindow l0_1 x3_2).f2) == 0) || (!(((rd_TimplWindow l0_1 x3_2).f3) == 0))))) = true then (some false) else (spec_l11Machine.l0 k2 (wrap64 (x3_2 + 1)) l0_0 l0_1 l0_2)) else (none)) = some r := by rw [if_neg (show ¬ (false = true) by decide)] at H; exact H
                    clear H
                    have H := H1
                    clear H1
                    by_cases c28 : x3_2 < (l0_1.length : Int)
                    · rw [if_pos c28] at H
                      have c28b0 : decide (x3_2 < (l0_1.length : Int)) = true := decide_eq_true c28
                      clear c28
                      by_cases c29 : (!(((rd_TimplWindow l0_1 x3_2).f0) == 0) || (!(((rd_TimplWindow l0_1 x3_2).f1) == 0) || (!(((rd_TimplWindow l0_1 x3_2).f2) == 0) || (!(((rd_TimplWindow l0_1 x3_2).f3) == 0))))) = true
                      · rw [if_pos c29] at H
                        have c29b0 : (!(((rd_TimplWindow l0_1 x3_2).f0) == 0) || (!(((rd_TimplWindow l0_1 x3_2).f1) == 0) || (!(((rd_TimplWindow l0_1 x3_2).f2) == 0) || (!(((rd_TimplWindow l0_1 x3_2).f3) == 0))))) = true := c29
                        clear c29
                        obtain rfl := Option.some.inj H
                        try go_wp2
                        have n0_ := Aside0.mk (blk_drew BK853.out)
                        have n1_ := Aside0.mk (below_drew1 HB.out)
                        clear BK853
                        clear HB
                        have BK853 := n0_
                        have HB := n1_
                        clear n0_ n1_
                        have p855 : 0 ≤ (x3_2 : Int) := of_decide_eq_true (by first | (with_reducible assumption) | assumption)
                        have q855 : x3_2 < (l0_2.length : Int) := of_decide_eq_true (by first | (with_reducible assumption) | assumption)
                        obtain ⟨ad855, e855, hx855_0⟩ := Kd.at_bool HR0_2.out x3_2 p855 q855
                        have hw855_0 := hx855_0
                        (try rw [← Nbq19.out] at hx855_0)
                        cases e855
                        replace hx855_0 := (HB.out.cell (World.block_lt_of_cell? w _ hx855_0)).trans hx855_0
                        replace p855 := eq_true p855
                        replace q855 := eq_true q855
                        have p859 : 0 ≤ (x3_2 : Int) := of_decide_eq_true (by first | (with_reducible assumption) | assumption)
                        have q859 : x3_2 < (l0_2.length : Int) := of_decide_eq_true (by first | (with_reducible assumption) | assumption)
                        obtain ⟨ad859, e859, hx859_0⟩ := Kd.at_bool HR0_2.out x3_2 p859 q859
                        have hw859_0 := hx859_0
                        (try rw [← Nbq19.out] at hx859_0)
                        obtain rfl : ad855 = ad859 := (by injection e859)
                        replace hx859_0 := (HB.out.cell (World.block_lt_of_cell? w _ hx859_0)).trans hx859_0
                        replace p859 := eq_true p859
                        replace q859 := eq_true q859
                        have p860 : 0 ≤ (x3_2 : Int) := of_decide_eq_true (by first | (with_reducible assumption) | assumption)
                        have q860 : x3_2 < (l0_1.length : Int) := of_decide_eq_true (by first | (with_reducible assumption) | assumption)
                        obtain ⟨ad860, e860, hx860_0, hx860_1, hx860_2, hx860_3⟩ := at_TimplWindow HR0_1.out x3_2 p860 q860
                        have hw860_3 := hx860_3
                        have hw860_2 := hx860_2
                        have hw860_1 := hx860_1
                        have hw860_0 := hx860_0
                        cases e860
                        replace hx860_0 := (HB.out.cell (World.block_lt_of_cell? w _ hx860_0)).trans hx860_0
                        replace hx860_1 := (HB.out.cell (World.block_lt_of_cell? w _ hx860_1)).trans hx860_1
                        replace hx860_2 := (HB.out.cell (World.block_lt_of_cell? w _ hx860_2)).trans hx860_2
                        replace hx860_3 := (HB.out.cell (World.block_lt_of_cell? w _ hx860_3)).trans hx860_3
                        replace p860 := eq_true p860
                        replace q860 := eq_true q860
                        refine start_ (n := 33) (S := fun w' => w'.cell? ⟨gb853, 0, none⟩ = some (.slice A0_0 l0_0.length c0_0) ∧ w'.cell? ⟨gb853, 1, none⟩ = some (.slice (some ad860) l0_1.length c0_1) ∧ w'.cell? ⟨gb853, 2, none⟩ = some (.slice (some ad855) l0_2.length c0_2) ∧ w'.cell? (ad855.add (x3_2).toNat) = some (.bool false) ∧ w'.cell? (ad855.add (x3_2).toNat) = some (.bool (false)) ∧ w'.cell? (ad860.add ((x3_2).toNat * 4)) = some (.int .i64 ((rd_TimplWindow l0_1 x3_2).f0)) ∧ w'.cell? ⟨(ad860.add ((x3_2).toNat * 4)).block, (ad860.add ((x3_2).toNat * 4)).off + 1, none⟩ = some (.int .i64 ((rd_TimplWindow l0_1 x3_2).f1)) ∧ w'.cell? ⟨(ad860.add ((x3_2).toNat * 4)).block, (ad860.add ((x3_2).toNat * 4)).off + 2, none⟩ = some (.int .i64 ((rd_TimplWindow l0_1 x3_2).f2)) ∧ w'.cell? ⟨(ad860.add ((x3_2).toNat * 4)).block, (ad860.add ((x3_2).toNat * 4)).off + 3, none⟩ = some (.int .i64 ((rd_TimplWindow l0_1 x3_2).f3))) (ds := []) #[false, false, false, false, false, false, false, false, false, false, false, false, false, false, false, false, false, false, false, false, false, false, false, false, false, false, false, false, false, false, false, false, false] (by kernel_rfl) rfl rfl ⟨(blk_cell BK853.out 0).trans rfl, (blk_cell BK853.out 1).trans rfl, (blk_cell BK853.out 2).trans rfl, (by have h_ := ((HB.out.cell (World.block_lt_of_cell? w _ hw855_0)).trans hw855_0); first | exact h_ | (simp only [*] at h_; exact h_) | (simp [*]; done) | (rw [← Nbq19.out] at h_; exact h_)), (by have h_ := ((HB.out.cell (World.block_lt_of_cell? w _ hw859_0)).trans hw859_0); first | exact h_ | (simp only [*] at h_; exact h_) | (simp [*]; done) | (rw [← Nbq19.out] at h_; exact h_)), (by have h_ := ((HB.out.cell (World.block_lt_of_cell? w _ hw860_0)).trans hw860_0); first | exact h_ | (simp only [*] at h_; exact h_) | (simp [*]; done) | (rw [← Nbq19.out] at h_; exact h_)), (by have h_ := ((HB.out.cell (World.block_lt_of_cell? w _ hw860_1)).trans hw860_1); first | exact h_ | (simp only [*] at h_; exact h_) | (simp [*]; done) | (rw [← Nbq19.out] at h_; exact h_)), (by have h_ := ((HB.out.cell (World.block_lt_of_cell? w _ hw860_2)).trans hw860_2); first | exact h_ | (simp only [*] at h_; exact h_) | (simp [*]; done) | (rw [← Nbq19.out] at h_; exact h_)), (by have h_ := ((HB.out.cell (World.block_lt_of_cell? w _ hw860_3)).trans hw860_3); first | exact h_ | (simp only [*] at h_; exact h_) | (simp [*]; done) | (rw [← Nbq19.out] at h_; exact h_))⟩ (fun hHeld => ?_); refine with_tabW spec_l11Machine.tab6 spec_l11Machine.bits6 (fun HT_ HW_ => ?_)
                        generalize wr.drew = w30 at BK853 HB hx855_0 hx859_0 hx860_0 hx860_1 hx860_2 hx860_3 hHeld ⊢
                        refine pure_ (i := 0) (N := some 24) (v := ?_) (a' := ?_) #[true, false, false, false, false, false, false, false, false, false, false, false, false, false, false, false, false, false, false, false, false, false, false, false, false, false, false, false, false, false, false, false, false] rfl rfl (any_of HT_.out (by kernel_rfl)) (fun _ _ _ h => h) (Or.inl ⟨by rfl, ?_⟩) ?_ ?_
                        rotate_left
                        · intro w'
                          go_simp
                          with_reducible rfl
                        rotate_left
                        · simp only [Act.put, List.setIfInBounds_toArray, List.set_cons_zero, List.set_cons_succ, i64_w, i32_w]
                          rfl
                        refine pure_ (i := 2) (N := some 26) (v := ?_) (a' := ?_) #[true, false, true, false, false, false, false, false, false, false, false, false, false, false, false, false, false, false, false, false, false, false, false, false, false, false, false, false, false, false, false, false, false] rfl rfl (any_of HT_.out (by kernel_rfl)) (fun _ _ _ h => h) (Or.inl ⟨by rfl, ?_⟩) ?_ ?_
                        rotate_left
                        · intro w'
                          go_simp
                          with_reducible rfl
                        rotate_left
                        · simp only [Act.put, List.setIfInBounds_toArray, List.set_cons_zero, List.set_cons_succ, i64_w, i32_w]
                          rfl
                        refine take_ (i := 1) (N := some 25) (v := ?_) (a' := ?_) #[true, true, true, false, false, false, false, false, false, false, false, false, false, false, false, false, false, false, false, false, false, false, false, false, false, false, false, false, false, false, false, false, false] rfl rfl (take_ofW HT_.out HW_.out (by kernel_rfl)) (fun _ _ _ h => h) (Or.inl ⟨by rfl, ?_⟩) hHeld ?_ ?_
                        rotate_left
                        · rintro w' ⟨s0, s1, s2, s3, s4, s5, s6, s7, s8⟩
                          go_simp
                          with_reducible rfl
                        rotate_left
                        · simp only [Act.put, List.setIfInBounds_toArray, List.set_cons_zero, List.set_cons_succ, i64_w, i32_w]
                          rfl
                        refine pure_ (i := 3) (N := some 27) (v := ?_) (a' := ?_) #[true, true, true, true, false, false, false, false, false, false, false, false, false, false, false, false, false, false, false, false, false, false, false, false, false, false, false, false, false, false, false, false, false] rfl rfl (any_of HT_.out (by kernel_rfl)) (fun _ _ _ h => h) (Or.inl ⟨by rfl, ?_⟩) ?_ ?_
                        rotate_left
                        · intro w'
                          go_simp
                          with_reducible rfl
                        rotate_left
                        · simp only [Act.put, List.setIfInBounds_toArray, List.set_cons_zero, List.set_cons_succ, i64_w, i32_w]
                          rfl
                        refine take_ (i := 4) (N := some 28) (v := ?_) (a' := ?_) #[true, true, true, true, true, false, false, false, false, false, false, false, false, false, false, false, false, false, false, false, false, false, false, false, false, false, false, false, false, false, false, false, false] rfl rfl (take_ofW HT_.out HW_.out (by kernel_rfl)) (fun _ _ _ h => h) (Or.inl ⟨by rfl, ?_⟩) hHeld ?_ ?_
                        rotate_left
                        · rintro w' ⟨s0, s1, s2, s3, s4, s5, s6, s7, s8⟩
                          go_simp
                          with_reducible rfl
                        rotate_left
                        · simp only [Act.put, List.setIfInBounds_toArray, List.set_cons_zero, List.set_cons_succ, i64_w, i32_w]
                          rfl
                        refine pure_ (i := 5) (N := some 29) (v := ?_) (a' := ?_) #[true, true, true, true, true, true, false, false, false, false, false, false, false, false, false, false, false, false, false, false, false, false, false, false, false, false, false, false, false, false, false, false, false] rfl rfl (any_of HT_.out (by kernel_rfl)) (fun _ _ _ h => h) (Or.inl ⟨by rfl, ?_⟩) ?_ ?_
                        rotate_left
                        · intro w'
                          go_simp
                          with_reducible rfl
                        rotate_left
                        · simp only [Act.put, List.setIfInBounds_toArray, List.set_cons_zero, List.set_cons_succ, i64_w, i32_w]
                          rfl
                        refine pure_ (i := 6) (N := some 30) (v := undef) (a' := ?_) #[true, true, true, true, true, true, true, false, false, false, false, false, false, false, false, false, false, false, false, false, false, false, false, false, false, false, false, false, false, false, false, false, false] rfl rfl (any_of HT_.out (by kernel_rfl)) (fun _ _ _ h => h) (Or.inr ⟨by rfl, rfl⟩) ?_ ?_
                        rotate_left
                        · simp only [Act.put, List.setIfInBounds_toArray, List.set_cons_zero, List.set_cons_succ, i64_w, i32_w]
                          rfl
                        refine pure_ (i := 7) (N := some 31) (v := undef) (a' := ?_) #[true, true, true, true, true, true, true, true, false, false, false, false, false, false, false, false, false, false, false, false, false, false, false, false, false, false, false, false, false, false, false, false, false] rfl rfl (any_of HT_.out (by kernel_rfl)) (fun _ _ _ h => h) (Or.inr ⟨by rfl, rfl⟩) ?_ ?_
                        rotate_left
                        · simp only [Act.put, List.setIfInBounds_toArray, List.set_cons_zero, List.set_cons_succ, i64_w, i32_w]
                          rfl
                        refine pure_ (i := 8) (N := some 32) (v := undef) (a' := ?_) #[true, true, true, true, true, true, true, true, true, false, false, false, false, false, false, false, false, false, false, false, false, false, false, false, false, false, false, false, false, false, false, false, false] rfl rfl (any_of HT_.out (by kernel_rfl)) (fun _ _ _ h => h) (Or.inr ⟨by rfl, rfl⟩) ?_ ?_
                        rotate_left
                        · simp only [Act.put, List.setIfInBounds_toArray, List.set_cons_zero, List.set_cons_succ, i64_w, i32_w]
                          rfl
                        refine pure_ (i := 9) (N := some 33) (v := undef) (a' := ?_) #[true, true, true, true, true, true, true, true, true, true, false, false, false, false, false, false, false, false, false, false, false, false, false, false, false, false, false, false, false, false, false, false, false] rfl rfl (any_of HT_.out (by kernel_rfl)) (fun _ _ _ h => h) (Or.inr ⟨by rfl, rfl⟩) ?_ ?_
                        rotate_left
                        · simp only [Act.put, List.setIfInBounds_toArray, List.set_cons_zero, List.set_cons_succ, i64_w, i32_w]
                          rfl
                        refine pure_ (i := 10) (N := some 34) (v := undef) (a' := ?_) #[true, true, true, true, true, true, true, true, true, true, true, false, false, false, false, false, false, false, false, false, false, false, false, false, false, false, false, false, false, false, false, false, false] rfl rfl (any_of HT_.out (by kernel_rfl)) (fun _ _ _ h => h) (Or.inr ⟨by rfl, rfl⟩) ?_ ?_
                        rotate_left
                        · simp only [Act.put, List.setIfInBounds_toArray, List.set_cons_zero, List.set_cons_succ, i64_w, i32_w]
                          rfl
                        refine pure_ (i := 11) (N := some 35) (v := undef) (a' := ?_) #[true, true, true, true, true, true, true, true, true, true, true, true, false, false, false, false, false, false, false, false, false, false, false, false, false, false, false, false, false, false, false, false, false] rfl rfl (any_of HT_.out (by kernel_rfl)) (fun _ _ _ h => h) (Or.inr ⟨by rfl, rfl⟩) ?_ ?_
                        rotate_left
                        · simp only [Act.put, List.setIfInBounds_toArray, List.set_cons_zero, List.set_cons_succ, i64_w, i32_w]
                          rfl
                        refine pure_ (i := 12) (N := some 36) (v := undef) (a' := ?_) #[true, true, true, true, true, true, true, true, true, true, true, true, true, false, false, false, false, false, false, false, false, false, false, false, false, false, false, false, false, false, false, false, false] rfl rfl (any_of HT_.out (by kernel_rfl)) (fun _ _ _ h => h) (Or.inr ⟨by rfl, rfl⟩) ?_ ?_
                        rotate_left
                        · simp only [Act.put, List.setIfInBounds_toArray, List.set_cons_zero, List.set_cons_succ, i64_w, i32_w]
                          rfl
                        refine pure_ (i := 13) (N := some 37) (v := undef) (a' := ?_) #[true, true, true, true, true, true, true, true, true, true, true, true, true, true, false, false, false, false, false, false, false, false, false, false, false, false, false, false, false, false, false, false, false] rfl rfl (any_of HT_.out (by kernel_rfl)) (fun _ _ _ h => h) (Or.inr ⟨by rfl, rfl⟩) ?_ ?_
                        rotate_left
                        · simp only [Act.put, List.setIfInBounds_toArray, List.set_cons_zero, List.set_cons_succ, i64_w, i32_w]
                          rfl
                        refine pure_ (i := 14) (N := some 38) (v := undef) (a' := ?_) #[true, true, true, true, true, true, true, true, true, true, true, true, true, true, true, false, false, false, false, false, false, false, false, false, false, false, false, false, false, false, false, false, false] rfl rfl (any_of HT_.out (by kernel_rfl)) (fun _ _ _ h => h) (Or.inr ⟨by rfl, rfl⟩) ?_ ?_
                        rotate_left
                        · simp only [Act.put, List.setIfInBounds_toArray, List.set_cons_zero, List.set_cons_succ, i64_w, i32_w]
                          rfl
                        refine pure_ (i := 15) (N := some 39) (v := ?_) (a' := ?_) #[true, true, true, true, true, true, true, true, true, true, true, true, true, true, true, true, false, false, false, false, false, false, false, false, false, false, false, false, false, false, false, false, false] rfl rfl (any_of HT_.out (by kernel_rfl)) (fun _ _ _ h => h) (Or.inl ⟨by rfl, ?_⟩) ?_ ?_
                        rotate_left
                        · intro w'
                          go_simp
                          with_reducible rfl
                        rotate_left
                        · simp only [Act.put, List.setIfInBounds_toArray, List.set_cons_zero, List.set_cons_succ, i64_w, i32_w]
                          rfl
                        refine pure_ (i := 16) (N := some 40) (v := ?_) (a' := ?_) #[true, true, true, true, true, true, true, true, true, true, true, true, true, true, true, true, true, false, false, false, false, false, false, false, false, false, false, false, false, false, false, false, false] rfl rfl (any_of HT_.out (by kernel_rfl)) (fun _ _ _ h => h) (Or.inl ⟨by rfl, ?_⟩) ?_ ?_
                        rotate_left
                        · intro w'
                          go_simp
                          with_reducible rfl
                        rotate_left
                        · simp only [Act.put, List.setIfInBounds_toArray, List.set_cons_zero, List.set_cons_succ, i64_w, i32_w]
                          rfl
                        refine pure_ (i := 17) (N := some 41) (v := ?_) (a' := ?_) #[true, true, true, true, true, true, true, true, true, true, true, true, true, true, true, true, true, true, false, false, false, false, false, false, false, false, false, false, false, false, false, false, false] rfl rfl (any_of HT_.out (by kernel_rfl)) (fun _ _ _ h => h) (Or.inl ⟨by rfl, ?_⟩) ?_ ?_
                        rotate_left
                        · intro w'
                          go_simp
                          with_reducible rfl
                        rotate_left
                        · simp only [Act.put, List.setIfInBounds_toArray, List.set_cons_zero, List.set_cons_succ, i64_w, i32_w]
                          rfl
                        refine pure_ (i := 19) (N := some 43) (v := ?_) (a' := ?_) #[true, true, true, true, true, true, true, true, true, true, true, true, true, true, true, true, true, true, false, true, false, false, false, false, false, false, false, false, false, false, false, false, false] rfl rfl (any_of HT_.out (by kernel_rfl)) (fun _ _ _ h => h) (Or.inl ⟨by rfl, ?_⟩) ?_ ?_
                        rotate_left
                        · intro w'
                          go_simp
                          with_reducible rfl
                        rotate_left
                        · simp only [Act.put, List.setIfInBounds_toArray, List.set_cons_zero, List.set_cons_succ, i64_w, i32_w]
                          rfl
                        refine take_ (i := 18) (N := some 42) (v := ?_) (a' := ?_) #[true, true, true, true, true, true, true, true, true, true, true, true, true, true, true, true, true, true, true, true, false, false, false, false, false, false, false, false, false, false, false, false, false] rfl rfl (take_ofW HT_.out HW_.out (by kernel_rfl)) (fun _ _ _ h => h) (Or.inl ⟨by rfl, ?_⟩) hHeld ?_ ?_
                        rotate_left
                        · rintro w' ⟨s0, s1, s2, s3, s4, s5, s6, s7, s8⟩
                          go_simp
                          with_reducible rfl
                        rotate_left
                        · simp only [Act.put, List.setIfInBounds_toArray, List.set_cons_zero, List.set_cons_succ, i64_w, i32_w]
                          rfl
                        refine pure_ (i := 20) (N := some 44) (v := ?_) (a' := ?_) #[true, true, true, true, true, true, true, true, true, true, true, true, true, true, true, true, true, true, true, true, true, false, false, false, false, false, false, false, false, false, false, false, false] rfl rfl (any_of HT_.out (by kernel_rfl)) (fun _ _ _ h => h) (Or.inl ⟨by rfl, ?_⟩) ?_ ?_
                        rotate_left
                        · intro w'
                          go_simp
                          with_reducible rfl
                        rotate_left
                        · simp only [Act.put, List.setIfInBounds_toArray, List.set_cons_zero, List.set_cons_succ, i64_w, i32_w]
                          rfl
                        refine take_ (i := 21) (N := some 45) (v := ?_) (a' := ?_) #[true, true, true, true, true, true, true, true, true, true, true, true, true, true, true, true, true, true, true, true, true, true, false, false, false, false, false, false, false, false, false, false, false] rfl rfl (take_ofW HT_.out HW_.out (by kernel_rfl)) (fun _ _ _ h => h) (Or.inl ⟨by rfl, ?_⟩) hHeld ?_ ?_
                        rotate_left
                        · rintro w' ⟨s0, s1, s2, s3, s4, s5, s6, s7, s8⟩
                          go_simp
                          with_reducible rfl
                        rotate_left
                        · simp only [Act.put, List.setIfInBounds_toArray, List.set_cons_zero, List.set_cons_succ, i64_w, i32_w]
                          rfl
                        refine pure_ (i := 22) (N := some 46) (v := ?_) (a' := ?_) #[true, true, true, true, true, true, true, true, true, true, true, true, true, true, true, true, true, true, true, true, true, true, true, false, false, false, false, false, false, false, false, false, false] rfl rfl (any_of HT_.out (by kernel_rfl)) (fun _ _ _ h => h) (Or.inl ⟨by rfl, ?_⟩) ?_ ?_
                        rotate_left
                        · intro w'
                          go_simp
                          with_reducible rfl
                        rotate_left
                        · simp only [Act.put, List.setIfInBounds_toArray, List.set_cons_zero, List.set_cons_succ, i64_w, i32_w]
                          rfl
                        refine pure_ (i := 23) (N := some 47) (v := ?_) (a' := ?_) #[true, true, true, true, true, true, true, true, true, true, true, true, true, true, true, true, true, true, true, true, true, true, true, true, false, false, false, false, false, false, false, false, false] rfl rfl (any_of HT_.out (by kernel_rfl)) (fun _ _ _ h => h) (Or.inl ⟨by rfl, ?_⟩) ?_ ?_
                        rotate_left
                        · intro w'
                          go_simp
                          with_reducible rfl
                        rotate_left
                        · simp only [Act.put, List.setIfInBounds_toArray, List.set_cons_zero, List.set_cons_succ, i64_w, i32_w]
                          rfl
                        refine pure_ (i := 24) (N := some 48) (v := ?_) (a' := ?_) #[true, true, true, true, true, true, true, true, true, true, true, true, true, true, true, true, true, true, true, true, true, true, true, true, true, false, false, false, false, false, false, false, false] rfl rfl (any_of HT_.out (by kernel_rfl)) (fun _ _ _ h => h) (Or.inl ⟨by rfl, ?_⟩) ?_ ?_
                        rotate_left
                        · intro w'
                          go_simp
                          with_reducible rfl
                        rotate_left
                        · simp only [Act.put, List.setIfInBounds_toArray, List.set_cons_zero, List.set_cons_succ, i64_w, i32_w]
                          rfl
                        refine pure_ (i := 26) (N := some 50) (v := ?_) (a' := ?_) #[true, true, true, true, true, true, true, true, true, true, true, true, true, true, true, true, true, true, true, true, true, true, true, true, true, false, true, false, false, false, false, false, false] rfl rfl (any_of HT_.out (by kernel_rfl)) (fun _ _ _ h => h) (Or.inl ⟨by rfl, ?_⟩) ?_ ?_
                        rotate_left
                        · intro w'
                          go_simp
                          with_reducible rfl
                        rotate_left
                        · simp only [Act.put, List.setIfInBounds_toArray, List.set_cons_zero, List.set_cons_succ, i64_w, i32_w]
                          rfl
                        refine pure_ (i := 29) (N := some 53) (v := ?_) (a' := ?_) #[true, true, true, true, true, true, true, true, true, true, true, true, true, true, true, true, true, true, true, true, true, true, true, true, true, false, true, false, false, true, false, false, false] rfl rfl (any_of HT_.out (by kernel_rfl)) (fun _ _ _ h => h) (Or.inl ⟨by rfl, ?_⟩) ?_ ?_
                        rotate_left
                        · intro w'
                          go_simp
                          with_reducible rfl
                        rotate_left
                        · simp only [Act.put, List.setIfInBounds_toArray, List.set_cons_zero, List.set_cons_succ, i64_w, i32_w]
                          rfl
                        refine take_ (i := 25) (N := some 49) (v := ?_) (a' := ?_) #[true, true, true, true, true, true, true, true, true, true, true, true, true, true, true, true, true, true, true, true, true, true, true, true, true, true, true, false, false, true, false, false, false] rfl rfl (take_ofW HT_.out HW_.out (by kernel_rfl)) (fun _ _ _ h => h) (Or.inl ⟨by rfl, ?_⟩) hHeld ?_ ?_
                        rotate_left
                        · rintro w' ⟨s0, s1, s2, s3, s4, s5, s6, s7, s8⟩
                          go_simp
                          with_reducible rfl
                        rotate_left
                        · simp only [Act.put, List.setIfInBounds_toArray, List.set_cons_zero, List.set_cons_succ, i64_w, i32_w]
                          rfl
                        refine pure_ (i := 27) (N := some 51) (v := ?_) (a' := ?_) #[true, true, true, true, true, true, true, true, true, true, true, true, true, true, true, true, true, true, true, true, true, true, true, true, true, true, true, true, false, true, false, false, false] rfl rfl (any_of HT_.out (by kernel_rfl)) (fun _ _ _ h => h) (Or.inl ⟨by rfl, ?_⟩) ?_ ?_
                        rotate_left
                        · intro w'
                          go_simp
                          with_reducible rfl
                        rotate_left
                        · simp only [Act.put, List.setIfInBounds_toArray, List.set_cons_zero, List.set_cons_succ, i64_w, i32_w]
                          rfl
                        refine take_ (i := 28) (N := some 52) (v := ?_) (a' := ?_) #[true, true, true, true, true, true, true, true, true, true, true, true, true, true, true, true, true, true, true, true, true, true, true, true, true, true, true, true, true, true, false, false, false] rfl rfl (take_ofW HT_.out HW_.out (by kernel_rfl)) (fun _ _ _ h => h) (Or.inl ⟨by rfl, ?_⟩) hHeld ?_ ?_
                        rotate_left
                        · rintro w' ⟨s0, s1, s2, s3, s4, s5, s6, s7, s8⟩
                          go_simp
                          with_reducible rfl
                        rotate_left
                        · simp only [Act.put, List.setIfInBounds_toArray, List.set_cons_zero, List.set_cons_succ, i64_w, i32_w]
                          rfl
                        refine pure_ (i := 30) (N := some 54) (v := ?_) (a' := ?_) #[true, true, true, true, true, true, true, true, true, true, true, true, true, true, true, true, true, true, true, true, true, true, true, true, true, true, true, true, true, true, true, false, false] rfl rfl (any_of HT_.out (by kernel_rfl)) (fun _ _ _ h => h) (Or.inl ⟨by rfl, ?_⟩) ?_ ?_
                        rotate_left
                        · intro w'
                          go_simp
                          with_reducible rfl
                        rotate_left
                        · simp only [Act.put, List.setIfInBounds_toArray, List.set_cons_zero, List.set_cons_succ, i64_w, i32_w]
                          rfl
                        refine pure_ (i := 31) (N := some 55) (v := ?_) (a' := ?_) #[true, true, true, true, true, true, true, true, true, true, true, true, true, true, true, true, true, true, true, true, true, true, true, true, true, true, true, true, true, true, true, true, false] rfl rfl (any_of HT_.out (by kernel_rfl)) (fun _ _ _ h => h) (Or.inl ⟨by rfl, ?_⟩) ?_ ?_
                        rotate_left
                        · intro w'
                          go_simp
                          with_reducible rfl
                        rotate_left
                        · simp only [Act.put, List.setIfInBounds_toArray, List.set_cons_zero, List.set_cons_succ, i64_w, i32_w]
                          rfl
                        refine pure_ (i := 32) (N := some 56) (v := ?_) (a' := ?_) #[true, true, true, true, true, true, true, true, true, true, true, true, true, true, true, true, true, true, true, true, true, true, true, true, true, true, true, true, true, true, true, true, true] rfl rfl (any_of HT_.out (by kernel_rfl)) (fun _ _ _ h => h) (Or.inl ⟨by rfl, ?_⟩) ?_ ?_
                        rotate_left
                        · intro w'
                          go_simp
                          with_reducible rfl
                        rotate_left
                        · simp only [Act.put, List.setIfInBounds_toArray, List.set_cons_zero, List.set_cons_succ, i64_w, i32_w]
                          rfl
                        refine done_ (done_of HT_.out (by kernel_rfl)) ?_
                        try go_wp2
                        go_ret
                        exact ⟨by first | rfl | (simp [errW_none, errW_some] <;> rfl) | (simp [*, errW_none, errW_some] <;> rfl), by repeat (first | (with_reducible first | exact HB.out | apply below_alloc | apply pw_below_drewN | apply below_drew1 | refine below_set ?_ GE853.out) | exact HB.out)⟩
                      · rw [if_neg c29] at H
                        have c29b0 : (!(((rd_TimplWindow l0_1 x3_2).f0) == 0) || (!(((rd_TimplWindow l0_1 x3_2).f1) == 0) || (!(((rd_TimplWindow l0_1 x3_2).f2) == 0) || (!(((rd_TimplWindow l0_1 x3_2).f3) == 0))))) = false := by simpa using c29
                        clear c29
                        have H' := Aside0.mk H
                        clear H
                        try go_wp2
                        have n0_ := Aside0.mk (blk_drew BK853.out)
                        have n1_ := Aside0.mk (below_drew1 HB.out)
                        clear BK853
                        clear HB
                        have BK853 := n0_
                        have HB := n1_
                        clear n0_ n1_
                        have p855 : 0 ≤ (x3_2 : Int) := of_decide_eq_true (by first | (with_reducible assumption) | assumption)
                        have q855 : x3_2 < (l0_2.length : Int) := of_decide_eq_true (by first | (with_reducible assumption) | assumption)
                        obtain ⟨ad855, e855, hx855_0⟩ := Kd.at_bool HR0_2.out x3_2 p855 q855
                        have hw855_0 := hx855_0
                        (try rw [← Nbq19.out] at hx855_0)
                        cases e855
                        replace hx855_0 := (HB.out.cell (World.block_lt_of_cell? w _ hx855_0)).trans hx855_0
                        replace p855 := eq_true p855
                        replace q855 := eq_true q855
                        have p859 : 0 ≤ (x3_2 : Int) := of_decide_eq_true (by first | (with_reducible assumption) | assumption)
                        have q859 : x3_2 < (l0_2.length : Int) := of_decide_eq_true (by first | (with_reducible assumption) | assumption)
                        obtain ⟨ad859, e859, hx859_0⟩ := Kd.at_bool HR0_2.out x3_2 p859 q859
                        have hw859_0 := hx859_0
                        (try rw [← Nbq19.out] at hx859_0)
                        obtain rfl : ad855 = ad859 := (by injection e859)
                        replace hx859_0 := (HB.out.cell (World.block_lt_of_cell? w _ hx859_0)).trans hx859_0
                        replace p859 := eq_true p859
                        replace q859 := eq_true q859
                        have p860 : 0 ≤ (x3_2 : Int) := of_decide_eq_true (by first | (with_reducible assumption) | assumption)
                        have q860 : x3_2 < (l0_1.length : Int) := of_decide_eq_true (by first | (with_reducible assumption) | assumption)
                        obtain ⟨ad860, e860, hx860_0, hx860_1, hx860_2, hx860_3⟩ := at_TimplWindow HR0_1.out x3_2 p860 q860
                        have hw860_3 := hx860_3
                        have hw860_2 := hx860_2
                        have hw860_1 := hx860_1
                        have hw860_0 := hx860_0
                        cases e860
                        replace hx860_0 := (HB.out.cell (World.block_lt_of_cell? w _ hx860_0)).trans hx860_0
                        replace hx860_1 := (HB.out.cell (World.block_lt_of_cell? w _ hx860_1)).trans hx860_1
                        replace hx860_2 := (HB.out.cell (World.block_lt_of_cell? w _ hx860_2)).trans hx860_2
                        replace hx860_3 := (HB.out.cell (World.block_lt_of_cell? w _ hx860_3)).trans hx860_3
                        replace p860 := eq_true p860
                        replace q860 := eq_true q860
                        refine start_ (n := 33) (S := fun w' => w'.cell? ⟨gb853, 0, none⟩ = some (.slice A0_0 l0_0.length c0_0) ∧ w'.cell? ⟨gb853, 1, none⟩ = some (.slice (some ad860) l0_1.length c0_1) ∧ w'.cell? ⟨gb853, 2, none⟩ = some (.slice (some ad855) l0_2.length c0_2) ∧ w'.cell? (ad855.add (x3_2).toNat) = some (.bool false) ∧ w'.cell? (ad855.add (x3_2).toNat) = some (.bool (false)) ∧ w'.cell? (ad860.add ((x3_2).toNat * 4)) = some (.int .i64 ((rd_TimplWindow l0_1 x3_2).f0)) ∧ w'.cell? ⟨(ad860.add ((x3_2).toNat * 4)).block, (ad860.add ((x3_2).toNat * 4)).off + 1, none⟩ = some (.int .i64 ((rd_TimplWindow l0_1 x3_2).f1)) ∧ w'.cell? ⟨(ad860.add ((x3_2).toNat * 4)).block, (ad860.add ((x3_2).toNat * 4)).off + 2, none⟩ = some (.int .i64 ((rd_TimplWindow l0_1 x3_2).f2)) ∧ w'.cell? ⟨(ad860.add ((x3_2).toNat * 4)).block, (ad860.add ((x3_2).toNat * 4)).off + 3, none⟩ = some (.int .i64 ((rd_TimplWindow l0_1 x3_2).f3))) (ds := []) #[false, false, false, false, false, false, false, false, false, false, false, false, false, false, false, false, false, false, false, false, false, false, false, false, false, false, false, false, false, false, false, false, false] (by kernel_rfl) rfl rfl ⟨(blk_cell BK853.out 0).trans rfl, (blk_cell BK853.out 1).trans rfl, (blk_cell BK853.out 2).trans rfl, (by have h_ := ((HB.out.cell (World.block_lt_of_cell? w _ hw855_0)).trans hw855_0); first | exact h_ | (simp only [*] at h_; exact h_) | (simp [*]; done) | (rw [← Nbq19.out] at h_; exact h_)), (by have h_ := ((HB.out.cell (World.block_lt_of_cell? w _ hw859_0)).trans hw859_0); first | exact h_ | (simp only [*] at h_; exact h_) | (simp [*]; done) | (rw [← Nbq19.out] at h_; exact h_)), (by have h_ := ((HB.out.cell (World.block_lt_of_cell? w _ hw860_0)).trans hw860_0); first | exact h_ | (simp only [*] at h_; exact h_) | (simp [*]; done) | (rw [← Nbq19.out] at h_; exact h_)), (by have h_ := ((HB.out.cell (World.block_lt_of_cell? w _ hw860_1)).trans hw860_1); first | exact h_ | (simp only [*] at h_; exact h_) | (simp [*]; done) | (rw [← Nbq19.out] at h_; exact h_)), (by have h_ := ((HB.out.cell (World.block_lt_of_cell? w _ hw860_2)).trans hw860_2); first | exact h_ | (simp only [*] at h_; exact h_) | (simp [*]; done) | (rw [← Nbq19.out] at h_; exact h_)), (by have h_ := ((HB.out.cell (World.block_lt_of_cell? w _ hw860_3)).trans hw860_3); first | exact h_ | (simp only [*] at h_; exact h_) | (simp [*]; done) | (rw [← Nbq19.out] at h_; exact h_))⟩ (fun hHeld => ?_); refine with_tabW spec_l11Machine.tab6 spec_l11Machine.bits6 (fun HT_ HW_ => ?_)
                        generalize wr.drew = w31 at BK853 HB hx855_0 hx859_0 hx860_0 hx860_1 hx860_2 hx860_3 hHeld ⊢
                        refine pure_ (i := 0) (N := some 24) (v := ?_) (a' := ?_) #[true, false, false, false, false, false, false, false, false, false, false, false, false, false, false, false, false, false, false, false, false, false, false, false, false, false, false, false, false, false, false, false, false] rfl rfl (any_of HT_.out (by kernel_rfl)) (fun _ _ _ h => h) (Or.inl ⟨by rfl, ?_⟩) ?_ ?_
                        rotate_left
                        · intro w'
                          go_simp
                          with_reducible rfl
                        rotate_left
                        · simp only [Act.put, List.setIfInBounds_toArray, List.set_cons_zero, List.set_cons_succ, i64_w, i32_w]
                          rfl
                        refine pure_ (i := 2) (N := some 26) (v := ?_) (a' := ?_) #[true, false, true, false, false, false, false, false, false, false, false, false, false, false, false, false, false, false, false, false, false, false, false, false, false, false, false, false, false, false, false, false, false] rfl rfl (any_of HT_.out (by kernel_rfl)) (fun _ _ _ h => h) (Or.inl ⟨by rfl, ?_⟩) ?_ ?_
                        rotate_left
                        · intro w'
                          go_simp
                          with_reducible rfl
                        rotate_left
                        · simp only [Act.put, List.setIfInBounds_toArray, List.set_cons_zero, List.set_cons_succ, i64_w, i32_w]
                          rfl
                        refine take_ (i := 1) (N := some 25) (v := ?_) (a' := ?_) #[true, true, true, false, false, false, false, false, false, false, false, false, false, false, false, false, false, false, false, false, false, false, false, false, false, false, false, false, false, false, false, false, false] rfl rfl (take_ofW HT_.out HW_.out (by kernel_rfl)) (fun _ _ _ h => h) (Or.inl ⟨by rfl, ?_⟩) hHeld ?_ ?_
                        rotate_left
                        · rintro w' ⟨s0, s1, s2, s3, s4, s5, s6, s7, s8⟩
                          go_simp
                          with_reducible rfl
                        rotate_left
                        · simp only [Act.put, List.setIfInBounds_toArray, List.set_cons_zero, List.set_cons_succ, i64_w, i32_w]
                          rfl
                        refine pure_ (i := 3) (N := some 27) (v := ?_) (a' := ?_) #[true, true, true, true, false, false, false, false, false, false, false, false, false, false, false, false, false, false, false, false, false, false, false, false, false, false, false, false, false, false, false, false, false] rfl rfl (any_of HT_.out (by kernel_rfl)) (fun _ _ _ h => h) (Or.inl ⟨by rfl, ?_⟩) ?_ ?_
                        rotate_left
                        · intro w'
                          go_simp
                          with_reducible rfl
                        rotate_left
                        · simp only [Act.put, List.setIfInBounds_toArray, List.set_cons_zero, List.set_cons_succ, i64_w, i32_w]
                          rfl
                        refine take_ (i := 4) (N := some 28) (v := ?_) (a' := ?_) #[true, true, true, true, true, false, false, false, false, false, false, false, false, false, false, false, false, false, false, false, false, false, false, false, false, false, false, false, false, false, false, false, false] rfl rfl (take_ofW HT_.out HW_.out (by kernel_rfl)) (fun _ _ _ h => h) (Or.inl ⟨by rfl, ?_⟩) hHeld ?_ ?_
                        rotate_left
                        · rintro w' ⟨s0, s1, s2, s3, s4, s5, s6, s7, s8⟩
                          go_simp
                          with_reducible rfl
                        rotate_left
                        · simp only [Act.put, List.setIfInBounds_toArray, List.set_cons_zero, List.set_cons_succ, i64_w, i32_w]
                          rfl
                        refine pure_ (i := 5) (N := some 29) (v := ?_) (a' := ?_) #[true, true, true, true, true, true, false, false, false, false, false, false, false, false, false, false, false, false, false, false, false, false, false, false, false, false, false, false, false, false, false, false, false] rfl rfl (any_of HT_.out (by kernel_rfl)) (fun _ _ _ h => h) (Or.inl ⟨by rfl, ?_⟩) ?_ ?_
                        rotate_left
                        · intro w'
                          go_simp
                          with_reducible rfl
                        rotate_left
                        · simp only [Act.put, List.setIfInBounds_toArray, List.set_cons_zero, List.set_cons_succ, i64_w, i32_w]
                          rfl
                        refine pure_ (i := 6) (N := some 30) (v := undef) (a' := ?_) #[true, true, true, true, true, true, true, false, false, false, false, false, false, false, false, false, false, false, false, false, false, false, false, false, false, false, false, false, false, false, false, false, false] rfl rfl (any_of HT_.out (by kernel_rfl)) (fun _ _ _ h => h) (Or.inr ⟨by rfl, rfl⟩) ?_ ?_
                        rotate_left
                        · simp only [Act.put, List.setIfInBounds_toArray, List.set_cons_zero, List.set_cons_succ, i64_w, i32_w]
                          rfl
                        refine pure_ (i := 7) (N := some 31) (v := undef) (a' := ?_) #[true, true, true, true, true, true, true, true, false, false, false, false, false, false, false, false, false, false, false, false, false, false, false, false, false, false, false, false, false, false, false, false, false] rfl rfl (any_of HT_.out (by kernel_rfl)) (fun _ _ _ h => h) (Or.inr ⟨by rfl, rfl⟩) ?_ ?_
                        rotate_left
                        · simp only [Act.put, List.setIfInBounds_toArray, List.set_cons_zero, List.set_cons_succ, i64_w, i32_w]
                          rfl
                        refine pure_ (i := 8) (N := some 32) (v := undef) (a' := ?_) #[true, true, true, true, true, true, true, true, true, false, false, false, false, false, false, false, false, false, false, false, false, false, false, false, false, false, false, false, false, false, false, false, false] rfl rfl (any_of HT_.out (by kernel_rfl)) (fun _ _ _ h => h) (Or.inr ⟨by rfl, rfl⟩) ?_ ?_
                        rotate_left
                        · simp only [Act.put, List.setIfInBounds_toArray, List.set_cons_zero, List.set_cons_succ, i64_w, i32_w]
                          rfl
                        refine pure_ (i := 9) (N := some 33) (v := undef) (a' := ?_) #[true, true, true, true, true, true, true, true, true, true, false, false, false, false, false, false, false, false, false, false, false, false, false, false, false, false, false, false, false, false, false, false, false] rfl rfl (any_of HT_.out (by kernel_rfl)) (fun _ _ _ h => h) (Or.inr ⟨by rfl, rfl⟩) ?_ ?_
                        rotate_left
                        · simp only [Act.put, List.setIfInBounds_toArray, List.set_cons_zero, List.set_cons_succ, i64_w, i32_w]
                          rfl
                        refine pure_ (i := 10) (N := some 34) (v := undef) (a' := ?_) #[true, true, true, true, true, true, true, true, true, true, true, false, false, false, false, false, false, false, false, false, false, false, false, false, false, false, false, false, false, false, false, false, false] rfl rfl (any_of HT_.out (by kernel_rfl)) (fun _ _ _ h => h) (Or.inr ⟨by rfl, rfl⟩) ?_ ?_
                        rotate_left
                        · simp only [Act.put, List.setIfInBounds_toArray, List.set_cons_zero, List.set_cons_succ, i64_w, i32_w]
                          rfl
                        refine pure_ (i := 11) (N := some 35) (v := undef) (a' := ?_) #[true, true, true, true, true, true, true, true, true, true, true, true, false, false, false, false, false, false, false, false, false, false, false, false, false, false, false, false, false, false, false, false, false] rfl rfl (any_of HT_.out (by kernel_rfl)) (fun _ _ _ h => h) (Or.inr ⟨by rfl, rfl⟩) ?_ ?_
                        rotate_left
                        · simp only [Act.put, List.setIfInBounds_toArray, List.set_cons_zero, List.set_cons_succ, i64_w, i32_w]
                          rfl
                        refine pure_ (i := 12) (N := some 36) (v := undef) (a' := ?_) #[true, true, true, true, true, true, true, true, true, true, true, true, true, false, false, false, false, false, false, false, false, false, false, false, false, false, false, false, false, false, false, false, false] rfl rfl (any_of HT_.out (by kernel_rfl)) (fun _ _ _ h => h) (Or.inr ⟨by rfl, rfl⟩) ?_ ?_
                        rotate_left
                        · simp only [Act.put, List.setIfInBounds_toArray, List.set_cons_zero, List.set_cons_succ, i64_w, i32_w]
                          rfl
                        refine pure_ (i := 13) (N := some 37) (v := undef) (a' := ?_) #[true, true, true, true, true, true, true, true, true, true, true, true, true, true, false, false, false, false, false, false, false, false, false, false, false, false, false, false, false, false, false, false, false] rfl rfl (any_of HT_.out (by kernel_rfl)) (fun _ _ _ h => h) (Or.inr ⟨by rfl, rfl⟩) ?_ ?_
                        rotate_left
                        · simp only [Act.put, List.setIfInBounds_toArray, List.set_cons_zero, List.set_cons_succ, i64_w, i32_w]
                          rfl
                        refine pure_ (i := 14) (N := some 38) (v := undef) (a' := ?_) #[true, true, true, true, true, true, true, true, true, true, true, true, true, true, true, false, false, false, false, false, false, false, false, false, false, false, false, false, false, false, false, false, false] rfl rfl (any_of HT_.out (by kernel_rfl)) (fun _ _ _ h => h) (Or.inr ⟨by rfl, rfl⟩) ?_ ?_
                        rotate_left
                        · simp only [Act.put, List.setIfInBounds_toArray, List.set_cons_zero, List.set_cons_succ, i64_w, i32_w]
                          rfl
                        refine pure_ (i := 15) (N := some 39) (v := ?_) (a' := ?_) #[true, true, true, true, true, true, true, true, true, true, true, true, true, true, true, true, false, false, false, false, false, false, false, false, false, false, false, false, false, false, false, false, false] rfl rfl (any_of HT_.out (by kernel_rfl)) (fun _ _ _ h => h) (Or.inl ⟨by rfl, ?_⟩) ?_ ?_
                        rotate_left
                        · intro w'
                          go_simp
                          with_reducible rfl
                        rotate_left
                        · simp only [Act.put, List.setIfInBounds_toArray, List.set_cons_zero, List.set_cons_succ, i64_w, i32_w]
                          rfl
                        refine pure_ (i := 16) (N := some 40) (v := ?_) (a' := ?_) #[true, true, true, true, true, true, true, true, true, true, true, true, true, true, true, true, true, false, false, false, false, false, false, false, false, false, false, false, false, false, false, false, false] rfl rfl (any_of HT_.out (by kernel_rfl)) (fun _ _ _ h => h) (Or.inl ⟨by rfl, ?_⟩) ?_ ?_
                        rotate_left
                        · intro w'
                          go_simp
                          with_reducible rfl
                        rotate_left
                        · simp only [Act.put, List.setIfInBounds_toArray, List.set_cons_zero, List.set_cons_succ, i64_w, i32_w]
                          rfl
                        refine pure_ (i := 17) (N := some 41) (v := ?_) (a' := ?_) #[true, true, true, true, true, true, true, true, true, true, true, true, true, true, true, true, true, true, false, false, false, false, false, false, false, false, false, false, false, false, false, false, false] rfl rfl (any_of HT_.out (by kernel_rfl)) (fun _ _ _ h => h) (Or.inl ⟨by rfl, ?_⟩) ?_ ?_
                        rotate_left
                        · intro w'
                          go_simp
                          with_reducible rfl
                        rotate_left
                        · simp only [Act.put, List.setIfInBounds_toArray, List.set_cons_zero, List.set_cons_succ, i64_w, i32_w]
                          rfl
                        refine pure_ (i := 19) (N := some 43) (v := ?_) (a' := ?_) #[true, true, true, true, true, true, true, true, true, true, true, true, true, true, true, true, true, true, false, true, false, false, false, false, false, false, false, false, false, false, false, false, false] rfl rfl (any_of HT_.out (by kernel_rfl)) (fun _ _ _ h => h) (Or.inl ⟨by rfl, ?_⟩) ?_ ?_
                        rotate_left
                        · intro w'
                          go_simp
                          with_reducible rfl
                        rotate_left
                        · simp only [Act.put, List.setIfInBounds_toArray, List.set_cons_zero, List.set_cons_succ, i64_w, i32_w]
                          rfl
                        refine take_ (i := 18) (N := some 42) (v := ?_) (a' := ?_) #[true, true, true, true, true, true, true, true, true, true, true, true, true, true, true, true, true, true, true, true, false, false, false, false, false, false, false, false, false, false, false, false, false] rfl rfl (take_ofW HT_.out HW_.out (by kernel_rfl)) (fun _ _ _ h => h) (Or.inl ⟨by rfl, ?_⟩) hHeld ?_ ?_
                        rotate_left
                        · rintro w' ⟨s0, s1, s2, s3, s4, s5, s6, s7, s8⟩
                          go_simp
                          with_reducible rfl
                        rotate_left
                        · simp only [Act.put, List.setIfInBounds_toArray, List.set_cons_zero, List.set_cons_succ, i64_w, i32_w]
                          rfl
                        refine pure_ (i := 20) (N := some 44) (v := ?_) (a' := ?_) #[true, true, true, true, true, true, true, true, true, true, true, true, true, true, true, true, true, true, true, true, true, false, false, false, false, false, false, false, false, false, false, false, false] rfl rfl (any_of HT_.out (by kernel_rfl)) (fun _ _ _ h => h) (Or.inl ⟨by rfl, ?_⟩) ?_ ?_
                        rotate_left
                        · intro w'
                          go_simp
                          with_reducible rfl
                        rotate_left
                        · simp only [Act.put, List.setIfInBounds_toArray, List.set_cons_zero, List.set_cons_succ, i64_w, i32_w]
                          rfl
                        refine take_ (i := 21) (N := some 45) (v := ?_) (a' := ?_) #[true, true, true, true, true, true, true, true, true, true, true, true, true, true, true, true, true, true, true, true, true, true, false, false, false, false, false, false, false, false, false, false, false] rfl rfl (take_ofW HT_.out HW_.out (by kernel_rfl)) (fun _ _ _ h => h) (Or.inl ⟨by rfl, ?_⟩) hHeld ?_ ?_
                        rotate_left
                        · rintro w' ⟨s0, s1, s2, s3, s4, s5, s6, s7, s8⟩
                          go_simp
                          with_reducible rfl
                        rotate_left
                        · simp only [Act.put, List.setIfInBounds_toArray, List.set_cons_zero, List.set_cons_succ, i64_w, i32_w]
                          rfl
                        refine pure_ (i := 22) (N := some 46) (v := ?_) (a' := ?_) #[true, true, true, true, true, true, true, true, true, true, true, true, true, true, true, true, true, true, true, true, true, true, true, false, false, false, false, false, false, false, false, false, false] rfl rfl (any_of HT_.out (by kernel_rfl)) (fun _ _ _ h => h) (Or.inl ⟨by rfl, ?_⟩) ?_ ?_
                        rotate_left
                        · intro w'
                          go_simp
                          with_reducible rfl
                        rotate_left
                        · simp only [Act.put, List.setIfInBounds_toArray, List.set_cons_zero, List.set_cons_succ, i64_w, i32_w]
                          rfl
                        refine pure_ (i := 23) (N := some 47) (v := ?_) (a' := ?_) #[true, true, true, true, true, true, true, true, true, true, true, true, true, true, true, true, true, true, true, true, true, true, true, true, false, false, false, false, false, false, false, false, false] rfl rfl (any_of HT_.out (by kernel_rfl)) (fun _ _ _ h => h) (Or.inl ⟨by rfl, ?_⟩) ?_ ?_
                        rotate_left
                        · intro w'
                          go_simp
                          with_reducible rfl
                        rotate_left
                        · simp only [Act.put, List.setIfInBounds_toArray, List.set_cons_zero, List.set_cons_succ, i64_w, i32_w]
                          rfl
                        refine pure_ (i := 24) (N := some 48) (v := ?_) (a' := ?_) #[true, true, true, true, true, true, true, true, true, true, true, true, true, true, true, true, true, true, true, true, true, true, true, true, true, false, false, false, false, false, false, false, false] rfl rfl (any_of HT_.out (by kernel_rfl)) (fun _ _ _ h => h) (Or.inl ⟨by rfl, ?_⟩) ?_ ?_
                        rotate_left
                        · intro w'
                          go_simp
                          with_reducible rfl
                        rotate_left
                        · simp only [Act.put, List.setIfInBounds_toArray, List.set_cons_zero, List.set_cons_succ, i64_w, i32_w]
                          rfl
                        refine pure_ (i := 26) (N := some 50) (v := ?_) (a' := ?_) #[true, true, true, true, true, true, true, true, true, true, true, true, true, true, true, true, true, true, true, true, true, true, true, true, true, false, true, false, false, false, false, false, false] rfl rfl (any_of HT_.out (by kernel_rfl)) (fun _ _ _ h => h) (Or.inl ⟨by rfl, ?_⟩) ?_ ?_
                        rotate_left
                        · intro w'
                          go_simp
                          with_reducible rfl
                        rotate_left
                        · simp only [Act.put, List.setIfInBounds_toArray, List.set_cons_zero, List.set_cons_succ, i64_w, i32_w]
                          rfl
                        refine pure_ (i := 29) (N := some 53) (v := ?_) (a' := ?_) #[true, true, true, true, true, true, true, true, true, true, true, true, true, true, true, true, true, true, true, true, true, true, true, true, true, false, true, false, false, true, false, false, false] rfl rfl (any_of HT_.out (by kernel_rfl)) (fun _ _ _ h => h) (Or.inl ⟨by rfl, ?_⟩) ?_ ?_
                        rotate_left
                        · intro w'
                          go_simp
                          with_reducible rfl
                        rotate_left
                        · simp only [Act.put, List.setIfInBounds_toArray, List.set_cons_zero, List.set_cons_succ, i64_w, i32_w]
                          rfl
                        refine take_ (i := 25) (N := some 49) (v := ?_) (a' := ?_) #[true, true, true, true, true, true, true, true, true, true, true, true, true, true, true, true, true, true, true, true, true, true, true, true, true, true, true, false, false, true, false, false, false] rfl rfl (take_ofW HT_.out HW_.out (by kernel_rfl)) (fun _ _ _ h => h) (Or.inl ⟨by rfl, ?_⟩) hHeld ?_ ?_
                        rotate_left
                        · rintro w' ⟨s0, s1, s2, s3, s4, s5, s6, s7, s8⟩
                          go_simp
                          with_reducible rfl
                        rotate_left
                        · simp only [Act.put, List.setIfInBounds_toArray, List.set_cons_zero, List.set_cons_succ, i64_w, i32_w]
                          rfl
                        refine pure_ (i := 27) (N := some 51) (v := ?_) (a' := ?_) #[true, true, true, true, true, true, true, true, true, true, true, true, true, true, true, true, true, true, true, true, true, true, true, true, true, true, true, true, false, true, false, false, false] rfl rfl (any_of HT_.out (by kernel_rfl)) (fun _ _ _ h => h) (Or.inl ⟨by rfl, ?_⟩) ?_ ?_
                        rotate_left
                        · intro w'
                          go_simp
                          with_reducible rfl
                        rotate_left
                        · simp only [Act.put, List.setIfInBounds_toArray, List.set_cons_zero, List.set_cons_succ, i64_w, i32_w]
                          rfl
                        refine take_ (i := 28) (N := some 52) (v := ?_) (a' := ?_) #[true, true, true, true, true, true, true, true, true, true, true, true, true, true, true, true, true, true, true, true, true, true, true, true, true, true, true, true, true, true, false, false, false] rfl rfl (take_ofW HT_.out HW_.out (by kernel_rfl)) (fun _ _ _ h => h) (Or.inl ⟨by rfl, ?_⟩) hHeld ?_ ?_
                        rotate_left
                        · rintro w' ⟨s0, s1, s2, s3, s4, s5, s6, s7, s8⟩
                          go_simp
                          with_reducible rfl
                        rotate_left
                        · simp only [Act.put, List.setIfInBounds_toArray, List.set_cons_zero, List.set_cons_succ, i64_w, i32_w]
                          rfl
                        refine pure_ (i := 30) (N := some 54) (v := ?_) (a' := ?_) #[true, true, true, true, true, true, true, true, true, true, true, true, true, true, true, true, true, true, true, true, true, true, true, true, true, true, true, true, true, true, true, false, false] rfl rfl (any_of HT_.out (by kernel_rfl)) (fun _ _ _ h => h) (Or.inl ⟨by rfl, ?_⟩) ?_ ?_
                        rotate_left
                        · intro w'
                          go_simp
                          with_reducible rfl
                        rotate_left
                        · simp only [Act.put, List.setIfInBounds_toArray, List.set_cons_zero, List.set_cons_succ, i64_w, i32_w]
                          rfl
                        refine pure_ (i := 31) (N := some 55) (v := ?_) (a' := ?_) #[true, true, true, true, true, true, true, true, true, true, true, true, true, true, true, true, true, true, true, true, true, true, true, true, true, true, true, true, true, true, true, true, false] rfl rfl (any_of HT_.out (by kernel_rfl)) (fun _ _ _ h => h) (Or.inl ⟨by rfl, ?_⟩) ?_ ?_
                        rotate_left
                        · intro w'
                          go_simp
                          with_reducible rfl
                        rotate_left
                        · simp only [Act.put, List.setIfInBounds_toArray, List.set_cons_zero, List.set_cons_succ, i64_w, i32_w]
                          rfl
                        refine pure_ (i := 32) (N := some 56) (v := ?_) (a' := ?_) #[true, true, true, true, true, true, true, true, true, true, true, true, true, true, true, true, true, true, true, true, true, true, true, true, true, true, true, true, true, true, true, true, true] rfl rfl (any_of HT_.out (by kernel_rfl)) (fun _ _ _ h => h) (Or.inl ⟨by rfl, ?_⟩) ?_ ?_
                        rotate_left
                        · intro w'
                          go_simp
                          with_reducible rfl
                        rotate_left
                        · simp only [Act.put, List.setIfInBounds_toArray, List.set_cons_zero, List.set_cons_succ, i64_w, i32_w]
                          rfl
                        refine done_ (done_of HT_.out (by kernel_rfl)) ?_
                        try go_wp2
                        go_roundg k2
                        case measure => have := HJ1.out; have := HK2.out; omega
                        case rel => exact ⟨(wrap64 (x3_2 + 1)), (by first | rfl | (simp; done) | (simp [*]; done)), H', ⟨by have := HJ1.out; have := HK2.out; omega⟩, ⟨by (with_reducible repeat (first | refine blk_drewN ?_ _ | refine blk_drew ?_ | refine blk_alloc ?_ _)); exact BK853.out⟩, ⟨by repeat (first | (with_reducible first | exact HB.out | apply below_alloc | apply pw_below_drewN | apply below_drew1 | refine below_set ?_ GE853.out) | exact HB.out)⟩⟩
                    · rw [if_neg c28] at H
                      exact absurd H (by simp)
                · rw [if_neg c18] at H
                  exact absurd H (by simp)
              · rw [if_neg c17] at H
                exact absurd H (by simp)
            · rw [if_neg c16] at H
              have c16b0 : decide (x3_2 < 4) = false := decide_eq_false c16
              clear c16
              obtain rfl := Option.some.inj H
              go_wp2
              go_ret
              exact ⟨by first | rfl | (simp [errW_none, errW_some] <;> rfl) | (simp [*, errW_none, errW_some] <;> rfl), by repeat (first | (with_reducible first | exact HB.out | apply below_alloc | apply pw_below_drewN | apply below_drew1 | refine below_set ?_ GE853.out) | exact HB.out)⟩

end Go.Proofs.Ytpnoakpdmojgeaa.P


/- Machines: sizes, copies, what is valid. -/
namespace Go.Proofs.Ytpnoakpdmojgeaa.P
open Go.RowKit Go.Proofs.YtpnoakpdmojgeaaW.PrintWords
set_option linter.unusedVariables false
theorem szBoolS_f (l : List Bool) (a : Int) (h0 : 0 ≤ a) (h1 : a ≤ 1048576) (hl : l.length ≤ 9223372036854775807) :
    laws_szBoolS.f l a = some (if (l.length : Int) ≤ a then a - l.length else -1) := by
  unfold laws_szBoolS.f
  rw [wrap_ok (by omega) (by omega)]
  by_cases h : (l.length : Int) ≤ a
  · rw [if_neg (by omega), if_pos h]
  · rw [if_pos (by omega), if_neg h]
theorem szMachine_f (m : List (List Int)) (l : List SlawsWindow) (s : List Bool) (a : Int) (h0 : 0 ≤ a) (h1 : a ≤ 1048576) (hl : m.length ≤ 9223372036854775807) (h3 : ∀ x ∈ m, x.length ≤ 9223372036854775807) (h4 : l.length ≤ 9223372036854775807) (h5 : s.length ≤ 9223372036854775807) :
    ∃ r, Ev (fun k => laws_szMachine.f k m l s a) r ∧ ((okM m ∧ l.length ≤ 1048576 ∧ s.length ≤ 1048576) ∧ 0 ≤ r ∧ r ≤ a ∨ r = -1) := by
  obtain ⟨r, hr, hh⟩ := szMemory_f m a h0 h1 hl h3
  rcases hh with ⟨hm, h6, h7⟩ | rfl
  · have z1 := szWindowS_f l r h6 (by omega) h4
    by_cases hc : (l.length : Int) ≤ r
    · rw [if_pos hc] at z1
      have z2 := szBoolS_f s (r - l.length) (by omega) (by omega) h5
      by_cases hd : (s.length : Int) ≤ r - l.length
      · rw [if_pos hd] at z2
        refine ⟨r - l.length - s.length, Ev.bind hr ?_, .inl ⟨⟨hm, by omega, by omega⟩, by omega, by omega⟩⟩
        simp only [if_neg (show ¬ r < 0 by omega), z1, z2, Option.bind_some, if_neg (show ¬ r - (l.length : Int) < 0 by omega), if_neg (show ¬ r - (l.length : Int) - (s.length : Int) < 0 by omega)]
        exact Ev.now _
      · rw [if_neg hd] at z2
        refine ⟨-1, Ev.bind hr ?_, .inr rfl⟩
        simp only [if_neg (show ¬ r < 0 by omega), z1, z2, Option.bind_some, if_neg (show ¬ r - (l.length : Int) < 0 by omega)]
        exact Ev.now _
    · rw [if_neg hc] at z1
      refine ⟨-1, Ev.bind hr ?_, .inr rfl⟩
      simp only [if_neg (show ¬ r < 0 by omega), z1, Option.bind_some]
      exact Ev.now _
  · refine ⟨-1, Ev.bind hr ?_, .inr rfl⟩
    rw [if_pos (by omega)]
    exact Ev.now _
theorem toBoolS_ev (suf : List Bool) : ∀ (pre zs : List Bool), zs.length = suf.length → pre.length + suf.length ≤ 4611686018427387904 →
    Ev (fun k => laws_toBoolS.l0 k (pre ++ suf) (pre ++ zs) (pre.length : Int)) (pre ++ suf) := by
  induction suf with
  | nil =>
    intro pre zs hz h2
    obtain rfl : zs = [] := List.eq_nil_of_length_eq_zero hz
    refine Ev.step (fun k => ?_) (Ev.now _)
    simp [laws_toBoolS.l0]
  | cons x suf ih =>
    intro pre zs hz h2
    obtain ⟨z, zs, rfl⟩ : ∃ z zs', zs = z :: zs' := by
      cases zs with
      | nil => simp at hz
      | cons z zs => exact ⟨z, zs, rfl⟩
    simp only [List.length_cons] at h2 hz
    refine Ev.step (f := fun k => laws_toBoolS.l0 k ((pre ++ [x]) ++ suf) ((pre ++ [x]) ++ zs) ((pre ++ [x]).length : Int)) (fun k => ?_) ?_
    · simp only [laws_toBoolS.l0]
      rw [if_pos (by simp; omega), if_pos (by omega), if_pos (by simp; omega), rdF_mid, wrap_len (by omega)]
      simp
    · have := ih (pre ++ [x]) zs (by omega) (by simp; omega)
      simpa using this
theorem toBoolS_f (l : List Bool) (h : l.length ≤ 1048576) : Ev (fun k => laws_toBoolS.f k l) l := by
  refine Ev.congr (fun k => ?_) (toBoolS_ev l [] (List.replicate l.length false) (by simp) (by simp; omega))
  unfold laws_toBoolS.f
  rw [if_pos (by omega), if_pos (by simp; omega)]
  simp
theorem toMachine_f (m : List (List Int)) (l : List SlawsWindow) (s : List Bool) (h : okM m) (hl : l.length ≤ 1048576) (hs : s.length ≤ 1048576) : Ev (fun k => laws_toMachine.f k m l s) (m, l.map winOf, s) := by
  unfold laws_toMachine.f
  simp only [toMemory_f m h, Option.bind_some]
  refine Ev.bind (toWindowS_f l hl) ?_
  exact Ev.bind (toBoolS_f s hs) (Ev.now _)
/-- A register: a window on the memory if it is set, else nothing. -/
def zeroW (x : SimplWindow) : Bool := !(!(x.f0 == 0) || (!(x.f1 == 0) || (!(x.f2 == 0) || (!(x.f3 == 0)))))
def regB (m : List (List Int)) (x : SimplWindow) (b : Bool) : Bool := if b = true then winW m x else zeroW x
def regsB (m : List (List Int)) : List SimplWindow → List Bool → Bool
  | x :: xs, b :: bs => regB m x b && regsB m xs bs
  | _, _ => true
def machB (m : List (List Int)) (l : List SimplWindow) (s : List Bool) : Bool := memB m && (decide (l.length = 4) && decide (s.length = 4)) && regsB m l s
theorem implMach_ev (m : List (List Int)) (hm : m.length ≤ 9223372036854775807) (hx : ∀ x ∈ m, x.length ≤ 9223372036854775807) (suf : List SimplWindow) : ∀ (pre : List SimplWindow) (preS sufS : List Bool), preS.length = pre.length → sufS.length = suf.length → pre.length + suf.length ≤ 1000 →
    Ev (fun k => impl_IsMachine.l0 k (pre ++ suf) ((pre ++ suf).length : Int) (pre.length : Int) m (pre ++ suf) (preS ++ sufS)) (regsB m suf sufS) := by
  induction suf with
  | nil =>
    intro pre preS sufS h1 h2 h3
    refine Ev.step (fun k => ?_) (Ev.now _)
    simp [impl_IsMachine.l0, regsB]
  | cons x suf ih =>
    intro pre preS sufS h1 h2 h3
    obtain ⟨b, sufS, rfl⟩ : ∃ b t, sufS = b :: t := by
      cases sufS with
      | nil => simp at h2
      | cons b t => exact ⟨b, t, rfl⟩
    simp only [List.length_cons] at h2 h3
    have step : ∀ k, impl_IsMachine.l0 (k + 1) (pre ++ x :: suf) ((pre ++ x :: suf).length : Int) (pre.length : Int) m (pre ++ x :: suf) (preS ++ b :: sufS) = if regB m x b = true then impl_IsMachine.l0 k ((pre ++ [x]) ++ suf) (((pre ++ [x]) ++ suf).length : Int) ((pre ++ [x]).length : Int) m ((pre ++ [x]) ++ suf) ((preS ++ [b]) ++ sufS) else some false := by
      intro k
      simp only [impl_IsMachine.l0]
      have e1 : rdOf false (preS ++ b :: sufS) (pre.length : Int) = b := by rw [← h1]; exact rdF_mid _ _ _
      rw [if_pos (by simp; omega), if_pos (by omega), if_pos (by simp; omega), if_pos (by simp; omega), e1, rdW_mid, hasWindow_f m _ _ _ _ hm hx, Option.bind_some, wrap_len (by omega)]
      cases b
      · have e2 : regB m x false = zeroW x := by simp [regB]
        rw [e2, if_neg (show ¬ (false = true) by simp)]
        unfold zeroW
        generalize (!(x.f0 == 0) || (!(x.f1 == 0) || (!(x.f2 == 0) || !(x.f3 == 0)))) = z
        cases z <;> simp
      · have e2 : regB m x true = winW m x := by simp [regB]
        rw [e2, if_pos (show true = true from rfl)]
        unfold winW
        cases winB m x.f0 x.f1 x.f2 x.f3 <;> simp
    rw [regsB]
    cases hb : regB m x b
    · rw [hb] at step
      refine Ev.step (fun k => (step k).trans (if_neg (by simp))) ?_
      rw [Bool.false_and]
      exact Ev.now _
    · rw [hb] at step
      refine Ev.step (fun k => (step k).trans (if_pos rfl)) ?_
      rw [Bool.true_and]
      exact ih (pre ++ [x]) (preS ++ [b]) sufS (by simp [h1]) (by omega) (by simp; omega)
theorem isMachine_f (m : List (List Int)) (l : List SimplWindow) (s : List Bool) (h : okM m) : Ev (fun k => impl_IsMachine.f k m l s) (machB m l s) := by
  refine Ev.bind (IsMemory_f m h.len) ?_
  unfold machB
  have jf : Ev (fun k => impl_IsMachine.j0 k true m l s) false := Ev.step (fun k => by simp [impl_IsMachine.j0]) (Ev.now _)
  cases memB m
  · simp only [Bool.false_eq_true, if_false, Bool.false_and]
    exact jf
  · simp only [if_true, Bool.true_and]
    by_cases h1 : l.length = 4
    · simp only [if_pos (show (l.length : Int) = 4 by omega), decide_eq_true h1, Bool.true_and]
      by_cases h2 : s.length = 4
      · rw [decide_eq_true h2, show ((s.length : Int) != 4) = false by simp; omega, Bool.true_and]
        refine Ev.step (f := fun k => impl_IsMachine.l0 k l (l.length : Int) 0 m l s) (fun k => by simp [impl_IsMachine.j0]) ?_
        have := implMach_ev m h.len h.rows l [] [] s rfl (by omega) (by simp; omega)
        simpa using this
      · rw [decide_eq_false h2, show ((s.length : Int) != 4) = true by simp; omega, Bool.false_and]
        exact jf
    · simp only [if_neg (show ¬ (l.length : Int) = 4 by omega), decide_eq_false h1, Bool.false_and]
      exact jf
theorem l11_ev (m : List (List Int)) (hm : m.length ≤ 9223372036854775807) (hx : ∀ x ∈ m, x.length ≤ 9223372036854775807) (hmb : memB m = true) (suf : List SimplWindow) : ∀ (pre : List SimplWindow) (preS sufS : List Bool), preS.length = pre.length → sufS.length = suf.length → pre.length + suf.length = 4 → (∀ x ∈ suf, wfW x) →
    Ev (fun k => spec_l11Machine.l0 k (pre.length : Int) m (pre ++ suf) (preS ++ sufS)) (regsB m suf sufS) := by
  induction suf with
  | nil =>
    intro pre preS sufS h1 h2 h3 h4
    refine Ev.step (fun k => ?_) (Ev.now _)
    simp only [spec_l11Machine.l0, regsB]
    rw [if_neg (by simp at h3; omega)]
  | cons x suf ih =>
    intro pre preS sufS h1 h2 h3 h4
    obtain ⟨b, sufS, rfl⟩ : ∃ b t, sufS = b :: t := by
      cases sufS with
      | nil => simp at h2
      | cons b t => exact ⟨b, t, rfl⟩
    simp only [List.length_cons] at h2 h3
    have e1 : rdOf false (preS ++ b :: sufS) (pre.length : Int) = b := by rw [← h1]; exact rdF_mid _ _ _
    have ih2 := ih (pre ++ [x]) (preS ++ [b]) sufS (by simp [h1]) (by omega) (by simp; omega) (fun y hy => h4 y (by simp [hy]))
    rw [regsB]
    cases b
    · have step : ∀ k, spec_l11Machine.l0 (k + 1) (pre.length : Int) m (pre ++ x :: suf) (preS ++ false :: sufS) = if zeroW x = true then spec_l11Machine.l0 k ((pre ++ [x]).length : Int) m ((pre ++ [x]) ++ suf) ((preS ++ [false]) ++ sufS) else some false := by
        intro k
        simp only [spec_l11Machine.l0]
        rw [if_pos (by omega), if_pos (by omega), if_pos (by simp; omega), e1, if_neg (by simp), if_pos (by simp; omega), rdW_mid, wrap_len (by omega)]
        unfold zeroW
        generalize (!(x.f0 == 0) || (!(x.f1 == 0) || (!(x.f2 == 0) || !(x.f3 == 0)))) = z
        cases z <;> simp
      have e2 : regB m x false = zeroW x := by simp [regB]
      rw [e2]
      cases hz : zeroW x
      · rw [hz] at step
        refine Ev.step (fun k => (step k).trans (if_neg (by simp))) ?_
        rw [Bool.false_and]
        exact Ev.now _
      · rw [hz] at step
        refine Ev.step (fun k => (step k).trans (if_pos rfl)) ?_
        rw [Bool.true_and]
        exact ih2
    · have e2 : regB m x true = winW m x := by simp [regB]
      rw [e2]
      refine Ev.step (f := fun k => (spec_l2Window.f k m x.f0 x.f1 x.f2 x.f3).bind fun t => if t = true then spec_l11Machine.l0 k ((pre ++ [x]).length : Int) m ((pre ++ [x]) ++ suf) ((preS ++ [true]) ++ sufS) else some false) (fun k => ?_) ?_
      · simp only [spec_l11Machine.l0]
        rw [if_pos (by omega), if_pos (by omega), if_pos (by simp; omega), e1, if_pos rfl, if_pos (by simp; omega), rdW_mid, wrap_len (by omega)]
        simp
      · refine Ev.bind (l2Window_f m x.f0 x.f1 x.f2 x.f3 hm hx (h4 x (by simp)).2.1) ?_
        rw [hmb, Bool.true_and]
        unfold winW
        cases winB m x.f0 x.f1 x.f2 x.f3
        · simp only [Bool.false_eq_true, if_false, Bool.false_and]
          exact Ev.now _
        · simp only [if_true, Bool.true_and]
          exact ih2
theorem l11Machine_f (m : List (List Int)) (l : List SimplWindow) (s : List Bool) (h : okM m) (hw : ∀ x ∈ l, wfW x) : Ev (fun k => spec_l11Machine.f k m l s) (machB m l s) := by
  refine Ev.bind (l2Memory_f m h.len) ?_
  unfold machB
  have jf : Ev (fun k => spec_l11Machine.j0 k true m l s) false := Ev.step (fun k => by simp [spec_l11Machine.j0]) (Ev.now _)
  cases hmb : memB m
  · simp only [Bool.false_eq_true, if_false, Bool.false_and]
    exact jf
  · simp only [if_true, Bool.true_and]
    by_cases h1 : l.length = 4
    · simp only [if_pos (show (l.length : Int) = 4 by omega), decide_eq_true h1, Bool.true_and]
      by_cases h2 : s.length = 4
      · rw [decide_eq_true h2, show ((s.length : Int) != 4) = false by simp; omega, Bool.true_and]
        refine Ev.step (f := fun k => spec_l11Machine.l0 k 0 m l s) (fun k => by simp [spec_l11Machine.j0]) ?_
        have := l11_ev m h.len h.rows hmb l [] [] s rfl (by omega) (by simp; omega) hw
        simpa using this
      · rw [decide_eq_false h2, show ((s.length : Int) != 4) = true by simp; omega, Bool.false_and]
        exact jf
    · simp only [if_neg (show ¬ (l.length : Int) = 4 by omega), decide_eq_false h1, Bool.false_and]
      exact jf
end Go.Proofs.Ytpnoakpdmojgeaa.P


namespace Go.Proofs.Ytpnoakpdmojgeaa.P
open Go.RowKit Go.Proofs.YtpnoakpdmojgeaaW.PrintWords Go.Proofs.YtpnoakpdmojgeaaW.PrintLast Go.Proofs.YtpnoakpdmojgeaaW.PrintMore
attribute [local go_sem] max2_int min2_int max_two min_two max_three min_three max_four min_four   -- for this text's walks alone
set_option linter.unusedVariables false
set_option linter.unusedSimpArgs false

/-! ### spec_IsMachine: function 54 -/
def spec_IsMachine.f (k : Nat) (l0_0 : List (List Int)) (l0_1 : List (SimplWindow)) (l0_2 : List Bool) : Option (Bool) := (spec_l11Machine.f k l0_0 l0_1 l0_2).bind fun t862 => (some t862)
set_option maxHeartbeats 8000000 in
set_option maxRecDepth 100000 in
theorem spec_IsMachine.calls (k : Nat) (A0_0 : Option Addr) (c0_0 : Nat) (l0_0 : List (List Int)) (A0_1 : Option Addr) (c0_1 : Nat) (l0_1 : List (SimplWindow)) (A0_2 : Option Addr) (c0_2 : Nat) (l0_2 : List Bool) (r : Bool) (w : World) (hr0_0 : Kd.C (Kd.slice 5 (Kd.int .u8)) w A0_0 l0_0.length l0_0) (hc0_0 : l0_0.length ≤ c0_0) (hr0_1 : Kd.C kimplWindow w A0_1 l0_1.length l0_1) (hc0_1 : l0_1.length ≤ c0_1) (hr0_2 : Kd.C Kd.bool w A0_2 l0_2.length l0_2) (hc0_2 : l0_2.length ≤ c0_2) (h : spec_IsMachine.f k l0_0 l0_1 l0_2 = some r) :
    Calls Try.prog 54 #[.agg #[.slice A0_0 l0_0.length c0_0, .slice A0_1 l0_1.length c0_1, .slice A0_2 l0_2.length c0_2]] w fun e w' => e = .returned (.bool r) ∧ Below w.heap.size w w' := by
  have hu88 := Try.underlying88
  have HR0_0 := Aside0.mk hr0_0
  have HC0_0 := Aside0.mk hc0_0
  clear hr0_0 hc0_0
  have HR0_1 := Aside0.mk hr0_1
  have HC0_1 := Aside0.mk hc0_1
  clear hr0_1 hc0_1
  have HR0_2 := Aside0.mk hr0_2
  have HC0_2 := Aside0.mk hc0_2
  clear hr0_2 hc0_2
  have HB := Aside0.mk (Below.refl w.heap.size w)
  have H : ((spec_l11Machine.f k l0_0 l0_1 l0_2).bind fun t862 => (some t862)) = some r := h
  clear h
  replace H := Option.bind_eq_some_iff.mp H
  obtain ⟨t862, A20, H⟩ := H
  replace H : (some t862) = some r := H
  have A2 := Aside0.mk A20
  clear A20
  obtain rfl := Option.some.inj H
  go_enter Try.func54, Try.ntmps54
  go_wp2_with (first | ((with_reducible refine gate_dst (N := 1) rfl ?_); refine box_event ?hg (N := 1) ?hd (cs := #[.slice A0_0 l0_0.length c0_0, .slice A0_1 l0_1.length c0_1, .slice A0_2 l0_2.length c0_2]) (t := 88) ?hr ?_; (case hd => rfl); (case hg => rfl); (case hr => first | (go_simp; done) | (go_simp; rfl)); intro gb861 hg w3 hbox hb; have n0_ := Aside0.mk (below_step (by repeat (first | (with_reducible first | exact HB.out | apply below_alloc | apply pw_below_drewN | apply below_drew1) | exact HB.out)) hb); have n1_ := Aside0.mk (hbox); have n2_ := Aside0.mk ((by rw [hg]; exact (below_size (by repeat (first | (with_reducible first | exact HB.out | apply below_alloc | apply pw_below_drewN | apply below_drew1) | exact HB.out))) : w.heap.size ≤ gb861)); have n3_ := Aside0.mk ((by rw [hg]; exact (below_size (by repeat (first | (with_reducible first | exact HB.out | apply below_alloc | apply pw_below_drewN | apply below_drew1) | exact HB.out))) : w.heap.size ≤ gb861)); clear HB; have HB := n0_; have BK861 := n1_; have GW861 := n2_; have GE861 := n3_; clear n0_ n1_ n2_ n3_; clear hb hbox hg; have hcz4_0 : w3.cell? ⟨gb861, 0, none⟩ = some (.slice A0_0 l0_0.length c0_0) := (blk_cell BK861.out 0).trans rfl; have hcz4_1 : w3.cell? ⟨gb861, 1, none⟩ = some (.slice A0_1 l0_1.length c0_1) := (blk_cell BK861.out 1).trans rfl; have hcz4_2 : w3.cell? ⟨gb861, 2, none⟩ = some (.slice A0_2 l0_2.length c0_2) := (blk_cell BK861.out 2).trans rfl; have hfz4_0 := blk_frozen BK861.out 0; have hfz4_1 := blk_frozen BK861.out 1; have hfz4_2 := blk_frozen BK861.out 2) | ((with_reducible refine gate_callee (f := 108) rfl ?_); refine goesL_ (some 4) rfl rfl Try.func108 (by kernel_rfl) rfl #[.agg #[.slice A0_0 l0_0.length c0_0, .slice A0_1 l0_1.length c0_1, .slice A0_2 l0_2.length c0_2]] rfl (by (try simp only [List.map_toArray, List.map_cons, List.map_nil]); first | done | rfl | (simp only [List.length_drop, List.length_take]; rfl)) ?_; (with_reducible refine (spec_l11Machine.calls k _ _ l0_0 _ _ l0_1 _ _ l0_2 t862 _ ?side1 ?side2 ?side3 ?side4 ?side5 ?side6 A2.out).mono ?_); (case side1 => repeat (first | exact (Kd.C_below HR0_0.out HB.out) | (with_reducible refine Kd.C_alloc ?_ _) | (with_reducible refine Kd.C_drewN ?_ _) | (with_reducible refine Kd.C_drew ?_))); (case side2 => exact HC0_0.out); (case side3 => repeat (first | exact (Kd.C_below HR0_1.out HB.out) | (with_reducible refine Kd.C_alloc ?_ _) | (with_reducible refine Kd.C_drewN ?_ _) | (with_reducible refine Kd.C_drew ?_))); (case side4 => exact HC0_1.out); (case side5 => repeat (first | exact (Kd.C_below HR0_2.out HB.out) | (with_reducible refine Kd.C_alloc ?_ _) | (with_reducible refine Kd.C_drewN ?_ _) | (with_reducible refine Kd.C_drew ?_))); (case side6 => exact HC0_2.out); rintro e w5 ⟨rfl, hb⟩; refine ⟨_, rfl, ?_⟩; have n0_ := Aside0.mk (blk_below (g := gb861) (o := .cells #[.slice A0_0 l0_0.length c0_0, .slice A0_1 l0_1.length c0_1, .slice A0_2 l0_2.length c0_2] 88 (0, 0)) (by (with_reducible repeat (first | refine blk_drewN ?_ _ | refine blk_drew ?_ | refine blk_alloc ?_ _)); exact BK861.out) hb); have n1_ := Aside0.mk (below_step (by repeat (first | (with_reducible first | exact HB.out | apply below_alloc | apply pw_below_drewN | apply below_drew1 | refine below_set ?_ GE861.out) | exact HB.out)) hb); clear BK861; clear HB; have BK861 := n0_; have HB := n1_; clear n0_ n1_; (try clear hb); (try clear hb2); (try clear hk); (try clear hi)))
  go_ret
  exact ⟨by first | rfl | (simp [errW_none, errW_some] <;> rfl) | (simp [*, errW_none, errW_some] <;> rfl), by repeat (first | (with_reducible first | exact HB.out | apply below_alloc | apply pw_below_drewN | apply below_drew1 | refine below_set ?_ GE861.out) | exact HB.out)⟩

end Go.Proofs.Ytpnoakpdmojgeaa.P


