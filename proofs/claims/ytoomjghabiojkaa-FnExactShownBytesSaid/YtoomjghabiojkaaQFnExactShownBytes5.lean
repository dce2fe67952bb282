/- For all arguments, impl.ShownBytes answers what spec.ShownBytes answers, leaves its arguments alone, and shares nothing of what it returns.
   The row of the law FnExactShownBytes, out of its walk. Conditions: none. -/
import Derived.Test.YtoomjghabiojkaaQFnExactShownBytes4
import Derived.Test.YtoomjghabiojkaaRows
import Derived.WalkKit
import Derived.ProofKit
import Derived.OpenShut
import Derived.ShutString
import Derived.ChangeOld
import Derived.Below
import Derived.SizedLaws
namespace Go.Proofs.Ytoomjghabiojkaa.P
open Go.RowKit Go.Proofs.YtoomjghabiojkaaW.PrintWords Go.Proofs.YtoomjghabiojkaaW.PrintLast Go.Proofs.YtoomjghabiojkaaW.PrintMore
attribute [local go_sem] max2_int min2_int max_two min_two max_three min_three max_four min_four   -- for this text's walks alone
set_option linter.unusedVariables false
set_option linter.unusedSimpArgs false

def spec_l11Shown.l0 : Nat → List (List Int) → Int → List (List Int) → List (SimplWindow) → List Bool → Option ((List (List Int)))
  | 0, _, _, _, _, _ => none
  | k + 1, x3, x4, x670000, x670001, x670002 => if x4 < 4 then (if 0 ≤ x4 then (if x4 < (x670002.length : Int) then (if rdOf false x670002 x4 = true then (if x4 < (x670001.length : Int) then ((spec_l2Bytes.f k x670000 ((rd_TimplWindow x670001 x4).f0) ((rd_TimplWindow x670001 x4).f1) ((rd_TimplWindow x670001 x4).f2) ((rd_TimplWindow x670001 x4).f3)).bind fun t675 => (if x3.length < 5864062014805 then (spec_l11Shown.l0 k (x3 ++ [t675]) (wrap64 (x4 + 1)) x670000 x670001 x670002) else (none))) else (none)) else (if x3.length < 5864062014805 then (spec_l11Shown.l0 k (x3 ++ [(([] : List Int))]) (wrap64 (x4 + 1)) x670000 x670001 x670002) else (none))) else (none)) else (none)) else (some x3)
def spec_l11Shown.f (k : Nat) (l0_0 : List (List Int)) (l0_1 : List (SimplWindow)) (l0_2 : List Bool) : Option ((List (List Int))) := spec_l11Shown.l0 k (([] : List (List Int))) 0 l0_0 l0_1 l0_2
def spec_l11Shown.T6 : Bool × List (List Nat × List Nat) := (true, [([], []), ([], []), ([1], [1]), ([], []), ([3], [3]), ([], []), ([4, 5], [4, 5]), ([6], [6]), ([2, 7], [2, 7]), ([8], [8]), ([0, 9, 8], [0, 9]), ([10, 10, 0, 1, 2, 3, 4, 5, 6, 7, 8, 9, 10], [0, 10])])
def spec_l11Shown.B6 : List Nat := [0, 0, 2, 0, 8, 0, 56, 120, 254, 510, 1023, 2047]
theorem spec_l11Shown.tab6 : rtab .any (opsOf Try.f111 6) = spec_l11Shown.T6 := by kernel_rfl
theorem spec_l11Shown.bits6 : waitsOk spec_l11Shown.T6.2 spec_l11Shown.B6 = true := by kernel_rfl
set_option maxHeartbeats 8000000 in
set_option maxRecDepth 100000 in
theorem spec_l11Shown.calls (k : Nat) (A0_0 : Option Addr) (c0_0 : Nat) (l0_0 : List (List Int)) (A0_1 : Option Addr) (c0_1 : Nat) (l0_1 : List (SimplWindow)) (A0_2 : Option Addr) (c0_2 : Nat) (l0_2 : List Bool) (r : List (List Int)) (w : World) (hr0_0 : Kd.C (Kd.slice 5 (Kd.int .u8)) w A0_0 l0_0.length l0_0) (hc0_0 : l0_0.length ≤ c0_0) (hr0_1 : Kd.C kimplWindow w A0_1 l0_1.length l0_1) (hc0_1 : l0_1.length ≤ c0_1) (hr0_2 : Kd.C Kd.bool w A0_2 l0_2.length l0_2) (hc0_2 : l0_2.length ≤ c0_2) (h : spec_l11Shown.f k l0_0 l0_1 l0_2 = some r) :
    Calls Try.prog 111 #[.agg #[.slice A0_0 l0_0.length c0_0, .slice A0_1 l0_1.length c0_1, .slice A0_2 l0_2.length c0_2]] w fun e w' => ∃ v0_ : Value, e = .returned (v0_) ∧ Kd.S (Kd.slice 5 (Kd.int .u8)) 119 w' w.heap.size (fun _ => True) v0_ r ∧ Below w.heap.size w w' := by
  have hu60 := Try.underlying60
  have hu26 := Try.underlying26
  have hu48 := Try.underlying48
  have HR0_0 := Aside0.mk hr0_0
  have HC0_0 := Aside0.mk hc0_0
  clear hr0_0 hc0_0
  have HR0_1 := Aside0.mk hr0_1
  have HC0_1 := Aside0.mk hc0_1
  clear hr0_1 hc0_1
  have HR0_2 := Aside0.mk hr0_2
  have HC0_2 := Aside0.mk hc0_2
  clear hr0_2 hc0_2
  have HB := Aside0.mk (Below.refl w.heap.size w)
  have H : (spec_l11Shown.l0 k (([] : List (List Int))) 0 l0_0 l0_1 l0_2) = some r := h
  clear h
  obtain ⟨y670, hy670⟩ : ∃ y_ : List (List Int), y_ = (([] : List (List Int))) := ⟨_, rfl⟩
  replace H : (spec_l11Shown.l0 k y670 0 l0_0 l0_1 l0_2) = some r := by first | (rw [hy670]; with_reducible exact H) | (have H2_ := (Option.bind_some _ _).symm.trans H; rw [hy670]; with_reducible exact H2_) | (have H2_ := (Option.bind_some _ _).symm.trans H; with_reducible exact H2_) | with_reducible exact H | (rw [hy670]; exact H) | exact H
  have Ny670 := Aside0.mk hy670
  clear hy670
  have H' := Aside0.mk H
  clear H
  go_enter Try.func111, Try.ntmps111
  go_wp2_with (first | ((with_reducible refine gate_dst (N := 1) rfl ?_); refine box_event ?hg (N := 1) ?hd (cs := #[.slice A0_0 l0_0.length c0_0, .slice A0_1 l0_1.length c0_1, .slice A0_2 l0_2.length c0_2]) (t := 60) ?hr ?_; (case hd => rfl); (case hg => rfl); (case hr => first | (go_simp; done) | (go_simp; rfl)); intro gb669 hg w2 hbox hb; have n0_ := Aside0.mk (below_step (by repeat (first | (with_reducible first | exact HB.out | apply below_alloc | apply pw_below_drewN | apply below_drew1) | exact HB.out)) hb); have n1_ := Aside0.mk (hbox); have n2_ := Aside0.mk ((by rw [hg]; exact (below_size (by repeat (first | (with_reducible first | exact HB.out | apply below_alloc | apply pw_below_drewN | apply below_drew1) | exact HB.out))) : w.heap.size ≤ gb669)); have n3_ := Aside0.mk ((by rw [hg]; exact (below_size (by repeat (first | (with_reducible first | exact HB.out | apply below_alloc | apply pw_below_drewN | apply below_drew1) | exact HB.out))) : w.heap.size ≤ gb669)); clear HB; have HB := n0_; have BK669 := n1_; have GW669 := n2_; have GE669 := n3_; clear n0_ n1_ n2_ n3_; clear hb hbox hg) | ((with_reducible refine gate_dst (N := 5) rfl ?_); refine Kd.S_lit (Kd.slice 5 (Kd.int .u8)) _ 119 ?hg (N := 5) ?hd (xs := ([] : List (List Int))) (inner := []) (ok := fun _ => True) (okp := fun _ => True) ?hr ?hp (fun _ hk => hk) trivial (Below.refl _ _) (Nat.le_refl _) (by simp) ?_; (case hd => rfl); (case hg => rfl); (case hr => first | (go_simp; done) | (go_simp; rfl)); (case hp => exact (Reps.none _ _)); intro v671 w3 ho4 hb hg_ hnew_; clear hg_ hnew_; (first | rw [← Ny670.out] at ho4 | (simp only [Int.reduceToNat] at ho4; rw [← Ny670.out] at ho4)); have n0_ := Aside0.mk (Kd.S_lower ho4 (below_size (by repeat (first | (with_reducible first | exact HB.out | apply below_alloc | apply pw_below_drewN | apply below_drew1 | refine below_set ?_ GE669.out) | exact HB.out)))); have n1_ := Aside0.mk (blk_below (g := gb669) (o := .cells #[.slice A0_0 l0_0.length c0_0, .slice A0_1 l0_1.length c0_1, .slice A0_2 l0_2.length c0_2] 60 (0, 0)) (by (with_reducible repeat (first | refine blk_drewN ?_ _ | refine blk_drew ?_ | refine blk_alloc ?_ _)); exact BK669.out) hb); have n2_ := Aside0.mk (below_step (by repeat (first | (with_reducible first | exact HB.out | apply below_alloc | apply pw_below_drewN | apply below_drew1 | refine below_set ?_ GE669.out) | exact HB.out)) hb); clear BK669; clear HB; have HO672 := n0_; have BK669 := n1_; have HB := n2_; clear n0_ n1_ n2_; clear hb ho4))
  go_loopg [3, 4] k (fun kq v3 v4 w' => ∃ (x3_1 : List (List Int)) (x4_1 : Int), v4 = .int .i64 x4_1 ∧ Aside0 (spec_l11Shown.l0 kq x3_1 x4_1 l0_0 l0_1 l0_2 = some r) ∧ Aside0 (kq ≤ k) ∧ Aside0 (Kd.S (Kd.slice 5 (Kd.int .u8)) 119 w' w.heap.size (fun _ => True) v3 x3_1) ∧ Aside0 (w'.heap[gb669]? = some (.cells #[(.slice A0_0 l0_0.length c0_0), (.slice A0_1 l0_1.length c0_1), (.slice A0_2 l0_2.length c0_2)] 60 (0, 0))) ∧ Aside0 (Below w.heap.size w w'))
  case atStart => exact ⟨(y670), (0), (by first | rfl | (simp; done) | (simp [*]; done)), H', ⟨Nat.le_refl _⟩, ⟨by (with_reducible repeat (first | apply Kd.S_alloc | apply Kd.S_drewN | apply Kd.S_drew)); exact HO672.out⟩, ⟨by (with_reducible repeat (first | refine blk_drewN ?_ _ | refine blk_drew ?_ | refine blk_alloc ?_ _)); exact BK669.out⟩, ⟨by repeat (first | (with_reducible first | exact HB.out | apply below_alloc | apply pw_below_drewN | apply below_drew1 | refine below_set ?_ GE669.out) | exact HB.out)⟩⟩
  case round =>
    clear H'
    try clear c1
    try clear p2
    obtain ⟨x3_1, x4_1, rfl, HA, HK1, HO_3, BK669, HB⟩ := hrel
    cases gk with
    | zero => exact absurd HA.out (by simp [spec_l11Shown.l0])
    | succ k1 =>
      have H := HA.out
      clear HA
      simp only [spec_l11Shown.l0] at H
      by_cases c5 : x4_1 < 4
      · rw [if_pos c5] at H
        have c5b0 : decide (x4_1 < 4) = true := decide_eq_true c5
        clear c5
        by_cases c6 : 0 ≤ x4_1
        · rw [if_pos c6] at H
          have c6b0 : decide (0 ≤ x4_1) = true := decide_eq_true c6
          clear c6
          by_cases c7 : x4_1 < (l0_2.length : Int)
          · rw [if_pos c7] at H
            have c7b0 : decide (x4_1 < (l0_2.length : Int)) = true := decide_eq_true c7
            clear c7
            obtain ⟨bq8, hbq8⟩ : ∃ b_ : Bool, b_ = (rdOf false l0_2 x4_1) := ⟨_, rfl⟩
            replace H : (if bq8 = true then (if x4_1 < (l0_1.length : Int) then ((spec_l2Bytes.f k1 l0_0 ((rd_TimplWindow l0_1 x4_1).f0) ((rd_TimplWindow l0_1 x4_1).f1) ((rd_TimplWindow l0_1 x4_1).f2) ((rd_TimplWindow l0_1 x4_1).f3)).bind fun t675 => (if x3_1.length < 5864062014805 then (spec_l11Shown.l0 k1 (x3_1 ++ [t675]) (wrap64 (x4_1 + 1)) l0_0 l0_1 l0_2) else (none))) else (none)) else (if x3_1.length < 5864062014805 then (spec_l11Shown.l0 k1 (x3_1 ++ [(([] : List Int))]) (wrap64 (x4_1 + 1)) l0_0 l0_1 l0_2) else (none))) = some r := by rw [← hbq8] at H; exact H
            have Nbq8 := Aside0.mk hbq8
            clear hbq8
            by_cases c9 : bq8 = true
            · subst c9
              have H1 : (if x4_1 < (l0_1.length : Int) then ((spec_l2Bytes.f k1 l0_0 ((rd_TimplWindow l0_1 x4_1).f0) ((rd_TimplWindow l0_1 x4_1).f1) ((rd_TimplWindow l0_1 x4_1).f2) ((rd_TimplWindow l0_1 x4_1).f3)).bind fun t675 => (if x3_1.length < 5864062014805 then (spec_l11Shown.l0 k1 (x3_1 ++ [t675]) (wrap64 (x4_1 + 1)) l0_0 l0_1 l0_2) else (none))) else (none)) = some r := by rw [if_pos rfl] at H; exact H
              clear H
              have H := H1
              clear H1
              by_cases c10 : x4_1 < (l0_1.length : Int)
              · rw [if_pos c10] at H
                have c10b0 : decide (x4_1 < (l0_1.length : Int)) = true := decide_eq_true c10
                clear c10
                replace H := Option.bind_eq_some_iff.mp H
                obtain ⟨t675, A110, H⟩ := H
                replace H : (if x3_1.length < 5864062014805 then (spec_l11Shown.l0 k1 (x3_1 ++ [t675]) (wrap64 (x4_1 + 1)) l0_0 l0_1 l0_2) else (none)) = some r := H
                have A11 := Aside0.mk A110
                clear A110
                by_cases c12 : x3_1.length < 5864062014805
                · rw [if_pos c12] at H
                  have LMc12 := Aside0.mk c12
                  clear c12
                  obtain ⟨y678, hy678⟩ : ∃ y_ : List (List Int), y_ = (x3_1 ++ [t675]) := ⟨_, rfl⟩
                  replace H : (spec_l11Shown.l0 k1 y678 (wrap64 (x4_1 + 1)) l0_0 l0_1 l0_2) = some r := by first | (rw [hy678]; with_reducible exact H) | (have H2_ := (Option.bind_some _ _).symm.trans H; rw [hy678]; with_reducible exact H2_) | (have H2_ := (Option.bind_some _ _).symm.trans H; with_reducible exact H2_) | with_reducible exact H | (rw [hy678]; exact H) | exact H
                  have Ny678 := Aside0.mk hy678
                  clear hy678
                  have H' := Aside0.mk H
                  clear H
                  have hcz13_0 : wr.cell? ⟨gb669, 0, none⟩ = some (.slice A0_0 l0_0.length c0_0) := (blk_cell BK669.out 0).trans rfl
                  have hcz13_1 : wr.cell? ⟨gb669, 1, none⟩ = some (.slice A0_1 l0_1.length c0_1) := (blk_cell BK669.out 1).trans rfl
                  have hcz13_2 : wr.cell? ⟨gb669, 2, none⟩ = some (.slice A0_2 l0_2.length c0_2) := (blk_cell BK669.out 2).trans rfl
                  have hfz13_0 := blk_frozen BK669.out 0
                  have hfz13_1 := blk_frozen BK669.out 1
                  have hfz13_2 := blk_frozen BK669.out 2
                  have p673 : 0 ≤ (x4_1 : Int) := of_decide_eq_true (by first | (with_reducible assumption) | assumption)
                  have q673 : x4_1 < (l0_2.length : Int) := of_decide_eq_true (by first | (with_reducible assumption) | assumption)
                  obtain ⟨ad673, e673, hx673_0⟩ := Kd.at_bool HR0_2.out x4_1 p673 q673
                  (try rw [← Nbq8.out] at hx673_0)
                  cases e673
                  replace hx673_0 := (HB.out.cell (World.block_lt_of_cell? w _ hx673_0)).trans hx673_0
                  replace p673 := eq_true p673
                  replace q673 := eq_true q673
                  try go_wp2
                  have n0_ := Aside0.mk (Kd.S_drew HO_3.out)
                  have n1_ := Aside0.mk (blk_drew BK669.out)
                  have n2_ := Aside0.mk (below_drew1 HB.out)
                  clear HO_3
                  clear BK669
                  clear HB
                  have HO_3 := n0_
                  have BK669 := n1_
                  have HB := n2_
                  clear n0_ n1_ n2_
                  have p674 : 0 ≤ (x4_1 : Int) := of_decide_eq_true (by first | (with_reducible assumption) | assumption)
                  have q674 : x4_1 < (l0_1.length : Int) := of_decide_eq_true (by first | (with_reducible assumption) | assumption)
                  obtain ⟨ad674, e674, hx674_0, hx674_1, hx674_2, hx674_3⟩ := at_TimplWindow HR0_1.out x4_1 p674 q674
                  have hw674_3 := hx674_3
                  have hw674_2 := hx674_2
                  have hw674_1 := hx674_1
                  have hw674_0 := hx674_0
                  cases e674
                  replace hx674_0 := (HB.out.cell (World.block_lt_of_cell? w _ hx674_0)).trans hx674_0
                  replace hx674_1 := (HB.out.cell (World.block_lt_of_cell? w _ hx674_1)).trans hx674_1
                  replace hx674_2 := (HB.out.cell (World.block_lt_of_cell? w _ hx674_2)).trans hx674_2
                  replace hx674_3 := (HB.out.cell (World.block_lt_of_cell? w _ hx674_3)).trans hx674_3
                  replace p674 := eq_true p674
                  replace q674 := eq_true q674
                  refine start_ (n := 12) (S := fun w' => w'.cell? ⟨gb669, 0, none⟩ = some (.slice A0_0 l0_0.length c0_0) ∧ w'.cell? ⟨gb669, 1, none⟩ = some (.slice (some ad674) l0_1.length c0_1) ∧ w'.cell? ⟨gb669, 2, none⟩ = some (.slice (some ad673) l0_2.length c0_2) ∧ w'.cell? (ad674.add ((x4_1).toNat * 4)) = some (.int .i64 ((rd_TimplWindow l0_1 x4_1).f0)) ∧ w'.cell? ⟨(ad674.add ((x4_1).toNat * 4)).block, (ad674.add ((x4_1).toNat * 4)).off + 1, none⟩ = some (.int .i64 ((rd_TimplWindow l0_1 x4_1).f1)) ∧ w'.cell? ⟨(ad674.add ((x4_1).toNat * 4)).block, (ad674.add ((x4_1).toNat * 4)).off + 2, none⟩ = some (.int .i64 ((rd_TimplWindow l0_1 x4_1).f2)) ∧ w'.cell? ⟨(ad674.add ((x4_1).toNat * 4)).block, (ad674.add ((x4_1).toNat * 4)).off + 3, none⟩ = some (.int .i64 ((rd_TimplWindow l0_1 x4_1).f3))) (ds := []) #[false, false, false, false, false, false, false, false, false, false, false, false] (by kernel_rfl) rfl rfl ⟨(blk_cell BK669.out 0).trans rfl, (blk_cell BK669.out 1).trans rfl, (blk_cell BK669.out 2).trans rfl, (by have h_ := ((HB.out.cell (World.block_lt_of_cell? w _ hw674_0)).trans hw674_0); first | exact h_ | (simp only [*] at h_; exact h_) | (simp [*]; done) | (rw [← Nbq8.out] at h_; exact h_)), (by have h_ := ((HB.out.cell (World.block_lt_of_cell? w _ hw674_1)).trans hw674_1); first | exact h_ | (simp only [*] at h_; exact h_) | (simp [*]; done) | (rw [← Nbq8.out] at h_; exact h_)), (by have h_ := ((HB.out.cell (World.block_lt_of_cell? w _ hw674_2)).trans hw674_2); first | exact h_ | (simp only [*] at h_; exact h_) | (simp [*]; done) | (rw [← Nbq8.out] at h_; exact h_)), (by have h_ := ((HB.out.cell (World.block_lt_of_cell? w _ hw674_3)).trans hw674_3); first | exact h_ | (simp only [*] at h_; exact h_) | (simp [*]; done) | (rw [← Nbq8.out] at h_; exact h_))⟩ (fun hHeld => ?_); refine with_tabW spec_l11Shown.tab6 spec_l11Shown.bits6 (fun HT_ HW_ => ?_)
                  generalize wr.drew = w14 at HO_3 BK669 HB hx674_0 hx674_1 hx674_2 hx674_3 hHeld ⊢
                  refine pure_ (i := 0) (N := some 15) (v := ?_) (a' := ?_) #[true, false, false, false, false, false, false, false, false, false, false, false] rfl rfl (any_of HT_.out (by kernel_rfl)) (fun _ _ _ h => h) (Or.inl ⟨by rfl, ?_⟩) ?_ ?_
                  rotate_left
                  · intro w'
                    go_simp
                    with_reducible rfl
                  rotate_left
                  · simp only [Act.put, List.setIfInBounds_toArray, List.set_cons_zero, List.set_cons_succ, i64_w, i32_w]
                    rfl
                  refine pure_ (i := 1) (N := some 16) (v := ?_) (a' := ?_) #[true, true, false, false, false, false, false, false, false, false, false, false] rfl rfl (any_of HT_.out (by kernel_rfl)) (fun _ _ _ h => h) (Or.inl ⟨by rfl, ?_⟩) ?_ ?_
                  rotate_left
                  · intro w'
                    go_simp
                    with_reducible rfl
                  rotate_left
                  · simp only [Act.put, List.setIfInBounds_toArray, List.set_cons_zero, List.set_cons_succ, i64_w, i32_w]
                    rfl
                  refine pure_ (i := 3) (N := some 18) (v := ?_) (a' := ?_) #[true, true, false, true, false, false, false, false, false, false, false, false] rfl rfl (any_of HT_.out (by kernel_rfl)) (fun _ _ _ h => h) (Or.inl ⟨by rfl, ?_⟩) ?_ ?_
                  rotate_left
                  · intro w'
                    go_simp
                    with_reducible rfl
                  rotate_left
                  · simp only [Act.put, List.setIfInBounds_toArray, List.set_cons_zero, List.set_cons_succ, i64_w, i32_w]
                    rfl
                  refine pure_ (i := 5) (N := some 20) (v := ?_) (a' := ?_) #[true, true, false, true, false, true, false, false, false, false, false, false] rfl rfl (any_of HT_.out (by kernel_rfl)) (fun _ _ _ h => h) (Or.inl ⟨by rfl, ?_⟩) ?_ ?_
                  rotate_left
                  · intro w'
                    go_simp
                    with_reducible rfl
                  rotate_left
                  · simp only [Act.put, List.setIfInBounds_toArray, List.set_cons_zero, List.set_cons_succ, i64_w, i32_w]
                    rfl
                  refine take_ (i := 2) (N := some 17) (v := ?_) (a' := ?_) #[true, true, true, true, false, true, false, false, false, false, false, false] rfl rfl (take_ofW HT_.out HW_.out (by kernel_rfl)) (fun _ _ _ h => h) (Or.inl ⟨by rfl, ?_⟩) hHeld ?_ ?_
                  rotate_left
                  · rintro w' ⟨s0, s1, s2, s3, s4, s5, s6⟩
                    go_simp
                    with_reducible rfl
                  rotate_left
                  · simp only [Act.put, List.setIfInBounds_toArray, List.set_cons_zero, List.set_cons_succ, i64_w, i32_w]
                    rfl
                  refine take_ (i := 4) (N := some 19) (v := ?_) (a' := ?_) #[true, true, true, true, true, true, false, false, false, false, false, false] rfl rfl (take_ofW HT_.out HW_.out (by kernel_rfl)) (fun _ _ _ h => h) (Or.inl ⟨by rfl, ?_⟩) hHeld ?_ ?_
                  rotate_left
                  · rintro w' ⟨s0, s1, s2, s3, s4, s5, s6⟩
                    go_simp
                    with_reducible rfl
                  rotate_left
                  · simp only [Act.put, List.setIfInBounds_toArray, List.set_cons_zero, List.set_cons_succ, i64_w, i32_w]
                    rfl
                  refine pure_ (i := 6) (N := some 21) (v := ?_) (a' := ?_) #[true, true, true, true, true, true, true, false, false, false, false, false] rfl rfl (any_of HT_.out (by kernel_rfl)) (fun _ _ _ h => h) (Or.inl ⟨by rfl, ?_⟩) ?_ ?_
                  rotate_left
                  · intro w'
                    go_simp
                    with_reducible rfl
                  rotate_left
                  · simp only [Act.put, List.setIfInBounds_toArray, List.set_cons_zero, List.set_cons_succ, i64_w, i32_w]
                    rfl
                  refine take_ (i := 7) (N := some 22) (v := ?_) (a' := ?_) #[true, true, true, true, true, true, true, true, false, false, false, false] rfl rfl (take_ofW HT_.out HW_.out (by kernel_rfl)) (fun _ _ _ h => h) (Or.inl ⟨by rfl, ?_⟩) hHeld ?_ ?_
                  rotate_left
                  · rintro w' ⟨s0, s1, s2, s3, s4, s5, s6⟩
                    go_simp
                    with_reducible rfl
                  rotate_left
                  · simp only [Act.put, List.setIfInBounds_toArray, List.set_cons_zero, List.set_cons_succ, i64_w, i32_w]
                    rfl
                  refine one_ (i := 8) (N := some 23) #[true, true, true, true, true, true, true, true, true, false, false, false] rfl rfl (one_of HT_.out (by kernel_rfl)) (by decide) (fun K hK => ?_)
                  refine goes_ Try.func142 (by kernel_rfl) rfl #[.agg #[.slice A0_0 l0_0.length c0_0], .agg #[.int .i64 ((rd_TimplWindow l0_1 x4_1).f0), .int .i64 ((rd_TimplWindow l0_1 x4_1).f1), .int .i64 ((rd_TimplWindow l0_1 x4_1).f2), .int .i64 ((rd_TimplWindow l0_1 x4_1).f3)]] (by rfl) rfl rfl (by (try simp only [List.map_toArray, List.map_cons, List.map_nil]); first | done | rfl | (simp only [List.length_drop, List.length_take]; rfl)) ?_
                  with_reducible refine (spec_l2Bytes.calls k1 _ _ l0_0 ((rd_TimplWindow l0_1 x4_1).f0) ((rd_TimplWindow l0_1 x4_1).f1) ((rd_TimplWindow l0_1 x4_1).f2) ((rd_TimplWindow l0_1 x4_1).f3) t675 _ ?side1 ?side2 A11.out).mono ?_
                  (case side1 => repeat (first | exact (Kd.C_below HR0_0.out HB.out) | (with_reducible refine Kd.C_alloc ?_ _) | (with_reducible refine Kd.C_drewN ?_ _) | (with_reducible refine Kd.C_drew ?_)))
                  (case side2 => exact HC0_0.out)
                  rintro e w15 ⟨v676, rfl, ho0, hb⟩
                  refine ⟨_, rfl, ?_⟩
                  have n0_ := Aside0.mk (Kd.S_elder' (by (with_reducible repeat (first | apply Kd.S_alloc | apply Kd.S_drewN | apply Kd.S_drew)); exact HO_3.out) (Kd.R_base ho0) hb)
                  have n1_ := Aside0.mk (Kd.R_lower ho0 (below_size (by repeat (first | (with_reducible first | exact HB.out | apply below_alloc | apply pw_below_drewN | apply below_drew1 | refine below_set ?_ GE669.out) | exact HB.out))))
                  have n2_ := Aside0.mk (blk_below (g := gb669) (o := .cells #[.slice A0_0 l0_0.length c0_0, .slice (some ad674) l0_1.length c0_1, .slice (some ad673) l0_2.length c0_2] 60 (0, 0)) (by (with_reducible repeat (first | refine blk_drewN ?_ _ | refine blk_drew ?_ | refine blk_alloc ?_ _)); exact BK669.out) hb)
                  have n3_ := Aside0.mk (below_step (by repeat (first | (with_reducible first | exact HB.out | apply below_alloc | apply pw_below_drewN | apply below_drew1 | refine below_set ?_ GE669.out) | exact HB.out)) hb)
                  clear HO_3
                  clear BK669
                  clear HB
                  have HO_3 := n0_
                  have HO677 := n1_
                  have BK669 := n2_
                  have HB := n3_
                  clear n0_ n1_ n2_ n3_
                  (try clear hb)
                  (try clear hb2)
                  (try clear hk)
                  (try clear hi)
                  (try clear ho0)
                  obtain ⟨Ao17, co17, eo17⟩ := Kd.R_slice HO677.out
                  (first | subst eo17 | (injection eo17 with f1_ f2_ f3_; have f4_ := f1_.symm; have f5_ := f3_.symm; clear f1_ f2_ f3_; subst f4_; subst f5_))
                  refine hK.out _ _ ⟨(blk_cell BK669.out 0).trans rfl, (blk_cell BK669.out 1).trans rfl, (blk_cell BK669.out 2).trans rfl, (by have h_ := ((HB.out.cell (World.block_lt_of_cell? w _ hw674_0)).trans hw674_0); first | exact h_ | (simp only [*] at h_; exact h_) | (simp [*]; done) | (rw [← Nbq8.out] at h_; exact h_)), (by have h_ := ((HB.out.cell (World.block_lt_of_cell? w _ hw674_1)).trans hw674_1); first | exact h_ | (simp only [*] at h_; exact h_) | (simp [*]; done) | (rw [← Nbq8.out] at h_; exact h_)), (by have h_ := ((HB.out.cell (World.block_lt_of_cell? w _ hw674_2)).trans hw674_2); first | exact h_ | (simp only [*] at h_; exact h_) | (simp [*]; done) | (rw [← Nbq8.out] at h_; exact h_)), (by have h_ := ((HB.out.cell (World.block_lt_of_cell? w _ hw674_3)).trans hw674_3); first | exact h_ | (simp only [*] at h_; exact h_) | (simp [*]; done) | (rw [← Nbq8.out] at h_; exact h_))⟩ (fun hHeld => ?_)
                  clear hK K
                  refine norm_ (a' := ?_) ?_ ?_
                  rotate_left
                  · show Act.put _ (some 23) _ = _
                    simp only [Act.put, List.setIfInBounds_toArray, List.set_cons_zero, List.set_cons_succ, i64_w, i32_w]
                    rfl
                  refine one_ (i := 9) (N := some 24) #[true, true, true, true, true, true, true, true, true, true, false, false] rfl rfl (one_of HT_.out (by kernel_rfl)) (by decide) (fun K hK => ?_)
                  refine value_ (w1 := ?_) (v := ?_) (by rfl) rfl ?_ ?_
                  rotate_left 2
                  · go_simp
                    constructor
                    · rfl
                    · rfl
                  refine hK.out _ _ ⟨(blk_cell (blk_alloc BK669.out _) 0).trans rfl, (blk_cell (blk_alloc BK669.out _) 1).trans rfl, (blk_cell (blk_alloc BK669.out _) 2).trans rfl, (World.cell?_alloc_lt _ _ _ (World.block_lt_of_cell? _ _ ((by have h_ := ((HB.out.cell (World.block_lt_of_cell? w _ hw674_0)).trans hw674_0); first | exact h_ | (simp only [*] at h_; exact h_) | (simp [*]; done) | (rw [← Nbq8.out] at h_; exact h_))))).trans ((by have h_ := ((HB.out.cell (World.block_lt_of_cell? w _ hw674_0)).trans hw674_0); first | exact h_ | (simp only [*] at h_; exact h_) | (simp [*]; done) | (rw [← Nbq8.out] at h_; exact h_))), (World.cell?_alloc_lt _ _ _ (World.block_lt_of_cell? _ _ ((by have h_ := ((HB.out.cell (World.block_lt_of_cell? w _ hw674_1)).trans hw674_1); first | exact h_ | (simp only [*] at h_; exact h_) | (simp [*]; done) | (rw [← Nbq8.out] at h_; exact h_))))).trans ((by have h_ := ((HB.out.cell (World.block_lt_of_cell? w _ hw674_1)).trans hw674_1); first | exact h_ | (simp only [*] at h_; exact h_) | (simp [*]; done) | (rw [← Nbq8.out] at h_; exact h_))), (World.cell?_alloc_lt _ _ _ (World.block_lt_of_cell? _ _ ((by have h_ := ((HB.out.cell (World.block_lt_of_cell? w _ hw674_2)).trans hw674_2); first | exact h_ | (simp only [*] at h_; exact h_) | (simp [*]; done) | (rw [← Nbq8.out] at h_; exact h_))))).trans ((by have h_ := ((HB.out.cell (World.block_lt_of_cell? w _ hw674_2)).trans hw674_2); first | exact h_ | (simp only [*] at h_; exact h_) | (simp [*]; done) | (rw [← Nbq8.out] at h_; exact h_))), (World.cell?_alloc_lt _ _ _ (World.block_lt_of_cell? _ _ ((by have h_ := ((HB.out.cell (World.block_lt_of_cell? w _ hw674_3)).trans hw674_3); first | exact h_ | (simp only [*] at h_; exact h_) | (simp [*]; done) | (rw [← Nbq8.out] at h_; exact h_))))).trans ((by have h_ := ((HB.out.cell (World.block_lt_of_cell? w _ hw674_3)).trans hw674_3); first | exact h_ | (simp only [*] at h_; exact h_) | (simp [*]; done) | (rw [← Nbq8.out] at h_; exact h_)))⟩ (fun hHeld => ?_)
                  clear hK K
                  refine norm_ (a' := ?_) ?_ ?_
                  rotate_left
                  · show Act.put _ (some 24) _ = _
                    simp only [Act.put, List.setIfInBounds_toArray, List.set_cons_zero, List.set_cons_succ, i64_w, i32_w]
                    rfl
                  refine one_ (i := 10) (N := some 25) #[true, true, true, true, true, true, true, true, true, true, true, false] rfl rfl (one_of HT_.out (by kernel_rfl)) (by decide) (fun K hK => ?_)
                  refine Kd.S_append_step (Kd.slice 5 (Kd.int .u8)) (w0 := w) w.heap.size (by rfl) (.tmp 15) (.tmp 24) 22 119 (.slice none 0 0) 24 rfl Try.underlying22 info119 rfl (by decide) (by omega) u3 x3_1 t675 [.slice Ao17 t675.length co17] (fun _ => True) (fun k_ => some k_ = (.slice Ao17 t675.length co17 : Value).ownBlock) rfl rfl ?aP (fun k_ hk_ => ((Kd.R_mono (ok' := fun k_ => ((fun _ => True)) k_ ∧ some k_ ≠ (u3 : Value).ownBlock) (Kd.R_apart' (HO677.out) (Kd.S_typed HO_3.out) (by decide)) (fun k_ hk => ⟨trivial, hk.2⟩))).1 k_ hk_.symm) ?aF ?aO ?aB ?aS ?aL ?_
                  (case aP => exact Kd.M_row (Kd.R_mono (Kd.R_tight rfl (Kd.R_mono (ok' := fun k_ => ((fun _ => True)) k_ ∧ some k_ ≠ (u3 : Value).ownBlock) (Kd.R_apart' (HO677.out) (Kd.S_typed HO_3.out) (by decide)) (fun k_ hk => ⟨trivial, hk.2⟩))) (fun _ h_ => h_)))
                  (case aB => exact (by repeat (first | (with_reducible first | exact HB.out | apply below_alloc | apply pw_below_drewN | apply below_drew1 | refine below_set ?_ GE669.out) | exact HB.out)))
                  (case aF => exact (fun _ _ => trivial))
                  (case aO => exact (by (with_reducible repeat (first | apply Kd.S_alloc | apply Kd.S_drewN | apply Kd.S_drew)); exact Kd.S_mono HO_3.out (fun k_ hk => ⟨trivial, fun e_ => hk.2 e_⟩)))
                  (case aS => exact (below_size (by repeat (first | (with_reducible first | exact HB.out | apply below_alloc | apply pw_below_drewN | apply below_drew1 | refine below_set ?_ GE669.out) | exact HB.out))))
                  (case aL => have := LMc12.out; omega)
                  intro v679 w16 ho hb hg hat
                  rw [← Ny678.out] at ho
                  have n0_ := Aside0.mk (blk_grown (g := gb669) (o := .cells #[.slice A0_0 l0_0.length c0_0, .slice (some ad674) l0_1.length c0_1, .slice (some ad673) l0_2.length c0_2] 60 (0, 0)) (by (with_reducible repeat (first | refine blk_drewN ?_ _ | refine blk_drew ?_ | refine blk_alloc ?_ _)); exact BK669.out) hg (Kd.S_ne HO_3.out BK669.out (by decide)))
                  have n1_ := Aside0.mk (hb)
                  have n2_ := Aside0.mk (ho)
                  clear BK669
                  clear HB
                  clear HO_3
                  clear HO677
                  have BK669 := n0_
                  have HB := n1_
                  have HO680 := n2_
                  clear n0_ n1_ n2_
                  clear ho hb hg hat
                  refine hK.out _ _ ⟨(blk_cell BK669.out 0).trans rfl, (blk_cell BK669.out 1).trans rfl, (blk_cell BK669.out 2).trans rfl, (by have h_ := ((HB.out.cell (World.block_lt_of_cell? w _ hw674_0)).trans hw674_0); first | exact h_ | (simp only [*] at h_; exact h_) | (simp [*]; done) | (rw [← Nbq8.out] at h_; exact h_)), (by have h_ := ((HB.out.cell (World.block_lt_of_cell? w _ hw674_1)).trans hw674_1); first | exact h_ | (simp only [*] at h_; exact h_) | (simp [*]; done) | (rw [← Nbq8.out] at h_; exact h_)), (by have h_ := ((HB.out.cell (World.block_lt_of_cell? w _ hw674_2)).trans hw674_2); first | exact h_ | (simp only [*] at h_; exact h_) | (simp [*]; done) | (rw [← Nbq8.out] at h_; exact h_)), (by have h_ := ((HB.out.cell (World.block_lt_of_cell? w _ hw674_3)).trans hw674_3); first | exact h_ | (simp only [*] at h_; exact h_) | (simp [*]; done) | (rw [← Nbq8.out] at h_; exact h_))⟩ (fun hHeld => ?_)
                  clear hK K
                  refine norm_ (a' := ?_) ?_ ?_
                  rotate_left
                  · show Act.put _ (some 25) _ = _
                    simp only [Act.put, List.setIfInBounds_toArray, List.set_cons_zero, List.set_cons_succ, i64_w, i32_w]
                    rfl
                  refine pure_ (i := 11) (N := some 3) (v := ?_) (a' := ?_) #[true, true, true, true, true, true, true, true, true, true, true, true] rfl rfl (any_of HT_.out (by kernel_rfl)) (fun _ _ _ h => h) (Or.inl ⟨by rfl, ?_⟩) ?_ ?_
                  rotate_left
                  · intro w'
                    go_simp
                    with_reducible rfl
                  rotate_left
                  · simp only [Act.put, List.setIfInBounds_toArray, List.set_cons_zero, List.set_cons_succ, i64_w, i32_w]
                    rfl
                  refine done_ (done_of HT_.out (by kernel_rfl)) ?_
                  try go_wp2
                  go_roundg k1
                  case measure => have := HK1.out; omega
                  case rel => exact ⟨(y678), (wrap64 (x4_1 + 1)), (by first | rfl | (simp; done) | (simp [*]; done)), H', ⟨by have := HK1.out; omega⟩, ⟨by (with_reducible repeat (first | apply Kd.S_alloc | apply Kd.S_drewN | apply Kd.S_drew)); exact HO680.out⟩, ⟨by (with_reducible repeat (first | refine blk_drewN ?_ _ | refine blk_drew ?_ | refine blk_alloc ?_ _)); exact BK669.out⟩, ⟨by repeat (first | (with_reducible first | exact HB.out | apply below_alloc | apply pw_below_drewN | apply below_drew1 | refine below_set ?_ GE669.out) | exact HB.out)⟩⟩
                · rw [if_neg c12] at H
                  exact absurd H (by simp)
              · rw [if_neg c10] at H
                exact absurd H (by simp)
            · replace c9 := Bool.eq_false_iff.mpr c9
              subst c9
              have H1 : (if x3_1.length < 5864062014805 then (spec_l11Shown.l0 k1 (x3_1 ++ [(([] : List Int))]) (wrap64 (x4_1 + 1)) l0_0 l0_1 l0_2) else (none)) = some r := by rw [if_neg (show ¬ (false = true) by decide)] at H; exact H
              clear H
              have H := H1
              clear H1
              obtain ⟨y681, hy681⟩ : ∃ y_ : List Int, y_ = (([] : List Int)) := ⟨_, rfl⟩
              replace H : (if x3_1.length < 5864062014805 then (spec_l11Shown.l0 k1 (x3_1 ++ [y681]) (wrap64 (x4_1 + 1)) l0_0 l0_1 l0_2) else (none)) = some r := by first | (rw [hy681]; with_reducible exact H) | (have H2_ := (Option.bind_some _ _).symm.trans H; rw [hy681]; with_reducible exact H2_) | (have H2_ := (Option.bind_some _ _).symm.trans H; with_reducible exact H2_) | with_reducible exact H | (rw [hy681]; exact H) | exact H
              have Ny681 := Aside0.mk hy681
              clear hy681
              by_cases c18 : x3_1.length < 5864062014805
              · rw [if_pos c18] at H
                have LMc18 := Aside0.mk c18
                clear c18
                obtain ⟨y684, hy684⟩ : ∃ y_ : List (List Int), y_ = (x3_1 ++ [y681]) := ⟨_, rfl⟩
                replace H : (spec_l11Shown.l0 k1 y684 (wrap64 (x4_1 + 1)) l0_0 l0_1 l0_2) = some r := by first | (rw [hy684]; with_reducible exact H) | (have H2_ := (Option.bind_some _ _).symm.trans H; rw [hy684]; with_reducible exact H2_) | (have H2_ := (Option.bind_some _ _).symm.trans H; with_reducible exact H2_) | with_reducible exact H | (rw [hy684]; exact H) | exact H
                have Ny684 := Aside0.mk hy684
                clear hy684
                have H' := Aside0.mk H
                clear H
                have hcz19_0 : wr.cell? ⟨gb669, 0, none⟩ = some (.slice A0_0 l0_0.length c0_0) := (blk_cell BK669.out 0).trans rfl
                have hcz19_1 : wr.cell? ⟨gb669, 1, none⟩ = some (.slice A0_1 l0_1.length c0_1) := (blk_cell BK669.out 1).trans rfl
                have hcz19_2 : wr.cell? ⟨gb669, 2, none⟩ = some (.slice A0_2 l0_2.length c0_2) := (blk_cell BK669.out 2).trans rfl
                have hfz19_0 := blk_frozen BK669.out 0
                have hfz19_1 := blk_frozen BK669.out 1
                have hfz19_2 := blk_frozen BK669.out 2
                have p673 : 0 ≤ (x4_1 : Int) := of_decide_eq_true (by first | (with_reducible assumption) | assumption)
                have q673 : x4_1 < (l0_2.length : Int) := of_decide_eq_true (by first | (with_reducible assumption) | assumption)
                obtain ⟨ad673, e673, hx673_0⟩ := Kd.at_bool HR0_2.out x4_1 p673 q673
                (try rw [← Nbq8.out] at hx673_0)
                cases e673
                replace hx673_0 := (HB.out.cell (World.block_lt_of_cell? w _ hx673_0)).trans hx673_0
                replace p673 := eq_true p673
                replace q673 := eq_true q673
                go_wp2_with (first | ((with_reducible refine gate_dst (N := 27) rfl ?_); refine Kd.R_lit (Kd.int .u8) _ 5 ?hg (N := 27) ?hd (xs := ([] : List Int)) (inner := []) (ok := fun _ => True) (okp := fun _ => True) ?hr ?hp (fun _ hk => hk) trivial (Below.refl _ _) (Nat.le_refl _) (by simp) ?_; (case hd => rfl); (case hg => rfl); (case hr => first | (go_simp; done) | (go_simp; rfl)); (case hp => exact (Reps.none _ _)); intro v682 w20 ho21 hb hg_ hnew_; clear hg_ hnew_; (first | rw [← Ny681.out] at ho21 | (simp only [Int.reduceToNat] at ho21; rw [← Ny681.out] at ho21)); have n0_ := Aside0.mk (Kd.S_elder' (by (with_reducible repeat (first | apply Kd.S_alloc | apply Kd.S_drewN | apply Kd.S_drew)); exact HO_3.out) (Kd.R_base ho21) hb); have n1_ := Aside0.mk (Kd.R_lower ho21 (below_size (by repeat (first | (with_reducible first | exact HB.out | apply below_alloc | apply pw_below_drewN | apply below_drew1 | refine below_set ?_ GE669.out) | exact HB.out)))); have n2_ := Aside0.mk (blk_below (g := gb669) (o := .cells #[.slice A0_0 l0_0.length c0_0, .slice A0_1 l0_1.length c0_1, .slice (some ad673) l0_2.length c0_2] 60 (0, 0)) (by (with_reducible repeat (first | refine blk_drewN ?_ _ | refine blk_drew ?_ | refine blk_alloc ?_ _)); exact BK669.out) hb); have n3_ := Aside0.mk (below_step (by repeat (first | (with_reducible first | exact HB.out | apply below_alloc | apply pw_below_drewN | apply below_drew1 | refine below_set ?_ GE669.out) | exact HB.out)) hb); clear HO_3; clear BK669; clear HB; have HO_3 := n0_; have HO683 := n1_; have BK669 := n2_; have HB := n3_; clear n0_ n1_ n2_ n3_; clear hb ho21; obtain ⟨Ao23, co23, eo23⟩ := Kd.R_slice HO683.out; subst eo23) | ((with_reducible refine gate_builtin (b := .append) (xs := #[.tmp 26, .tmp 28]) rfl ?_); at_builtin; refine Kd.S_append (Kd.slice 5 (Kd.int .u8)) (w0 := w) w.heap.size rfl (.tmp 26) (.tmp 28) 22 119 (.slice none 0 0) 24 rfl Try.underlying22 info119 rfl (by decide) (by omega) u3 x3_1 y681 [.slice Ao23 y681.length co23] (fun _ => True) (fun k_ => some k_ = (.slice Ao23 y681.length co23 : Value).ownBlock) rfl rfl ?aP (fun k_ hk_ => ((Kd.R_mono (ok' := fun k_ => ((fun _ => True)) k_ ∧ some k_ ≠ (u3 : Value).ownBlock) (Kd.R_apart' (HO683.out) (Kd.S_typed HO_3.out) (by decide)) (fun k_ hk => ⟨trivial, hk.2⟩))).1 k_ hk_.symm) ?aF ?aO ?aB ?aS ?aL ?_; (case aP => exact Kd.M_row (Kd.R_mono (Kd.R_tight rfl (Kd.R_mono (ok' := fun k_ => ((fun _ => True)) k_ ∧ some k_ ≠ (u3 : Value).ownBlock) (Kd.R_apart' (HO683.out) (Kd.S_typed HO_3.out) (by decide)) (fun k_ hk => ⟨trivial, hk.2⟩))) (fun _ h_ => h_))); (case aB => exact (by repeat (first | (with_reducible first | exact HB.out | apply below_alloc | apply pw_below_drewN | apply below_drew1 | refine below_set ?_ GE669.out) | exact HB.out))); (case aF => exact (fun _ _ => trivial)); (case aO => exact (by (with_reducible repeat (first | apply Kd.S_alloc | apply Kd.S_drewN | apply Kd.S_drew)); exact Kd.S_mono HO_3.out (fun k_ hk => ⟨trivial, fun e_ => hk.2 e_⟩))); (case aS => exact (below_size (by repeat (first | (with_reducible first | exact HB.out | apply below_alloc | apply pw_below_drewN | apply below_drew1 | refine below_set ?_ GE669.out) | exact HB.out)))); (case aL => have := LMc18.out; omega); intro v685 w22 ho hb hg hat; rw [← Ny684.out] at ho; have n0_ := Aside0.mk (blk_grown (g := gb669) (o := .cells #[.slice A0_0 l0_0.length c0_0, .slice A0_1 l0_1.length c0_1, .slice (some ad673) l0_2.length c0_2] 60 (0, 0)) (by (with_reducible repeat (first | refine blk_drewN ?_ _ | refine blk_drew ?_ | refine blk_alloc ?_ _)); exact BK669.out) hg (Kd.S_ne HO_3.out BK669.out (by decide))); have n1_ := Aside0.mk (hb); have n2_ := Aside0.mk (ho); clear BK669; clear HB; clear HO_3; clear HO683; have BK669 := n0_; have HB := n1_; have HO686 := n2_; clear n0_ n1_ n2_; clear ho hb hg hat))
                go_roundg k1
                case measure => have := HK1.out; omega
                case rel => exact ⟨(y684), (wrap64 (x4_1 + 1)), (by first | rfl | (simp; done) | (simp [*]; done)), H', ⟨by have := HK1.out; omega⟩, ⟨by (with_reducible repeat (first | apply Kd.S_alloc | apply Kd.S_drewN | apply Kd.S_drew)); exact HO686.out⟩, ⟨by (with_reducible repeat (first | refine blk_drewN ?_ _ | refine blk_drew ?_ | refine blk_alloc ?_ _)); exact BK669.out⟩, ⟨by repeat (first | (with_reducible first | exact HB.out | apply below_alloc | apply pw_below_drewN | apply below_drew1 | refine below_set ?_ GE669.out) | exact HB.out)⟩⟩
              · rw [if_neg c18] at H
                exact absurd H (by simp)
          · rw [if_neg c7] at H
            exact absurd H (by simp)
        · rw [if_neg c6] at H
          exact absurd H (by simp)
      · rw [if_neg c5] at H
        have c5b0 : decide (x4_1 < 4) = false := decide_eq_false c5
        clear c5
        obtain rfl := Option.some.inj H
        go_wp2
        go_ret
        exact ⟨_, by first | rfl | (simp [errW_none, errW_some] <;> rfl) | (simp [*, errW_none, errW_some] <;> rfl), by (with_reducible repeat (first | apply Kd.S_alloc | apply Kd.S_drewN | apply Kd.S_drew)); exact HO_3.out, by repeat (first | (with_reducible first | exact HB.out | apply below_alloc | apply pw_below_drewN | apply below_drew1 | refine below_set ?_ GE669.out) | exact HB.out)⟩

end Go.Proofs.Ytoomjghabiojkaa.P


/- What a machine shows: both sides; ShownBytes. -/
namespace Go.Proofs.Ytoomjghabiojkaa.P
open Go.RowKit Go.Proofs.YtoomjghabiojkaaW.PrintWords
set_option linter.unusedVariables false
theorem seen_f {m : List (List Int)} {a s n c : Int} (hw : WinOk m a s n c) : impl_Memory_seen.f m a s n c = some (seeB m a s n) := by
  have h1 := hw.a0; have h2 := hw.a1; have h3 := hw.s0; have h4 := hw.n0; have h5 := hw.s1; have h6 := hw.n1; have h7 := hw.r1
  have he : rd_Lsu8 m a = rowB m a := rfl
  unfold impl_Memory_seen.f
  rw [wrap_ok (x := s + n) (by omega) (by omega), he, if_pos h1, if_pos h2, if_pos h3, if_pos (by omega), if_pos (by omega), List.drop_take, show (s + n).toNat - s.toNat = n.toNat by omega]
  rfl
def shownW (m : List (List Int)) (x : SimplWindow) (b : Bool) : List Int := if b = true then seeB m x.f0 x.f1 x.f2 else []
def shownL (m : List (List Int)) : List SimplWindow → List Bool → List (List Int)
  | x :: xs, b :: bs => shownW m x b :: shownL m xs bs
  | _, _ => []
theorem shownL_length (m : List (List Int)) : ∀ (l : List SimplWindow) (s : List Bool), s.length = l.length → (shownL m l s).length = l.length
  | [], _, _ => by simp [shownL]
  | x :: l, [], h => by simp at h
  | x :: l, b :: s, h => by simp [shownL, shownL_length m l s (by simpa using h)]
theorem shownW_len {m : List (List Int)} {x : SimplWindow} {b : Bool} (hm : memB m = true) (h : regB m x b = true) : (shownW m x b).length ≤ 64 := by
  unfold shownW
  split
  next hb =>
    unfold regB at h
    rw [if_pos hb] at h
    have hw := WinOk.of hm h
    have := seeB_length hw
    have := hw.n1; have := hw.c1; have := hw.n0
    omega
  next => simp
theorem shownL_rows {m : List (List Int)} (hm : memB m = true) : ∀ (l : List SimplWindow) (s : List Bool), regsB m l s = true → ∀ y ∈ shownL m l s, y.length ≤ 64
  | [], _, _, y, hy => by simp [shownL] at hy
  | x :: l, [], _, y, hy => by simp [shownL] at hy
  | x :: l, b :: s, h, y, hy => by
    rw [regsB, Bool.and_eq_true] at h
    rcases List.mem_cons.1 hy with rfl | hy
    · exact shownW_len hm h.1
    · exact shownL_rows hm l s h.2 y hy
theorem implShown_ev (m : List (List Int)) (hm : memB m = true) (suf : List SimplWindow) : ∀ (pre : List SimplWindow) (preS sufS : List Bool) (acc : List (List Int)), preS.length = pre.length → sufS.length = suf.length → pre.length + suf.length ≤ 1000 → acc.length + suf.length ≤ 1000 → regsB m suf sufS = true →
    Ev (fun k => impl_Machine_shown.l0 k acc (pre ++ suf) ((pre ++ suf).length : Int) (pre.length : Int) m (pre ++ suf) (preS ++ sufS)) (acc ++ shownL m suf sufS) := by
  induction suf with
  | nil =>
    intro pre preS sufS acc h1 h2 h3 h4 h5
    refine Ev.step (fun k => ?_) (Ev.now _)
    simp [impl_Machine_shown.l0, shownL]
  | cons x suf ih =>
    intro pre preS sufS acc h1 h2 h3 h4 h5
    obtain ⟨b, sufS, rfl⟩ : ∃ b t, sufS = b :: t := by
      cases sufS with
      | nil => simp at h2
      | cons b t => exact ⟨b, t, rfl⟩
    simp only [List.length_cons] at h2 h3 h4
    rw [regsB, Bool.and_eq_true] at h5
    have e1 : rdOf false (preS ++ b :: sufS) (pre.length : Int) = b := by rw [← h1]; exact rdF_mid _ _ _
    have ih2 := ih (pre ++ [x]) (preS ++ [b]) sufS (acc ++ [shownW m x b]) (by simp [h1]) (by omega) (by simp; omega) (by simp; omega) h5.2
    rw [show acc ++ shownL m (x :: suf) (b :: sufS) = acc ++ [shownW m x b] ++ shownL m suf sufS by simp [shownL]]
    refine Ev.step (f := fun k => impl_Machine_shown.l0 k (acc ++ [shownW m x b]) ((pre ++ [x]) ++ suf) (((pre ++ [x]) ++ suf).length : Int) ((pre ++ [x]).length : Int) m ((pre ++ [x]) ++ suf) ((preS ++ [b]) ++ sufS)) (fun k => ?_) ih2
    simp only [impl_Machine_shown.l0]
    rw [if_pos (by simp; omega), if_pos (by omega), if_pos (by simp; omega), Option.bind_some, if_pos (by simp; omega), e1, rdW_mid, wrap_len (by omega)]
    have h9 := h5.1
    unfold regB at h9
    unfold shownW
    cases b
    · rw [if_neg (show ¬ (false = true) by simp), if_pos (show acc.length < 5864062014805 by omega)]
      simp
    · rw [if_pos (show true = true from rfl)] at h9
      have hw := WinOk.of hm h9
      have hsl := seeB_length hw
      have := hw.n1; have := hw.c1; have := hw.n0
      rw [if_pos (show true = true from rfl), seen_f hw, Option.bind_some, if_pos (by simp; omega), if_pos (show acc.length < 5864062014805 by omega)]
      simp
theorem specShown_ev (m : List (List Int)) (hm : memB m = true) (suf : List SimplWindow) : ∀ (pre : List SimplWindow) (preS sufS : List Bool) (acc : List (List Int)), preS.length = pre.length → sufS.length = suf.length → pre.length + suf.length = 4 → acc.length + suf.length ≤ 1000 → regsB m suf sufS = true →
    Ev (fun k => spec_l11Shown.l0 k acc (pre.length : Int) m (pre ++ suf) (preS ++ sufS)) (acc ++ shownL m suf sufS) := by
  induction suf with
  | nil =>
    intro pre preS sufS acc h1 h2 h3 h4 h5
    refine Ev.step (fun k => ?_) (Ev.now _)
    simp only [spec_l11Shown.l0, shownL, List.append_nil]
    rw [if_neg (by simp at h3; omega)]
  | cons x suf ih =>
    intro pre preS sufS acc h1 h2 h3 h4 h5
    obtain ⟨b, sufS, rfl⟩ : ∃ b t, sufS = b :: t := by
      cases sufS with
      | nil => simp at h2
      | cons b t => exact ⟨b, t, rfl⟩
    simp only [List.length_cons] at h2 h3 h4
    rw [regsB, Bool.and_eq_true] at h5
    have e1 : rdOf false (preS ++ b :: sufS) (pre.length : Int) = b := by rw [← h1]; exact rdF_mid _ _ _
    have ih2 := ih (pre ++ [x]) (preS ++ [b]) sufS (acc ++ [shownW m x b]) (by simp [h1]) (by omega) (by simp; omega) (by simp; omega) h5.2
    rw [show acc ++ shownL m (x :: suf) (b :: sufS) = acc ++ [shownW m x b] ++ shownL m suf sufS by simp [shownL]]
    have h9 := h5.1
    unfold regB at h9
    cases b
    · refine Ev.step (f := fun k => spec_l11Shown.l0 k (acc ++ [shownW m x false]) ((pre ++ [x]).length : Int) m ((pre ++ [x]) ++ suf) ((preS ++ [false]) ++ sufS)) (fun k => ?_) ih2
      simp only [spec_l11Shown.l0]
      rw [if_pos (by omega), if_pos (by omega), if_pos (by simp; omega), e1, if_neg (show ¬ (false = true) by simp), if_pos (show acc.length < 5864062014805 by omega), wrap_len (by omega)]
      simp [shownW]
    · rw [if_pos (show true = true from rfl)] at h9
      have hw := WinOk.of hm h9
      refine Ev.step (f := fun k => (spec_l2Bytes.f k m x.f0 x.f1 x.f2 x.f3).bind fun t => spec_l11Shown.l0 k (acc ++ [t]) ((pre ++ [x]).length : Int) m ((pre ++ [x]) ++ suf) ((preS ++ [true]) ++ sufS)) (fun k => ?_) ?_
      · simp only [spec_l11Shown.l0]
        rw [if_pos (by omega), if_pos (by omega), if_pos (by simp; omega), e1, if_pos (show true = true from rfl), if_pos (by simp; omega), rdW_mid, wrap_len (by omega)]
        simp [show acc.length < 5864062014805 by omega]
      · refine Ev.bind (l2Bytes_f hw) ?_
        have e2 : shownW m x true = seeB m x.f0 x.f1 x.f2 := by simp [shownW]
        rw [e2] at ih2 ⊢
        exact ih2
theorem machB_of {m : List (List Int)} {l : List SimplWindow} {s : List Bool} (h : machB m l s = true) : memB m = true ∧ l.length = 4 ∧ s.length = 4 ∧ regsB m l s = true := by
  unfold machB at h
  simp only [Bool.and_eq_true, decide_eq_true_eq] at h
  exact ⟨h.1.1, h.1.2.1, h.1.2.2, h.2⟩
theorem implShown_f {m : List (List Int)} {l : List SimplWindow} {s : List Bool} (h : machB m l s = true) : Ev (fun k => impl_Machine_shown.f k m l s) (shownL m l s) := by
  obtain ⟨h1, h2, h3, h4⟩ := machB_of h
  have := implShown_ev m h1 l [] [] s [] rfl (by omega) (by simp; omega) (by simp; omega) h4
  simpa [impl_Machine_shown.f] using this
theorem specShown_f {m : List (List Int)} {l : List SimplWindow} {s : List Bool} (h : machB m l s = true) : Ev (fun k => spec_l11Shown.f k m l s) (shownL m l s) := by
  obtain ⟨h1, h2, h3, h4⟩ := machB_of h
  have := specShown_ev m h1 l [] [] s [] rfl (by omega) (by simp; omega) (by simp; omega) h4
  simpa [spec_l11Shown.f] using this
theorem shownL_ok {m : List (List Int)} {l : List SimplWindow} {s : List Bool} (h : machB m l s = true) : okM (shownL m l s) := by
  obtain ⟨h1, h2, h3, h4⟩ := machB_of h
  have h5 := shownL_length m l s (by omega)
  have h6 := shownL_rows h1 l s h4
  have h7 := sizeBB_le (b := 64) h6
  exact ⟨by omega, fun x hx => by have := h6 x hx; omega, by rw [h5, h2] at h7; omega⟩
end Go.Proofs.Ytoomjghabiojkaa.P


/- Rows of flat elements written in place: what a loop of marks does to the cells. -/
namespace Go.Proofs.YtoomjghabiojkaaW.Mine
open Go.RowKit Go.Proofs.YtoomjghabiojkaaW.PrintWords
set_option linter.unusedVariables false
set_option linter.unusedSimpArgs false
section
variable {P : Program} {ops : Array Oper} {Q : Exit → Act → World → Prop} {w w2 : World} {a : Act} {r : List Nat} {i g : Nat} {o : Oper}
theorem mRun (ho : ops.toList[i]? = some o) (hw : Region.wanted o (yielded ops a.tmps) = true) (h : Oper.wp P o a w (wpOps P ops Q r) Q) : wpOps P ops Q (i :: r) a w := by
  rw [Array.getElem?_toList] at ho
  rw [wpOps_cons]
  unfold wpOp
  rw [ho]
  simp only
  rw [if_pos hw]
  exact .inl h
theorem mSkip (ho : ops.toList[i]? = some o) (hr : (execOp a.eval o).run P w = .ok .skip w2) (h : wpOps P ops Q r a w2) (hd : o.dst = none := by rfl) (hw : Region.wanted o (yielded ops a.tmps) = true := by rfl) : wpOps P ops Q (i :: r) a w := by
  refine mRun ho hw ?_
  unfold Oper.wp
  rw [hr]
  show wpOps P ops Q r (a.put o.dst undef) _
  rw [hd]
  exact h
theorem mReg {id n : Nat} (l : List Nat) (hn : ops.size = n) (hl : List.range n = l) (h : wpOps P ops Q l a w) : (Code.region id ops false).wp P Q a w := by
  subst hl hn
  exact wp_region h
theorem mSet {cs : Array Value} {j : Nat} {u : Value} : (w.setRow g cs).setCell ⟨g, j, none⟩ u = w.setRow g (cs.setIfInBounds j u) := by
  unfold World.setRow World.setCell
  congr 1
  apply Array.ext_getElem?
  intro k
  simp only [Array.getElem?_modify]
  by_cases e : g = k
  · subst e
    simp only [if_true]
    cases h : w.heap[g]? with
    | none => rfl
    | some x => cases x <;> rfl
  · simp only [if_neg e]
theorem mCell {c0 cs : Array Value} {t j : Nat} (h : w.heap[g]? = some (.cells c0 t (0, 0))) (hj : j < cs.size) : (w.setRow g cs).cell? ⟨g, j, none⟩ = some (cs.getD j undef) := by
  rw [blk_cell (setRow_heap w g c0 cs t _ h) j]
  simp [hj]
theorem mFrozen {c0 cs : Array Value} {t : Nat} (h : w.heap[g]? = some (.cells c0 t (0, 0))) (j : Nat) : (w.setRow g cs).frozen? ⟨g, j, none⟩ = false := blk_frozen (setRow_heap w g c0 cs t _ h) j
end
theorem setAll_toList : ∀ (us : List Value) (off : Nat) (cs : Array Value), off + us.length ≤ cs.size → (setAll cs off us).toList = cs.toList.take off ++ (us ++ cs.toList.drop (off + us.length))
  | [], off, cs, h => by simp [setAll]
  | u :: r, off, cs, h => by
    simp only [List.length_cons] at h
    have hl : off < cs.toList.length := by simp; omega
    show (setAll (cs.setIfInBounds off u) (off + 1) r).toList = _
    rw [setAll_toList r (off + 1) _ (by simp; omega), Array.toList_setIfInBounds, List.drop_set_of_lt (by omega), List.take_succ_eq_append_getElem (by simpa using hl), List.take_set_of_le (Nat.le_refl _), List.getElem_set_self]
    simp [show off + 1 + r.length = off + (r.length + 1) by omega]
section
variable {α : Type} {cells : α → List Value} {q : Nat}
theorem flat_length (hlen : ∀ x, (cells x).length = q) (l : List α) : (l.flatMap cells).length = l.length * q := by
  induction l with
  | nil => simp
  | cons x l ih => rw [List.flatMap_cons, List.length_append, ih, hlen, List.length_cons, Nat.add_mul, Nat.one_mul, Nat.add_comm]
theorem flat_step (hlen : ∀ x, (cells x).length = q) (L : List Value) (M D : List α) (x y : α) (n : Nat) (hn : n = M.length + 1 + D.length) (h : L.take (n * q) = (M ++ x :: D).flatMap cells) :
    (L.take (M.length * q) ++ (cells y ++ L.drop (M.length * q + q))).take (n * q) = (M ++ y :: D).flatMap cells := by
  have e1 : n * q = M.length * q + (q + D.length * q) := by rw [hn, Nat.add_mul, Nat.add_mul, Nat.one_mul, Nat.add_assoc]
  have hM := flat_length hlen M
  have hD := flat_length hlen D
  have h1 : L.take (M.length * q) = M.flatMap cells := by
    have := congrArg (List.take (M.length * q)) h
    rw [List.take_take, Nat.min_eq_left (by omega), List.flatMap_append, List.take_left' hM] at this
    exact this
  have h2 : (L.drop (M.length * q + q)).take (D.length * q) = D.flatMap cells := by
    have := congrArg (List.drop (M.length * q + q)) h
    rw [List.drop_take, show n * q - (M.length * q + q) = D.length * q by omega, List.flatMap_append, List.flatMap_cons] at this
    rw [this, ← List.drop_drop, List.drop_left' hM, List.drop_left' (hlen x)]
  rw [h1, e1, List.flatMap_append, List.flatMap_cons]
  have e2 : (M.flatMap cells).length + ((cells y).length + D.length * q) = M.length * q + (q + D.length * q) := by rw [hM, hlen]
  rw [← e2, List.take_length_add_append, List.take_length_add_append, h2]
def marksG (mk : Int → α) (q : Nat) : Int → Nat → List α
  | _, 0 => []
  | a, n + 1 => mk a :: marksG mk q (a + q) n
theorem marksG_length (mk : Int → α) : ∀ (n : Nat) (a : Int), (marksG mk q a n).length = n
  | 0, _ => rfl
  | n + 1, a => by simp [marksG, marksG_length mk n]
theorem marksG_snoc (mk : Int → α) : ∀ (n : Nat) (a : Int), marksG mk q a (n + 1) = marksG mk q a n ++ [mk (a + q * n)]
  | 0, a => by simp [marksG]
  | n + 1, a => by
    rw [marksG, marksG_snoc mk n (a + q), marksG, List.cons_append]
    rw [show a + (q : Int) + (q : Int) * (n : Int) = a + (q : Int) * ((n + 1 : Nat) : Int) by push_cast; rw [Int.mul_add, Int.mul_one]; omega]
theorem marks_round (hlen : ∀ x, (cells x).length = q) (mk : Int → α) (a : Int) (l : List α) (i : Nat) (hi : i < l.length) {c c' : Array Value} (h : c.toList.take (l.length * q) = (marksG mk q a i ++ l.drop i).flatMap cells) (hs : l.length * q ≤ c.size) (hc : c' = setAll c (i * q) (cells (mk (a + q * i)))) :
    c'.toList.take (l.length * q) = (marksG mk q a (i + 1) ++ l.drop (i + 1)).flatMap cells := by
  have hb : i * q + q ≤ l.length * q := by
    have := Nat.mul_le_mul_right q hi
    rw [Nat.succ_mul] at this
    exact this
  subst hc
  rw [setAll_toList _ _ _ (by rw [hlen]; omega), hlen, marksG_snoc, List.append_assoc, List.singleton_append]
  rw [List.drop_eq_getElem_cons hi] at h
  have := flat_step hlen c.toList (marksG mk q a i) (l.drop (i + 1)) l[i] (mk (a + q * i)) l.length (by rw [marksG_length, List.length_drop]; omega) h
  rw [marksG_length] at this
  exact this
variable {d : Kd α}
structure FlatK (d : Kd α) (cells : α → List Value) (q : Nat) : Prop where
  sz : d.sz = q
  len : ∀ x, (cells x).length = q
  opn : ∀ {w : World} {x : α} {cs : List Value}, d.K w x cs → cs = cells x
  mak : ∀ (w : World) (base : Nat) (ok : Nat → Prop) (x : α), d.M w base ok x (cells x)
theorem reps_flat (hlen : ∀ x, (cells x).length = q) : ∀ (l : List α) (cs : List Value), Reps (fun (x : α) c => c = cells x) q l cs → cs = l.flatMap cells
  | [], cs, h => List.eq_nil_of_length_eq_zero (by have := h.1; simpa using this)
  | x :: l, cs, h => by
    have h0 : cs.take q = cells x := by
      have := h.2 0 x rfl
      simpa using this
    have h1 := reps_flat hlen l (cs.drop q) ⟨by rw [List.length_drop, h.1, List.length_cons, Nat.add_mul, Nat.one_mul, Nat.add_sub_cancel], fun j p hp => by
      have := h.2 (j + 1) p (by simpa using hp)
      rw [List.drop_drop, show q + j * q = (j + 1) * q by rw [Nat.add_mul, Nat.one_mul, Nat.add_comm]]
      exact this⟩
    rw [List.flatMap_cons, ← h0, ← h1, List.take_append_drop]
theorem flat_reps (hlen : ∀ x, (cells x).length = q) : ∀ (l : List α), Reps (fun (x : α) c => c = cells x) q l (l.flatMap cells)
  | [] => ⟨by simp, fun j p h => by cases h⟩
  | x :: l => by
    refine ⟨flat_length hlen _, fun j p hp => ?_⟩
    cases j with
    | zero =>
      cases hp
      rw [List.flatMap_cons, Nat.zero_mul, List.drop_zero, List.take_left' (hlen _)]
    | succ j =>
      have := (flat_reps hlen l).2 j p (by simpa using hp)
      rw [List.flatMap_cons, show (j + 1) * q = q + j * q by rw [Nat.add_mul, Nat.one_mul, Nat.add_comm], ← List.drop_drop, List.drop_left' (hlen _)]
      exact this
variable {w w1 : World} {e base : Nat} {ok : Nat → Prop} {v : Value} {l : List α}
theorem cells_of_R (F : FlatK d cells q) (h : Kd.R d e w base ok v l) : w.ownsRow base e q v l.length (l.flatMap cells) := by
  obtain ⟨_, inner, ho, hr⟩ := h
  rw [F.sz] at ho hr
  have : inner = l.flatMap cells := reps_flat F.len l inner ⟨hr.1, fun j p hp => F.opn (d.K_of_M (hr.2 j p hp))⟩
  rw [← this]
  exact ho
theorem R_of_cells (F : FlatK d cells q) (ho : w.ownsRow base e q v l.length (l.flatMap cells)) (hok : ∀ k, v.ownBlock = some k → ok k) : Kd.R d e w base ok v l := by
  refine ⟨hok, l.flatMap cells, by rw [F.sz]; exact ho, ?_⟩
  rw [F.sz]
  exact ⟨(flat_reps F.len l).1, fun j p hp => by rw [(flat_reps F.len l).2 j p hp]; exact F.mak _ _ _ _⟩
theorem R_blk (F : FlatK d cells q) (h : Kd.R d e w base ok v l) (hl : 0 < l.length) :
    ∃ g cap cur, v = .slice (some ⟨g, 0, none⟩) l.length cap ∧ ok g ∧ w.heap[g]? = some (.cells cur e (0, 0)) ∧ l.length * q ≤ cur.size ∧ cur.toList.take (l.length * q) = l.flatMap cells ∧ base ≤ g ∧
      ∀ (w1 : World) (cur' : Array Value) (l' : List α), w1.heap[g]? = some (.cells cur' e (0, 0)) → cur'.size = cur.size → l'.length = l.length → cur'.toList.take (l.length * q) = l'.flatMap cells → Kd.R d e w1 base ok v l' := by
  have ho := cells_of_R F h
  rcases ho.2 with ⟨_, h0⟩ | ⟨g, cap, cur, rfl, hb, hh, hle, hmax, hsz, htk⟩
  · omega
  · refine ⟨g, cap, cur, rfl, h.1 g rfl, hh, by rw [hsz]; exact Nat.mul_le_mul_right _ hle, htk, hb, ?_⟩
    intro w1 cur' l' hh' hs hl' ht
    refine R_of_cells F ⟨by rw [flat_length F.len], .inr ⟨g, cap, cur', by rw [hl'], hb, hh', by rw [hl']; exact hle, hmax, by rw [hs, hsz], by rw [hl', ht]⟩⟩ (fun k hk => h.1 k hk)
theorem marks_fin (F : FlatK d cells q) {w0 w' : World} {P_ : Nat → Prop} {mk : Int → α} {a : Int} (hB : Below w0.heap.size w0 w) (ho : Kd.R d e w w0.heap.size P_ v l) {g cap : Nat} {cur cur' : Array Value} (hv : v = .slice (some ⟨g, 0, none⟩) l.length cap) (hg : w.heap[g]? = some (.cells cur e (0, 0))) (hP : P_ g) (hge : w0.heap.size ≤ g)
    (hback : ∀ (w1 : World) (cur' : Array Value) (l' : List α), w1.heap[g]? = some (.cells cur' e (0, 0)) → cur'.size = cur.size → l'.length = l.length → cur'.toList.take (l.length * q) = l'.flatMap cells → Kd.R d e w1 w0.heap.size P_ v l')
    (hs : cur'.size = cur.size) (ht : cur'.toList.take (l.length * q) = (marksG mk q a l.length).flatMap cells) (hw : w' = w.setRow g cur') :
    Kd.R d e w' w0.heap.size P_ v (marksG mk q a l.length) ∧ Below w0.heap.size w0 w' ∧ Kept w w' P_ := by
  subst hw
  refine ⟨hback _ cur' _ (setRow_heap w g _ _ _ _ hg) hs (marksG_length _ _ _) ht, below_setRow hB hge _, ⟨by simp, fun k _ hn => setRow_other w g k cur' (fun e_ => hn (by rw [e_]; exact hP))⟩⟩
end
def Ty (w : World) (es : List Nat) (k : Nat) : Prop := ∃ q, q ∈ es ∧ ∃ cells, w.heap[k]? = some (.cells cells q (0, 0))
theorem Ty.ne {w : World} {es es2 : List Nat} {k : Nat} (h : Ty w es k) (h2 : Ty w es2 k) (hd : ∀ q ∈ es, q ∉ es2) : False := by
  obtain ⟨q, hq, c, hc⟩ := h
  obtain ⟨q2, hq2, c2, hc2⟩ := h2
  rw [hc] at hc2
  injection hc2 with hc2
  injection hc2 with _ h3
  subst h3
  exact hd _ hq hq2
section
variable {α : Type} {d : Kd α} {w w' : World} {e base : Nat} {ok ok2 : Nat → Prop} {es : List Nat} {v : Value} {xs : List α}
theorem S_ty (h : Kd.S d e w base ok v xs) : Kd.S d e w base (fun k => (ok k ∧ k < w.heap.size) ∧ Ty w (e :: d.E) k) v xs := Kd.S_mono (Kd.S_bound h) (fun k hk => ⟨⟨hk.1, hk.2.2.1⟩, hk.2.2.2⟩)
theorem R_ty (h : Kd.R d e w base ok v xs) : Kd.R d e w base (fun k => (ok k ∧ k < w.heap.size) ∧ Ty w (e :: d.E) k) v xs := Kd.R_mono (Kd.R_bound h) (fun k hk => ⟨⟨hk.1, hk.2.2.1⟩, hk.2.2.2⟩)
theorem S_tyKept (h : Kd.S d e w base ok v xs) (hK : Kept w w' (fun k => ok2 k ∧ Ty w es k)) (hd : ∀ q ∈ e :: d.E, q ∉ es) : Kd.S d e w' base ok v xs :=
  Kd.S_mono (Kd.S_step (S_ty h) (fun k hk hlt => hK.2 k hlt (fun h2 => hk.2.ne h2.2 hd))) (fun _ hk => hk.1.1)
theorem R_tyKept (h : Kd.R d e w base ok v xs) (hK : Kept w w' (fun k => ok2 k ∧ Ty w es k)) (hd : ∀ q ∈ e :: d.E, q ∉ es) : Kd.R d e w' base ok v xs :=
  Kd.R_mono (Kd.R_step (R_ty h) (fun k hk hlt => hK.2 k hlt (fun h2 => hk.2.ne h2.2 hd))) (fun _ hk => hk.1.1)
end
end Go.Proofs.YtoomjghabiojkaaW.Mine


/- markWindowS: a slice of flat elements written in place. -/
namespace Go.Proofs.Ytoomjghabiojkaa.P
open Go.RowKit Go.Proofs.YtoomjghabiojkaaW.PrintWords Go.Proofs.YtoomjghabiojkaaW.PrintMore Go.Proofs.YtoomjghabiojkaaW.Mine
open List (setIfInBounds_toArray set_cons_zero set_cons_succ)
set_option linter.unusedVariables false
set_option linter.unusedSimpArgs false
def cellsW (x : SimplWindow) : List Value := [.int .i64 x.f0, .int .i64 x.f1, .int .i64 x.f2, .int .i64 x.f3]
def markW (a : Int) : SimplWindow := ⟨a, a + 1, a + 2, a + 3⟩
theorem flat_markWindowS : FlatK kimplWindow cellsW 4 := ⟨rfl, fun _ => rfl, fun h => kimplWindow_open h, fun w base ok x => kimplWindow_mkM w base ok x⟩
set_option maxHeartbeats 8000000 in
set_option maxRecDepth 100000 in
theorem laws_markWindowS_loop (g c : Nat) (l : List SimplWindow) (a : Int) (cur : Array Value) (w : World) (hg : w.heap[g]? = some (.cells cur 48 (0, 0))) (ht : cur.toList.take (l.length * 4) = l.flatMap cellsW) (hsz : l.length * 4 ≤ cur.size) (ha : 0 ≤ a) (hb : a + 4 * l.length ≤ 4611686018427387904) :
    Calls Try.prog 78 #[.slice (some ⟨g, 0, none⟩) l.length c, .int .i64 a] w fun e w' => e = .returned (.int .i64 (a + 4 * l.length)) ∧ ∃ cur' : Array Value, cur'.size = cur.size ∧ cur'.toList.take (l.length * 4) = (marksG (markW) 4 a l.length).flatMap cellsW ∧ w' = w.setRow g cur' := by
  have HG := Aside0.mk hg; have HT := Aside0.mk ht; clear hg ht
  go_enter Try.func78, Try.ntmps78
  go_wp2
  go_loopg [1, 5] (l.length + 1) (fun kq v1 v5 w' => ∃ (i : Nat) (ci : Array Value), v1 = .int .i64 (a + 4 * i) ∧ v5 = .int .i64 (i : Int) ∧ Aside0 (kq + i = l.length + 1 ∧ i ≤ l.length) ∧ Aside0 (ci.size = cur.size) ∧ Aside0 (ci.toList.take (l.length * 4) = (marksG (markW) 4 a i ++ l.drop i).flatMap cellsW) ∧ Aside0 (w' = w.setRow g ci))
  case atStart => exact ⟨0, cur, by simp, rfl, ⟨rfl, Nat.zero_le _⟩, ⟨rfl⟩, ⟨by simpa [marksG] using HT.out⟩, ⟨(setRow_self w g cur _ _ HG.out).symm⟩⟩
  case round =>
    obtain ⟨i, ci, rfl, rfl, HK, HZ, HC, HW⟩ := hrel
    by_cases hi : i < l.length
    · obtain ⟨k1, rfl⟩ : ∃ q, gk = q + 1 := ⟨gk - 1, by have := HK.out; omega⟩
      have hi1 : decide ((i : Int) < (l.length : Int)) = true := decide_eq_true (by omega)
      have p5 := eq_true (show (0 : Int) ≤ (i : Int) by omega); have q5 := eq_true (show (i : Int) < (l.length : Int) by omega)
      obtain ⟨b, hbb⟩ : ∃ b : Int, b = a + 4 * i := ⟨_, rfl⟩
      have hb0 : 0 ≤ b ∧ b + 4 ≤ 4611686018427387904 := by omega
      rw [← hbb]; have HBB := Aside0.mk hbb; clear hbb
      obtain ⟨c0_, hc0_⟩ : ∃ x, x = ci := ⟨_, rfl⟩
      have hz0_ : c0_.size = cur.size := by rw [hc0_]; exact HZ.out
      rw [← hc0_] at HC; have HW2 := HW.out; subst HW2; rw [← hc0_]
      clear hc0_ HZ HW
      refine wp_seq ?_
      refine wp_seq ?_
      refine mReg [0, 1, 2, 3] rfl rfl ?_
      refine tlP (v := .int .i64 ((i : Int))) 6 rfl ?_
      simp only [Act.put, setIfInBounds_toArray, set_cons_zero, set_cons_succ]
      refine tlP (v := .slice (some ⟨g, 0, none⟩) l.length c) 7 rfl ?_
      simp only [Act.put, setIfInBounds_toArray, set_cons_zero, set_cons_succ]
      refine tlP (v := .int .i64 (l.length : Int)) 8 (hr := by go_simp; try rfl) rfl ?_
      simp only [Act.put, setIfInBounds_toArray, set_cons_zero, set_cons_succ]
      refine tlP (v := .bool true) 9 rfl ?_ (hr := by go_simp; try simp [hi])
      simp only [Act.put, setIfInBounds_toArray, set_cons_zero, set_cons_succ]
      refine tl0 ?_
      refine wp_cond_true rfl ?_
      refine wp_skip ?_
      refine thN ?_
      refine wp_seq ?_
      refine wp_block ?_
      refine wp_seq ?_
      refine mReg [0, 1, 2, 3, 4, 5] rfl rfl ?_
      refine tlP (v := .slice (some ⟨g, 0, none⟩) l.length c) 12 rfl ?_
      simp only [Act.put, setIfInBounds_toArray, set_cons_zero, set_cons_succ]
      refine tlP (v := .int .i64 ((i : Int))) 13 rfl ?_
      simp only [Act.put, setIfInBounds_toArray, set_cons_zero, set_cons_succ]
      refine tlP (v := .int .i64 (b)) 14 rfl ?_
      simp only [Act.put, setIfInBounds_toArray, set_cons_zero, set_cons_succ]
      refine tlP (v := .pointer (some ⟨g, i * 4, none⟩)) 15 (hr := by go_simp; try rfl) rfl ?_
      simp only [Act.put, setIfInBounds_toArray, set_cons_zero, set_cons_succ]
      refine tlP (v := .pointer (some ⟨g, i * 4, none⟩)) 16 (hr := by go_simp; try rfl) rfl ?_
      simp only [Act.put, setIfInBounds_toArray, set_cons_zero, set_cons_succ]
      have hc_ : (w.setRow g c0_).cell? ⟨g, i * 4, none⟩ = some (c0_.getD (i * 4) undef) := mCell HG.out (by simp only [hz0_]; omega)
      have hf_ : (w.setRow g c0_).frozen? ⟨g, i * 4, none⟩ = false := mFrozen HG.out _
      refine mSkip (w2 := w.setRow g (c0_.setIfInBounds (i * 4) (.int .i64 (b)))) rfl (by rw [← mSet]; go_simp; try rfl) ?_
      clear hc_ hf_
      obtain ⟨c1_, hc1_⟩ : ∃ x, x = c0_.setIfInBounds (i * 4) (.int .i64 (b)) := ⟨_, rfl⟩
      have hz1_ : c1_.size = cur.size := by rw [hc1_, Array.size_setIfInBounds, hz0_]
      rw [← hc1_]; have HC1_ := Aside0.mk hc1_; clear hc1_
      refine tl0 ?_
      refine wp_seq ?_
      refine mReg [0, 1, 2] rfl rfl ?_
      refine tlP (v := .int .i64 (b)) 17 rfl ?_
      simp only [Act.put, setIfInBounds_toArray, set_cons_zero, set_cons_succ]
      refine tlP (v := .int .i64 (b + 1)) 18 rfl ?_ (hr := run_arith (q := .add) (k := .i64) (m := b) (n := 1) (r := b + 1) rfl rfl rfl (.inl ⟨rfl, by rw [show (b : Int) + 1 = b + 1 by omega]; exact i64_ok (n := b + 1) (by omega) (by omega)⟩))
      simp only [Act.put, setIfInBounds_toArray, set_cons_zero, set_cons_succ]
      refine tlP (v := .int .i64 (b + 1)) 1 rfl ?_
      simp only [Act.put, setIfInBounds_toArray, set_cons_zero, set_cons_succ]
      refine tl0 ?_
      refine wp_seq ?_
      refine mReg [0, 1, 2, 3, 4, 5] rfl rfl ?_
      refine tlP (v := .slice (some ⟨g, 0, none⟩) l.length c) 19 rfl ?_
      simp only [Act.put, setIfInBounds_toArray, set_cons_zero, set_cons_succ]
      refine tlP (v := .int .i64 ((i : Int))) 20 rfl ?_
      simp only [Act.put, setIfInBounds_toArray, set_cons_zero, set_cons_succ]
      refine tlP (v := .int .i64 (b + 1)) 21 rfl ?_
      simp only [Act.put, setIfInBounds_toArray, set_cons_zero, set_cons_succ]
      refine tlP (v := .pointer (some ⟨g, i * 4, none⟩)) 22 (hr := by go_simp; try rfl) rfl ?_
      simp only [Act.put, setIfInBounds_toArray, set_cons_zero, set_cons_succ]
      refine tlP (v := .pointer (some ⟨g, i * 4 + 1, none⟩)) 23 (hr := by go_simp; try rfl) rfl ?_
      simp only [Act.put, setIfInBounds_toArray, set_cons_zero, set_cons_succ]
      have hc_ : (w.setRow g c1_).cell? ⟨g, i * 4 + 1, none⟩ = some (c1_.getD (i * 4 + 1) undef) := mCell HG.out (by simp only [hz1_]; omega)
      have hf_ : (w.setRow g c1_).frozen? ⟨g, i * 4 + 1, none⟩ = false := mFrozen HG.out _
      refine mSkip (w2 := w.setRow g (c1_.setIfInBounds (i * 4 + 1) (.int .i64 (b + 1)))) rfl (by rw [← mSet]; go_simp; try rfl) ?_
      clear hc_ hf_
      obtain ⟨c2_, hc2_⟩ : ∃ x, x = c1_.setIfInBounds (i * 4 + 1) (.int .i64 (b + 1)) := ⟨_, rfl⟩
      have hz2_ : c2_.size = cur.size := by rw [hc2_, Array.size_setIfInBounds, hz1_]
      rw [← hc2_]; have HC2_ := Aside0.mk hc2_; clear hc2_
      refine tl0 ?_
      refine wp_seq ?_
      refine mReg [0, 1, 2] rfl rfl ?_
      refine tlP (v := .int .i64 (b + 1)) 24 rfl ?_
      simp only [Act.put, setIfInBounds_toArray, set_cons_zero, set_cons_succ]
      refine tlP (v := .int .i64 (b + 2)) 25 rfl ?_ (hr := run_arith (q := .add) (k := .i64) (m := b + 1) (n := 1) (r := b + 2) rfl rfl rfl (.inl ⟨rfl, by rw [show (b + 1 : Int) + 1 = b + 2 by omega]; exact i64_ok (n := b + 2) (by omega) (by omega)⟩))
      simp only [Act.put, setIfInBounds_toArray, set_cons_zero, set_cons_succ]
      refine tlP (v := .int .i64 (b + 2)) 1 rfl ?_
      simp only [Act.put, setIfInBounds_toArray, set_cons_zero, set_cons_succ]
      refine tl0 ?_
      refine wp_seq ?_
      refine mReg [0, 1, 2, 3, 4, 5] rfl rfl ?_
      refine tlP (v := .slice (some ⟨g, 0, none⟩) l.length c) 26 rfl ?_
      simp only [Act.put, setIfInBounds_toArray, set_cons_zero, set_cons_succ]
      refine tlP (v := .int .i64 ((i : Int))) 27 rfl ?_
      simp only [Act.put, setIfInBounds_toArray, set_cons_zero, set_cons_succ]
      refine tlP (v := .int .i64 (b + 2)) 28 rfl ?_
      simp only [Act.put, setIfInBounds_toArray, set_cons_zero, set_cons_succ]
      refine tlP (v := .pointer (some ⟨g, i * 4, none⟩)) 29 (hr := by go_simp; try rfl) rfl ?_
      simp only [Act.put, setIfInBounds_toArray, set_cons_zero, set_cons_succ]
      refine tlP (v := .pointer (some ⟨g, i * 4 + 2, none⟩)) 30 (hr := by go_simp; try rfl) rfl ?_
      simp only [Act.put, setIfInBounds_toArray, set_cons_zero, set_cons_succ]
      have hc_ : (w.setRow g c2_).cell? ⟨g, i * 4 + 2, none⟩ = some (c2_.getD (i * 4 + 2) undef) := mCell HG.out (by simp only [hz2_]; omega)
      have hf_ : (w.setRow g c2_).frozen? ⟨g, i * 4 + 2, none⟩ = false := mFrozen HG.out _
      refine mSkip (w2 := w.setRow g (c2_.setIfInBounds (i * 4 + 2) (.int .i64 (b + 2)))) rfl (by rw [← mSet]; go_simp; try rfl) ?_
      clear hc_ hf_
      obtain ⟨c3_, hc3_⟩ : ∃ x, x = c2_.setIfInBounds (i * 4 + 2) (.int .i64 (b + 2)) := ⟨_, rfl⟩
      have hz3_ : c3_.size = cur.size := by rw [hc3_, Array.size_setIfInBounds, hz2_]
      rw [← hc3_]; have HC3_ := Aside0.mk hc3_; clear hc3_
      refine tl0 ?_
      refine wp_seq ?_
      refine mReg [0, 1, 2] rfl rfl ?_
      refine tlP (v := .int .i64 (b + 2)) 31 rfl ?_
      simp only [Act.put, setIfInBounds_toArray, set_cons_zero, set_cons_succ]
      refine tlP (v := .int .i64 (b + 3)) 32 rfl ?_ (hr := run_arith (q := .add) (k := .i64) (m := b + 2) (n := 1) (r := b + 3) rfl rfl rfl (.inl ⟨rfl, by rw [show (b + 2 : Int) + 1 = b + 3 by omega]; exact i64_ok (n := b + 3) (by omega) (by omega)⟩))
      simp only [Act.put, setIfInBounds_toArray, set_cons_zero, set_cons_succ]
      refine tlP (v := .int .i64 (b + 3)) 1 rfl ?_
      simp only [Act.put, setIfInBounds_toArray, set_cons_zero, set_cons_succ]
      refine tl0 ?_
      refine wp_seq ?_
      refine mReg [0, 1, 2, 3, 4, 5] rfl rfl ?_
      refine tlP (v := .slice (some ⟨g, 0, none⟩) l.length c) 33 rfl ?_
      simp only [Act.put, setIfInBounds_toArray, set_cons_zero, set_cons_succ]
      refine tlP (v := .int .i64 ((i : Int))) 34 rfl ?_
      simp only [Act.put, setIfInBounds_toArray, set_cons_zero, set_cons_succ]
      refine tlP (v := .int .i64 (b + 3)) 35 rfl ?_
      simp only [Act.put, setIfInBounds_toArray, set_cons_zero, set_cons_succ]
      refine tlP (v := .pointer (some ⟨g, i * 4, none⟩)) 36 (hr := by go_simp; try rfl) rfl ?_
      simp only [Act.put, setIfInBounds_toArray, set_cons_zero, set_cons_succ]
      refine tlP (v := .pointer (some ⟨g, i * 4 + 3, none⟩)) 37 (hr := by go_simp; try rfl) rfl ?_
      simp only [Act.put, setIfInBounds_toArray, set_cons_zero, set_cons_succ]
      have hc_ : (w.setRow g c3_).cell? ⟨g, i * 4 + 3, none⟩ = some (c3_.getD (i * 4 + 3) undef) := mCell HG.out (by simp only [hz3_]; omega)
      have hf_ : (w.setRow g c3_).frozen? ⟨g, i * 4 + 3, none⟩ = false := mFrozen HG.out _
      refine mSkip (w2 := w.setRow g (c3_.setIfInBounds (i * 4 + 3) (.int .i64 (b + 3)))) rfl (by rw [← mSet]; go_simp; try rfl) ?_
      clear hc_ hf_
      obtain ⟨c4_, hc4_⟩ : ∃ x, x = c3_.setIfInBounds (i * 4 + 3) (.int .i64 (b + 3)) := ⟨_, rfl⟩
      have hz4_ : c4_.size = cur.size := by rw [hc4_, Array.size_setIfInBounds, hz3_]
      rw [← hc4_]; have HC4_ := Aside0.mk hc4_; clear hc4_
      refine tl0 ?_
      refine mReg [0, 1, 2] rfl rfl ?_
      refine tlP (v := .int .i64 (b + 3)) 38 rfl ?_
      simp only [Act.put, setIfInBounds_toArray, set_cons_zero, set_cons_succ]
      refine tlP (v := .int .i64 (b + 4)) 39 rfl ?_ (hr := run_arith (q := .add) (k := .i64) (m := b + 3) (n := 1) (r := b + 4) rfl rfl rfl (.inl ⟨rfl, by rw [show (b + 3 : Int) + 1 = b + 4 by omega]; exact i64_ok (n := b + 4) (by omega) (by omega)⟩))
      simp only [Act.put, setIfInBounds_toArray, set_cons_zero, set_cons_succ]
      refine tlP (v := .int .i64 (b + 4)) 1 rfl ?_
      simp only [Act.put, setIfInBounds_toArray, set_cons_zero, set_cons_succ]
      refine tlE ?_
      show Exit.inBlock _ _ _ _ _
      simp only [Exit.inBlock]
      refine thN ?_
      refine mReg [0, 1, 2] rfl rfl ?_
      refine tlP (v := .int .i64 ((i : Int))) 10 rfl ?_
      simp only [Act.put, setIfInBounds_toArray, set_cons_zero, set_cons_succ]
      refine tlP (v := .int .i64 ((i : Int) + 1)) 11 rfl ?_ (hr := run_arith (q := .add) (k := .i64) (m := (i : Int)) (n := 1) (r := (i : Int) + 1) rfl rfl rfl (.inl ⟨rfl, i64_ok (n := (i : Int) + 1) (by omega) (by omega)⟩))
      simp only [Act.put, setIfInBounds_toArray, set_cons_zero, set_cons_succ]
      refine tlP (v := .int .i64 ((i : Int) + 1)) 5 rfl ?_
      simp only [Act.put, setIfInBounds_toArray, set_cons_zero, set_cons_succ]
      refine tlE ?_
      go_wp2
      go_roundg k1
      case measure => have := HK.out; omega
      case rel => exact ⟨i + 1, c4_, by rw [HBB.out]; congr 1; push_cast; omega, by congr 1, ⟨by have := HK.out; omega, by omega⟩, ⟨hz4_⟩, ⟨marks_round flat_markWindowS.len (markW) a l i hi HC.out (by rw [hz0_]; exact hsz) (by rw [HC4_.out, HC3_.out, HC2_.out, HC1_.out, HBB.out]; rfl)⟩, ⟨rfl⟩⟩
    · have hkk := HK.out
      by_cases hge : i = l.length
      · subst hge
        have HW2 := HW.out; subst HW2
        go_wp2
        go_ret
        exact ⟨by first | rfl | simp, ci, HZ.out, by simpa using HC.out, rfl⟩
      · exfalso; omega
set_option maxHeartbeats 1600000 in
set_option maxRecDepth 100000 in
theorem laws_markWindowS_nil (A : Option Addr) (c : Nat) (a : Int) (w : World) : Calls Try.prog 78 #[.slice A 0 c, .int .i64 a] w fun e w' => e = .returned (.int .i64 a) ∧ w' = w := by
  go_enter Try.func78, Try.ntmps78
  go_wp2
  go_loopg [1, 5] 1 (fun kq v1 v5 w' => v1 = .int .i64 a ∧ v5 = .int .i64 (0 : Int) ∧ w' = w)
  case atStart => exact ⟨rfl, rfl, rfl⟩
  case round =>
    obtain ⟨rfl, rfl, rfl⟩ := hrel
    go_wp2
    go_ret
    exact ⟨rfl, rfl⟩
def laws_markWindowS.f (l : List SimplWindow) (a : Int) : Option (Int × List SimplWindow) := if 0 ≤ a ∧ a + 4 * l.length ≤ 4611686018427387904 then some (a + 4 * l.length, marksG (markW) 4 a l.length) else none
theorem laws_markWindowS.calls (P_ : Nat → Prop) (u : Value) (l : List SimplWindow) (a : Int) (r1 : Int) (r2 : List SimplWindow) (w0 w : World) (hB : Below w0.heap.size w0 w) (ho : Kd.R kimplWindow 48 w w0.heap.size P_ u l) (h : laws_markWindowS.f l a = some (r1, r2)) :
    Calls Try.prog 78 #[u, .int .i64 a] w fun e w' => e = .returned (.int .i64 r1) ∧ Kd.R kimplWindow 48 w' w0.heap.size P_ u r2 ∧ Below w0.heap.size w0 w' ∧ Kept w w' P_ := by
  unfold laws_markWindowS.f at h
  split at h
  next hh =>
    obtain ⟨rfl, rfl⟩ : a + 4 * l.length = r1 ∧ marksG (markW) 4 a l.length = r2 := by simpa using h
    by_cases hl : 0 < l.length
    · obtain ⟨g, cap, cur, hv, hP, hg, hsz, htk, hge, hback⟩ := R_blk flat_markWindowS ho hl
      subst hv
      refine (laws_markWindowS_loop g cap l a cur w hg htk hsz hh.1 hh.2).mono ?_
      rintro e w' ⟨rfl, cur', hs', ht', hw'⟩
      exact ⟨rfl, marks_fin flat_markWindowS hB ho rfl hg hP hge hback hs' ht' hw'⟩
    · obtain rfl : l = [] := List.eq_nil_of_length_eq_zero (by omega)
      obtain ⟨A, c, rfl⟩ := Kd.R_slice ho
      refine (laws_markWindowS_nil A c a w).mono ?_
      rintro e w' ⟨rfl, rfl⟩
      exact ⟨by simp, ho, hB, Kept.refl _ _⟩
  next => cases h
end Go.Proofs.Ytoomjghabiojkaa.P


/- markBoolS: a slice of flat elements written in place. -/
namespace Go.Proofs.Ytoomjghabiojkaa.P
open Go.RowKit Go.Proofs.YtoomjghabiojkaaW.PrintWords Go.Proofs.YtoomjghabiojkaaW.PrintMore Go.Proofs.YtoomjghabiojkaaW.Mine
open List (setIfInBounds_toArray set_cons_zero set_cons_succ)
set_option linter.unusedVariables false
set_option linter.unusedSimpArgs false
def cellsB (x : Bool) : List Value := [.bool x]
theorem flat_markBoolS : FlatK Kd.bool cellsB 1 := ⟨rfl, fun _ => rfl, fun h => h, fun _ _ _ _ => rfl⟩
set_option maxHeartbeats 8000000 in
set_option maxRecDepth 100000 in
theorem laws_markBoolS_loop (g c : Nat) (l : List Bool) (a : Int) (cur : Array Value) (w : World) (hg : w.heap[g]? = some (.cells cur 4 (0, 0))) (ht : cur.toList.take (l.length * 1) = l.flatMap cellsB) (hsz : l.length * 1 ≤ cur.size) (ha : 0 ≤ a) (hb : a + 1 * l.length ≤ 4611686018427387904) :
    Calls Try.prog 95 #[.slice (some ⟨g, 0, none⟩) l.length c, .int .i64 a] w fun e w' => e = .returned (.int .i64 (a + 1 * l.length)) ∧ ∃ cur' : Array Value, cur'.size = cur.size ∧ cur'.toList.take (l.length * 1) = (marksG (fun k => decide (k % 3 = 0)) 1 a l.length).flatMap cellsB ∧ w' = w.setRow g cur' := by
  have HG := Aside0.mk hg; have HT := Aside0.mk ht; clear hg ht
  go_enter Try.func95, Try.ntmps95
  go_wp2
  go_loopg [1, 5] (l.length + 1) (fun kq v1 v5 w' => ∃ (i : Nat) (ci : Array Value), v1 = .int .i64 (a + 1 * i) ∧ v5 = .int .i64 (i : Int) ∧ Aside0 (kq + i = l.length + 1 ∧ i ≤ l.length) ∧ Aside0 (ci.size = cur.size) ∧ Aside0 (ci.toList.take (l.length * 1) = (marksG (fun k => decide (k % 3 = 0)) 1 a i ++ l.drop i).flatMap cellsB) ∧ Aside0 (w' = w.setRow g ci))
  case atStart => exact ⟨0, cur, by simp, rfl, ⟨rfl, Nat.zero_le _⟩, ⟨rfl⟩, ⟨by simpa [marksG] using HT.out⟩, ⟨(setRow_self w g cur _ _ HG.out).symm⟩⟩
  case round =>
    obtain ⟨i, ci, rfl, rfl, HK, HZ, HC, HW⟩ := hrel
    by_cases hi : i < l.length
    · obtain ⟨k1, rfl⟩ : ∃ q, gk = q + 1 := ⟨gk - 1, by have := HK.out; omega⟩
      have hi1 : decide ((i : Int) < (l.length : Int)) = true := decide_eq_true (by omega)
      have p5 := eq_true (show (0 : Int) ≤ (i : Int) by omega); have q5 := eq_true (show (i : Int) < (l.length : Int) by omega)
      obtain ⟨b, hbb⟩ : ∃ b : Int, b = a + 1 * i := ⟨_, rfl⟩
      have hb0 : 0 ≤ b ∧ b + 1 ≤ 4611686018427387904 := by omega
      rw [← hbb]; have HBB := Aside0.mk hbb; clear hbb
      obtain ⟨c0_, hc0_⟩ : ∃ x, x = ci := ⟨_, rfl⟩
      have hz0_ : c0_.size = cur.size := by rw [hc0_]; exact HZ.out
      rw [← hc0_] at HC; have HW2 := HW.out; subst HW2; rw [← hc0_]
      clear hc0_ HZ HW
      refine wp_seq ?_
      refine wp_seq ?_
      refine mReg [0, 1, 2, 3] rfl rfl ?_
      refine tlP (v := .int .i64 ((i : Int))) 6 rfl ?_
      simp only [Act.put, setIfInBounds_toArray, set_cons_zero, set_cons_succ]
      refine tlP (v := .slice (some ⟨g, 0, none⟩) l.length c) 7 rfl ?_
      simp only [Act.put, setIfInBounds_toArray, set_cons_zero, set_cons_succ]
      refine tlP (v := .int .i64 (l.length : Int)) 8 (hr := by go_simp; try rfl) rfl ?_
      simp only [Act.put, setIfInBounds_toArray, set_cons_zero, set_cons_succ]
      refine tlP (v := .bool true) 9 rfl ?_ (hr := by go_simp; try simp [hi])
      simp only [Act.put, setIfInBounds_toArray, set_cons_zero, set_cons_succ]
      refine tl0 ?_
      refine wp_cond_true rfl ?_
      refine wp_skip ?_
      refine thN ?_
      refine wp_seq ?_
      refine wp_block ?_
      refine wp_seq ?_
      refine mReg [0, 1, 2, 3, 4, 5, 6] rfl rfl ?_
      refine tlP (v := .slice (some ⟨g, 0, none⟩) l.length c) 12 rfl ?_
      simp only [Act.put, setIfInBounds_toArray, set_cons_zero, set_cons_succ]
      refine tlP (v := .int .i64 ((i : Int))) 13 rfl ?_
      simp only [Act.put, setIfInBounds_toArray, set_cons_zero, set_cons_succ]
      refine tlP (v := .int .i64 (b)) 14 rfl ?_
      simp only [Act.put, setIfInBounds_toArray, set_cons_zero, set_cons_succ]
      refine tlP (v := .int .i64 ((b) % 3)) 15 (hr := by go_simp; first | rfl | exact Int.tmod_eq_emod_of_nonneg (by omega)) rfl ?_
      simp only [Act.put, setIfInBounds_toArray, set_cons_zero, set_cons_succ]
      refine tlP (v := .bool (decide ((b) % 3 = 0))) 16 (hr := by go_simp; try rfl) rfl ?_
      simp only [Act.put, setIfInBounds_toArray, set_cons_zero, set_cons_succ]
      refine tlP (v := .pointer (some ⟨g, i, none⟩)) 17 (hr := by go_simp; try rfl) rfl ?_
      simp only [Act.put, setIfInBounds_toArray, set_cons_zero, set_cons_succ]
      have hc_ : (w.setRow g c0_).cell? ⟨g, i, none⟩ = some (c0_.getD (i) undef) := mCell HG.out (by simp only [hz0_]; omega)
      have hf_ : (w.setRow g c0_).frozen? ⟨g, i, none⟩ = false := mFrozen HG.out _
      refine mSkip (w2 := w.setRow g (c0_.setIfInBounds (i) (.bool (decide ((b) % 3 = 0))))) rfl (by rw [← mSet]; go_simp; try rfl) ?_
      clear hc_ hf_
      obtain ⟨c1_, hc1_⟩ : ∃ x, x = c0_.setIfInBounds (i) (.bool (decide ((b) % 3 = 0))) := ⟨_, rfl⟩
      have hz1_ : c1_.size = cur.size := by rw [hc1_, Array.size_setIfInBounds, hz0_]
      rw [← hc1_]; have HC1_ := Aside0.mk hc1_; clear hc1_
      refine tl0 ?_
      refine mReg [0, 1, 2] rfl rfl ?_
      refine tlP (v := .int .i64 (b)) 18 rfl ?_
      simp only [Act.put, setIfInBounds_toArray, set_cons_zero, set_cons_succ]
      refine tlP (v := .int .i64 (b + 1)) 19 rfl ?_ (hr := run_arith (q := .add) (k := .i64) (m := b) (n := 1) (r := b + 1) rfl rfl rfl (.inl ⟨rfl, by rw [show (b : Int) + 1 = b + 1 by omega]; exact i64_ok (n := b + 1) (by omega) (by omega)⟩))
      simp only [Act.put, setIfInBounds_toArray, set_cons_zero, set_cons_succ]
      refine tlP (v := .int .i64 (b + 1)) 1 rfl ?_
      simp only [Act.put, setIfInBounds_toArray, set_cons_zero, set_cons_succ]
      refine tlE ?_
      show Exit.inBlock _ _ _ _ _
      simp only [Exit.inBlock]
      refine thN ?_
      refine mReg [0, 1, 2] rfl rfl ?_
      refine tlP (v := .int .i64 ((i : Int))) 10 rfl ?_
      simp only [Act.put, setIfInBounds_toArray, set_cons_zero, set_cons_succ]
      refine tlP (v := .int .i64 ((i : Int) + 1)) 11 rfl ?_ (hr := run_arith (q := .add) (k := .i64) (m := (i : Int)) (n := 1) (r := (i : Int) + 1) rfl rfl rfl (.inl ⟨rfl, i64_ok (n := (i : Int) + 1) (by omega) (by omega)⟩))
      simp only [Act.put, setIfInBounds_toArray, set_cons_zero, set_cons_succ]
      refine tlP (v := .int .i64 ((i : Int) + 1)) 5 rfl ?_
      simp only [Act.put, setIfInBounds_toArray, set_cons_zero, set_cons_succ]
      refine tlE ?_
      go_wp2
      go_roundg k1
      case measure => have := HK.out; omega
      case rel => exact ⟨i + 1, c1_, by rw [HBB.out]; congr 1; push_cast; omega, by congr 1, ⟨by have := HK.out; omega, by omega⟩, ⟨hz1_⟩, ⟨marks_round flat_markBoolS.len (fun k => decide (k % 3 = 0)) a l i hi HC.out (by rw [hz0_]; exact hsz) (by rw [HC1_.out, HBB.out, Nat.mul_one]; rfl)⟩, ⟨rfl⟩⟩
    · have hkk := HK.out
      by_cases hge : i = l.length
      · subst hge
        have HW2 := HW.out; subst HW2
        go_wp2
        go_ret
        exact ⟨by first | rfl | simp, ci, HZ.out, by simpa using HC.out, rfl⟩
      · exfalso; omega
set_option maxHeartbeats 1600000 in
set_option maxRecDepth 100000 in
theorem laws_markBoolS_nil (A : Option Addr) (c : Nat) (a : Int) (w : World) : Calls Try.prog 95 #[.slice A 0 c, .int .i64 a] w fun e w' => e = .returned (.int .i64 a) ∧ w' = w := by
  go_enter Try.func95, Try.ntmps95
  go_wp2
  go_loopg [1, 5] 1 (fun kq v1 v5 w' => v1 = .int .i64 a ∧ v5 = .int .i64 (0 : Int) ∧ w' = w)
  case atStart => exact ⟨rfl, rfl, rfl⟩
  case round =>
    obtain ⟨rfl, rfl, rfl⟩ := hrel
    go_wp2
    go_ret
    exact ⟨rfl, rfl⟩
def laws_markBoolS.f (l : List Bool) (a : Int) : Option (Int × List Bool) := if 0 ≤ a ∧ a + 1 * l.length ≤ 4611686018427387904 then some (a + 1 * l.length, marksG (fun k => decide (k % 3 = 0)) 1 a l.length) else none
theorem laws_markBoolS.calls (P_ : Nat → Prop) (u : Value) (l : List Bool) (a : Int) (r1 : Int) (r2 : List Bool) (w0 w : World) (hB : Below w0.heap.size w0 w) (ho : Kd.R Kd.bool 4 w w0.heap.size P_ u l) (h : laws_markBoolS.f l a = some (r1, r2)) :
    Calls Try.prog 95 #[u, .int .i64 a] w fun e w' => e = .returned (.int .i64 r1) ∧ Kd.R Kd.bool 4 w' w0.heap.size P_ u r2 ∧ Below w0.heap.size w0 w' ∧ Kept w w' P_ := by
  unfold laws_markBoolS.f at h
  split at h
  next hh =>
    obtain ⟨rfl, rfl⟩ : a + 1 * l.length = r1 ∧ marksG (fun k => decide (k % 3 = 0)) 1 a l.length = r2 := by simpa using h
    by_cases hl : 0 < l.length
    · obtain ⟨g, cap, cur, hv, hP, hg, hsz, htk, hge, hback⟩ := R_blk flat_markBoolS ho hl
      subst hv
      refine (laws_markBoolS_loop g cap l a cur w hg htk hsz hh.1 hh.2).mono ?_
      rintro e w' ⟨rfl, cur', hs', ht', hw'⟩
      exact ⟨rfl, marks_fin flat_markBoolS hB ho rfl hg hP hge hback hs' ht' hw'⟩
    · obtain rfl : l = [] := List.eq_nil_of_length_eq_zero (by omega)
      obtain ⟨A, c, rfl⟩ := Kd.R_slice ho
      refine (laws_markBoolS_nil A c a w).mono ?_
      rintro e w' ⟨rfl, rfl⟩
      exact ⟨by simp, ho, hB, Kept.refl _ _⟩
  next => cases h
end Go.Proofs.Ytoomjghabiojkaa.P


/- markMachine: its rows written in place. -/
namespace Go.Proofs.Ytoomjghabiojkaa.P
open Go.RowKit Go.Proofs.YtoomjghabiojkaaW.PrintWords Go.Proofs.YtoomjghabiojkaaW.PrintLast Go.Proofs.YtoomjghabiojkaaW.PrintMore Go.Proofs.YtoomjghabiojkaaW.Mine
set_option linter.unusedVariables false
set_option linter.unusedSimpArgs false
def laws_markMachine.f (l0 : List (List Int)) (l1 : List SimplWindow) (l2 : List Bool) (a : Int) : Option (Int × List (List Int) × List SimplWindow × List Bool) :=
  if 0 ≤ a ∧ a + sizeBB l0 + 4 * l1.length + 1 * l2.length ≤ 4611686018427387904 ∧ l0.length ≤ 4611686018427387904 then some (a + sizeBB l0 + 4 * l1.length + 1 * l2.length, marksBB (a) l0, marksG markW 4 (a + sizeBB l0) l1.length, marksG (fun k => decide (k % 3 = 0)) 1 (a + sizeBB l0 + 4 * l1.length) l2.length) else none
set_option maxHeartbeats 1600000 in
set_option maxRecDepth 100000 in
theorem laws_markMachine.calls (P_ : Nat → Prop) (u0 u1 u2 : Value) (l0 : List (List Int)) (l1 : List SimplWindow) (l2 : List Bool) (a : Int) (r1 : Int) (r2 : List (List Int)) (r3 : List SimplWindow) (r4 : List Bool) (w0 w : World) (hB : Below w0.heap.size w0 w) (ho0 : Kd.S (Kd.slice 5 (Kd.int .u8)) 119 w w0.heap.size P_ u0 l0) (ho1 : Kd.R kimplWindow 48 w w0.heap.size P_ u1 l1) (ho2 : Kd.R Kd.bool 4 w w0.heap.size P_ u2 l2)
    (h : laws_markMachine.f l0 l1 l2 a = some (r1, r2, r3, r4)) :
    Calls Try.prog 36 #[.agg #[u0, u1, u2], .int .i64 a] w fun e w' => e = .returned (.int .i64 r1) ∧ Kd.S (Kd.slice 5 (Kd.int .u8)) 119 w' w0.heap.size P_ u0 r2 ∧ Kd.R kimplWindow 48 w' w0.heap.size P_ u1 r3 ∧ Kd.R Kd.bool 4 w' w0.heap.size P_ u2 r4 ∧ Below w0.heap.size w0 w' ∧ Kept w w' P_ := by
  unfold laws_markMachine.f at h
  split at h
  next hh =>
    obtain ⟨rfl, rfl, rfl, rfl⟩ : a + sizeBB l0 + 4 * l1.length + 1 * l2.length = r1 ∧ marksBB (a) l0 = r2 ∧ marksG markW 4 (a + sizeBB l0) l1.length = r3 ∧ marksG (fun k => decide (k % 3 = 0)) 1 (a + sizeBB l0 + 4 * l1.length) l2.length = r4 := by simpa using h
    obtain ⟨hh0, hh1, hh2⟩ := hh
    clear h
    obtain ⟨A0, c0, rfl⟩ := Kd.S_slice ho0
    have HO0 := Aside0.mk (show Kd.S (Kd.slice 5 (Kd.int .u8)) 119 w w0.heap.size (fun k => P_ k ∧ k < w.heap.size) (.slice A0 l0.length c0) l0 from Kd.S_mono (Kd.S_bound ho0) (fun k hk => ⟨hk.1, hk.2.2.1⟩))
    obtain ⟨A1, c1, rfl⟩ := Kd.R_slice ho1
    have HO1 := Aside0.mk (show Kd.R kimplWindow 48 w w0.heap.size (fun k => P_ k ∧ k < w.heap.size) (.slice A1 l1.length c1) l1 from Kd.R_mono (Kd.R_bound ho1) (fun k hk => ⟨hk.1, hk.2.2.1⟩))
    obtain ⟨A2, c2, rfl⟩ := Kd.R_slice ho2
    have HO2 := Aside0.mk (show Kd.R Kd.bool 4 w w0.heap.size (fun k => P_ k ∧ k < w.heap.size) (.slice A2 l2.length c2) l2 from Kd.R_mono (Kd.R_bound ho2) (fun k hk => ⟨hk.1, hk.2.2.1⟩))
    have HB0 := Aside0.mk hB; clear hB ho0 ho1 ho2
    have HH0 := Aside0.mk hh0
    have HH1 := Aside0.mk hh1
    have HH2 := Aside0.mk hh2
    go_enter Try.func36, Try.ntmps36
    go_wp2_with (first | ((with_reducible refine gate_dst (N := 2) rfl ?_); refine box_event ?hg (N := 2) ?hd (cs := #[.slice A0 l0.length c0, .slice A1 l1.length c1, .slice A2 l2.length c2]) (t := 60) ?hr ?_; (case hd => rfl); (case hg => rfl); (case hr => first | (go_simp; done) | (go_simp; rfl)); intro g hg w1 hbox hb; have hgw : g ≥ w.heap.size := (by rw [hg]; exact Nat.le_refl _); have HO0_0 := Aside0.mk (Kd.S_below HO0.out hb); have HO1_0 := Aside0.mk (Kd.R_below HO1.out hb); have HO2_0 := Aside0.mk (Kd.R_below HO2.out hb); have HB_0 := Aside0.mk (below_step HB0.out hb); have HK_0 := Aside0.mk (Kept.of_below hb P_); have HX_0 := Aside0.mk hbox; have HG := Aside0.mk hgw; have hcz0 : w1.cell? ⟨g, 0, none⟩ = some (.slice A0 l0.length c0) := (blk_cell hbox 0).trans rfl; clear hg hb hbox hgw) | (go_at_call 20; (refine (laws_markMemory.calls (fun k => ((P_ k ∧ k < w.heap.size) ∧ k < w1.heap.size) ∧ Ty w1 (119 :: (Kd.slice 5 (Kd.int .u8)).E) k) (.slice A0 l0.length c0) l0 (a) (a + sizeBB l0) (marksBB (a) l0) w0 _ HB_0.out (S_ty HO0_0.out) (if_pos ⟨by have := HH0.out; have := HH1.out; omega, by have := HH0.out; have := HH1.out; omega, HH2.out⟩)).mono ?_); rintro e w2 ⟨rfl, hr2, hb2, hk2⟩; have HB_1 := Aside0.mk hb2; have HK_1 := Aside0.mk (HK_0.out.then_ hk2 (fun k hk => .inl hk.1.1.1)); have HO0_1 := Aside0.mk (Kd.S_mono hr2 (fun k hk => hk.1.1)); have HO1_1 := Aside0.mk (R_tyKept HO1_0.out hk2 (by intro z hz hz2; revert hz hz2; simp [Kd.slice, Kd.int, Kd.bool, Kd.scalar, kimplWindow, Kd.iso, Kd.pair]; try omega)); have HO2_1 := Aside0.mk (R_tyKept HO2_0.out hk2 (by intro z hz hz2; revert hz hz2; simp [Kd.slice, Kd.int, Kd.bool, Kd.scalar, kimplWindow, Kd.iso, Kd.pair]; try omega)); have HX_1 := Aside0.mk (blk_kept HX_0.out hk2 (fun hk => absurd hk.1.1.2 (by have := HG.out; omega))); have hcz1 : w2.cell? ⟨g, 1, none⟩ = some (.slice A1 l1.length c1) := (blk_cell HX_1.out 1).trans rfl; clear hr2 hb2 hk2 hcz0) | (go_at_call 78; (refine (laws_markWindowS.calls (fun k => ((P_ k ∧ k < w.heap.size) ∧ k < w2.heap.size) ∧ Ty w2 (48 :: kimplWindow.E) k) (.slice A1 l1.length c1) l1 (a + sizeBB l0) (a + sizeBB l0 + 4 * l1.length) (marksG markW 4 (a + sizeBB l0) l1.length) w0 _ HB_1.out (R_ty HO1_1.out) (if_pos ⟨by have := HH0.out; have := HH1.out; omega, by have := HH0.out; have := HH1.out; omega⟩)).mono ?_); rintro e w3 ⟨rfl, hr2, hb2, hk2⟩; have HB_2 := Aside0.mk hb2; have HK_2 := Aside0.mk (HK_1.out.then_ hk2 (fun k hk => .inl hk.1.1.1)); have HO0_2 := Aside0.mk (S_tyKept HO0_1.out hk2 (by intro z hz hz2; revert hz hz2; simp [Kd.slice, Kd.int, Kd.bool, Kd.scalar, kimplWindow, Kd.iso, Kd.pair]; try omega)); have HO1_2 := Aside0.mk (Kd.R_mono hr2 (fun k hk => hk.1.1)); have HO2_2 := Aside0.mk (R_tyKept HO2_1.out hk2 (by intro z hz hz2; revert hz hz2; simp [Kd.slice, Kd.int, Kd.bool, Kd.scalar, kimplWindow, Kd.iso, Kd.pair]; try omega)); have HX_2 := Aside0.mk (blk_kept HX_1.out hk2 (fun hk => absurd hk.1.1.2 (by have := HG.out; omega))); have hcz2 : w3.cell? ⟨g, 2, none⟩ = some (.slice A2 l2.length c2) := (blk_cell HX_2.out 2).trans rfl; clear hr2 hb2 hk2 hcz1) | (go_at_call 95; (refine (laws_markBoolS.calls (fun k => ((P_ k ∧ k < w.heap.size) ∧ k < w3.heap.size) ∧ Ty w3 (4 :: Kd.bool.E) k) (.slice A2 l2.length c2) l2 (a + sizeBB l0 + 4 * l1.length) (a + sizeBB l0 + 4 * l1.length + 1 * l2.length) (marksG (fun k => decide (k % 3 = 0)) 1 (a + sizeBB l0 + 4 * l1.length) l2.length) w0 _ HB_2.out (R_ty HO2_2.out) (if_pos ⟨by have := HH0.out; have := HH1.out; omega, by have := HH0.out; have := HH1.out; omega⟩)).mono ?_); rintro e w4 ⟨rfl, hr2, hb2, hk2⟩; have HB_3 := Aside0.mk hb2; have HK_3 := Aside0.mk (HK_2.out.then_ hk2 (fun k hk => .inl hk.1.1.1)); have HO0_3 := Aside0.mk (S_tyKept HO0_2.out hk2 (by intro z hz hz2; revert hz hz2; simp [Kd.slice, Kd.int, Kd.bool, Kd.scalar, kimplWindow, Kd.iso, Kd.pair]; try omega)); have HO1_3 := Aside0.mk (R_tyKept HO1_2.out hk2 (by intro z hz hz2; revert hz hz2; simp [Kd.slice, Kd.int, Kd.bool, Kd.scalar, kimplWindow, Kd.iso, Kd.pair]; try omega)); have HO2_3 := Aside0.mk (Kd.R_mono hr2 (fun k hk => hk.1.1)); clear hr2 hb2 hk2 hcz2))
    go_ret
    exact ⟨by first | rfl | simp, Kd.S_mono HO0_3.out (fun k hk => hk.1), Kd.R_mono HO1_3.out (fun k hk => hk.1), Kd.R_mono HO2_3.out (fun k hk => hk.1), HB_3.out, HK_3.out⟩
  next => cases h
end Go.Proofs.Ytoomjghabiojkaa.P


/- Machines: what the laws ask of them; NewMachine. -/
namespace Go.Proofs.Ytoomjghabiojkaa.P
open Go.RowKit Go.Proofs.YtoomjghabiojkaaW.PrintWords Go.Proofs.YtoomjghabiojkaaW.Mine
set_option linter.unusedVariables false
theorem markC (m : List (List Int)) (l : List SimplWindow) (s : List Bool) (h : okM m) (hl : l.length ≤ 1048576) (hs : s.length ≤ 1048576) : laws_markMachine.f m l s 1 = some ((1 : Int) + (sizeBB m : Int) + 4 * (l.length : Int) + 1 * (s.length : Int), marksBB 1 m, marksG markW 4 (1 + sizeBB m) l.length, marksG (fun k => decide (k % 3 = 0)) 1 (1 + sizeBB m + 4 * l.length) s.length) := if_pos ⟨by omega, by have := h.2.2; omega, by have := h.1; omega⟩
end Go.Proofs.Ytoomjghabiojkaa.P


namespace Go.Proofs.Ytoomjghabiojkaa.P
open Go.RowKit Go.Proofs.YtoomjghabiojkaaW.PrintWords Go.Proofs.YtoomjghabiojkaaW.PrintLast Go.Proofs.YtoomjghabiojkaaW.PrintMore
attribute [local go_sem] max2_int min2_int max_two min_two max_three min_three max_four min_four   -- for this text's walks alone
set_option linter.unusedVariables false
set_option linter.unusedSimpArgs false

def impl_ShownBytes.f (k : Nat) (l0_0 : List (List Int)) (l0_1 : List (SimplWindow)) (l0_2 : List Bool) : Option ((List (List Int)) × Bool) := (impl_IsMachine.f k l0_0 l0_1 l0_2).bind fun t825 => (if t825 = true then ((impl_Machine_shown.f k l0_0 l0_1 l0_2).bind fun t826 => (some (t826, true))) else (some (([] : List (List Int)), false)))
set_option maxHeartbeats 8000000 in
set_option maxRecDepth 100000 in
theorem impl_ShownBytes.calls (k : Nat) (A0_0 : Option Addr) (c0_0 : Nat) (l0_0 : List (List Int)) (A0_1 : Option Addr) (c0_1 : Nat) (l0_1 : List (SimplWindow)) (A0_2 : Option Addr) (c0_2 : Nat) (l0_2 : List Bool) (r1 : List (List Int)) (r2 : Bool) (w : World) (hr0_0 : Kd.C (Kd.slice 5 (Kd.int .u8)) w A0_0 l0_0.length l0_0) (hc0_0 : l0_0.length ≤ c0_0) (hr0_1 : Kd.C kimplWindow w A0_1 l0_1.length l0_1) (hc0_1 : l0_1.length ≤ c0_1) (hr0_2 : Kd.C Kd.bool w A0_2 l0_2.length l0_2) (hc0_2 : l0_2.length ≤ c0_2) (h : impl_ShownBytes.f k l0_0 l0_1 l0_2 = some (r1, r2)) :
    Calls Try.prog 51 #[.agg #[.slice A0_0 l0_0.length c0_0, .slice A0_1 l0_1.length c0_1, .slice A0_2 l0_2.length c0_2]] w fun e w' => ∃ v0_ : Value, e = .returned (.tuple #[v0_, .bool r2]) ∧ Kd.S (Kd.slice 5 (Kd.int .u8)) 119 w' w.heap.size (fun _ => True) v0_ r1 ∧ Below w.heap.size w w' := by
  have hu60 := Try.underlying60
  have HR0_0 := Aside0.mk hr0_0
  have HC0_0 := Aside0.mk hc0_0
  clear hr0_0 hc0_0
  have HR0_1 := Aside0.mk hr0_1
  have HC0_1 := Aside0.mk hc0_1
  clear hr0_1 hc0_1
  have HR0_2 := Aside0.mk hr0_2
  have HC0_2 := Aside0.mk hc0_2
  clear hr0_2 hc0_2
  have HB := Aside0.mk (Below.refl w.heap.size w)
  have H : ((impl_IsMachine.f k l0_0 l0_1 l0_2).bind fun t825 => (if t825 = true then ((impl_Machine_shown.f k l0_0 l0_1 l0_2).bind fun t826 => (some (t826, true))) else (some (([] : List (List Int)), false)))) = some (r1, r2) := h
  clear h
  replace H := Option.bind_eq_some_iff.mp H
  obtain ⟨t825, A20, H⟩ := H
  replace H : (if t825 = true then ((impl_Machine_shown.f k l0_0 l0_1 l0_2).bind fun t826 => (some (t826, true))) else (some (([] : List (List Int)), false))) = some (r1, r2) := H
  have A2 := Aside0.mk A20
  clear A20
  by_cases c3 : t825 = true
  · subst c3
    have H1 : ((impl_Machine_shown.f k l0_0 l0_1 l0_2).bind fun t826 => (some (t826, true))) = some (r1, r2) := by rw [if_pos rfl] at H; exact H
    clear H
    have H := H1
    clear H1
    replace H := Option.bind_eq_some_iff.mp H
    obtain ⟨t826, A40, H⟩ := H
    replace H : (some (t826, true)) = some (r1, r2) := H
    have A4 := Aside0.mk A40
    clear A40
    simp only [Option.some.injEq, Prod.mk.injEq] at H
    obtain ⟨rfl, rfl⟩ := H
    go_enter Try.func51, Try.ntmps51
    go_wp2_with (first | ((with_reducible refine gate_dst (N := 1) rfl ?_); refine box_event ?hg (N := 1) ?hd (cs := #[.slice A0_0 l0_0.length c0_0, .slice A0_1 l0_1.length c0_1, .slice A0_2 l0_2.length c0_2]) (t := 60) ?hr ?_; (case hd => rfl); (case hg => rfl); (case hr => first | (go_simp; done) | (go_simp; rfl)); intro gb824 hg w5 hbox hb; have n0_ := Aside0.mk (below_step (by repeat (first | (with_reducible first | exact HB.out | apply below_alloc | apply pw_below_drewN | apply below_drew1) | exact HB.out)) hb); have n1_ := Aside0.mk (hbox); have n2_ := Aside0.mk ((by rw [hg]; exact (below_size (by repeat (first | (with_reducible first | exact HB.out | apply below_alloc | apply pw_below_drewN | apply below_drew1) | exact HB.out))) : w.heap.size ≤ gb824)); have n3_ := Aside0.mk ((by rw [hg]; exact (below_size (by repeat (first | (with_reducible first | exact HB.out | apply below_alloc | apply pw_below_drewN | apply below_drew1) | exact HB.out))) : w.heap.size ≤ gb824)); clear HB; have HB := n0_; have BK824 := n1_; have GW824 := n2_; have GE824 := n3_; clear n0_ n1_ n2_ n3_; clear hb hbox hg; have hcz6_0 : w5.cell? ⟨gb824, 0, none⟩ = some (.slice A0_0 l0_0.length c0_0) := (blk_cell BK824.out 0).trans rfl; have hcz6_1 : w5.cell? ⟨gb824, 1, none⟩ = some (.slice A0_1 l0_1.length c0_1) := (blk_cell BK824.out 1).trans rfl; have hcz6_2 : w5.cell? ⟨gb824, 2, none⟩ = some (.slice A0_2 l0_2.length c0_2) := (blk_cell BK824.out 2).trans rfl; have hfz6_0 := blk_frozen BK824.out 0; have hfz6_1 := blk_frozen BK824.out 1; have hfz6_2 := blk_frozen BK824.out 2) | ((with_reducible refine gate_callee (f := 109) rfl ?_); refine goesL_ (some 5) rfl rfl Try.func109 (by kernel_rfl) rfl #[.agg #[.slice A0_0 l0_0.length c0_0, .slice A0_1 l0_1.length c0_1, .slice A0_2 l0_2.length c0_2]] rfl (by (try simp only [List.map_toArray, List.map_cons, List.map_nil]); first | done | rfl | (simp only [List.length_drop, List.length_take]; rfl)) ?_; (with_reducible refine (impl_IsMachine.calls k _ _ l0_0 _ _ l0_1 _ _ l0_2 true _ ?side1 ?side2 ?side3 ?side4 ?side5 ?side6 A2.out).mono ?_); (case side1 => repeat (first | exact (Kd.C_below HR0_0.out HB.out) | (with_reducible refine Kd.C_alloc ?_ _) | (with_reducible refine Kd.C_drewN ?_ _) | (with_reducible refine Kd.C_drew ?_))); (case side2 => exact HC0_0.out); (case side3 => repeat (first | exact (Kd.C_below HR0_1.out HB.out) | (with_reducible refine Kd.C_alloc ?_ _) | (with_reducible refine Kd.C_drewN ?_ _) | (with_reducible refine Kd.C_drew ?_))); (case side4 => exact HC0_1.out); (case side5 => repeat (first | exact (Kd.C_below HR0_2.out HB.out) | (with_reducible refine Kd.C_alloc ?_ _) | (with_reducible refine Kd.C_drewN ?_ _) | (with_reducible refine Kd.C_drew ?_))); (case side6 => exact HC0_2.out); rintro e w7 ⟨rfl, hb⟩; refine ⟨_, rfl, ?_⟩; have n0_ := Aside0.mk (blk_below (g := gb824) (o := .cells #[.slice A0_0 l0_0.length c0_0, .slice A0_1 l0_1.length c0_1, .slice A0_2 l0_2.length c0_2] 60 (0, 0)) (by (with_reducible repeat (first | refine blk_drewN ?_ _ | refine blk_drew ?_ | refine blk_alloc ?_ _)); exact BK824.out) hb); have n1_ := Aside0.mk (below_step (by repeat (first | (with_reducible first | exact HB.out | apply below_alloc | apply pw_below_drewN | apply below_drew1 | refine below_set ?_ GE824.out) | exact HB.out)) hb); clear BK824; clear HB; have BK824 := n0_; have HB := n1_; clear n0_ n1_; (try clear hb); (try clear hb2); (try clear hk); (try clear hi); have hcz8_0 : w7.cell? ⟨gb824, 0, none⟩ = some (.slice A0_0 l0_0.length c0_0) := (blk_cell BK824.out 0).trans rfl; have hcz8_1 : w7.cell? ⟨gb824, 1, none⟩ = some (.slice A0_1 l0_1.length c0_1) := (blk_cell BK824.out 1).trans rfl; have hcz8_2 : w7.cell? ⟨gb824, 2, none⟩ = some (.slice A0_2 l0_2.length c0_2) := (blk_cell BK824.out 2).trans rfl; have hfz8_0 := blk_frozen BK824.out 0; have hfz8_1 := blk_frozen BK824.out 1; have hfz8_2 := blk_frozen BK824.out 2) | ((with_reducible refine gate_callee (f := 112) rfl ?_); refine goesL_ (some 8) rfl rfl Try.func112 (by kernel_rfl) rfl #[.agg #[.slice A0_0 l0_0.length c0_0, .slice A0_1 l0_1.length c0_1, .slice A0_2 l0_2.length c0_2]] rfl (by (try simp only [List.map_toArray, List.map_cons, List.map_nil]); first | done | rfl | (simp only [List.length_drop, List.length_take]; rfl)) ?_; (with_reducible refine (impl_Machine_shown.calls k _ _ l0_0 _ _ l0_1 _ _ l0_2 t826 _ ?side1 ?side2 ?side3 ?side4 ?side5 ?side6 A4.out).mono ?_); (case side1 => repeat (first | exact (Kd.C_below HR0_0.out HB.out) | (with_reducible refine Kd.C_alloc ?_ _) | (with_reducible refine Kd.C_drewN ?_ _) | (with_reducible refine Kd.C_drew ?_))); (case side2 => exact HC0_0.out); (case side3 => repeat (first | exact (Kd.C_below HR0_1.out HB.out) | (with_reducible refine Kd.C_alloc ?_ _) | (with_reducible refine Kd.C_drewN ?_ _) | (with_reducible refine Kd.C_drew ?_))); (case side4 => exact HC0_1.out); (case side5 => repeat (first | exact (Kd.C_below HR0_2.out HB.out) | (with_reducible refine Kd.C_alloc ?_ _) | (with_reducible refine Kd.C_drewN ?_ _) | (with_reducible refine Kd.C_drew ?_))); (case side6 => exact HC0_2.out); rintro e w9 ⟨v827, rfl, ho0, hb⟩; refine ⟨_, rfl, ?_⟩; have n0_ := Aside0.mk (Kd.S_lower ho0 (below_size (by repeat (first | (with_reducible first | exact HB.out | apply below_alloc | apply pw_below_drewN | apply below_drew1 | refine below_set ?_ GE824.out) | exact HB.out)))); have n1_ := Aside0.mk (blk_below (g := gb824) (o := .cells #[.slice A0_0 l0_0.length c0_0, .slice A0_1 l0_1.length c0_1, .slice A0_2 l0_2.length c0_2] 60 (0, 0)) (by (with_reducible repeat (first | refine blk_drewN ?_ _ | refine blk_drew ?_ | refine blk_alloc ?_ _)); exact BK824.out) hb); have n2_ := Aside0.mk (below_step (by repeat (first | (with_reducible first | exact HB.out | apply below_alloc | apply pw_below_drewN | apply below_drew1 | refine below_set ?_ GE824.out) | exact HB.out)) hb); clear BK824; clear HB; have HO828 := n0_; have BK824 := n1_; have HB := n2_; clear n0_ n1_ n2_; (try clear hb); (try clear hb2); (try clear hk); (try clear hi); (try clear ho0)))
    go_ret2
    exact ⟨_, by first | rfl | (simp [errW_none, errW_some] <;> rfl) | (simp [*, errW_none, errW_some] <;> rfl), by (with_reducible repeat (first | apply Kd.S_alloc | apply Kd.S_drewN | apply Kd.S_drew)); exact HO828.out, by repeat (first | (with_reducible first | exact HB.out | apply below_alloc | apply pw_below_drewN | apply below_drew1 | refine below_set ?_ GE824.out) | exact HB.out)⟩
  · replace c3 := Bool.eq_false_iff.mpr c3
    subst c3
    have H1 : (some (([] : List (List Int)), false)) = some (r1, r2) := by rw [if_neg (show ¬ (false = true) by decide)] at H; exact H
    clear H
    have H := H1
    clear H1
    simp only [Option.some.injEq, Prod.mk.injEq] at H
    obtain ⟨rfl, rfl⟩ := H
    go_enter Try.func51, Try.ntmps51
    go_wp2_with (first | ((with_reducible refine gate_dst (N := 1) rfl ?_); refine box_event ?hg (N := 1) ?hd (cs := #[.slice A0_0 l0_0.length c0_0, .slice A0_1 l0_1.length c0_1, .slice A0_2 l0_2.length c0_2]) (t := 60) ?hr ?_; (case hd => rfl); (case hg => rfl); (case hr => first | (go_simp; done) | (go_simp; rfl)); intro gb824 hg w10 hbox hb; have n0_ := Aside0.mk (below_step (by repeat (first | (with_reducible first | exact HB.out | apply below_alloc | apply pw_below_drewN | apply below_drew1) | exact HB.out)) hb); have n1_ := Aside0.mk (hbox); have n2_ := Aside0.mk ((by rw [hg]; exact (below_size (by repeat (first | (with_reducible first | exact HB.out | apply below_alloc | apply pw_below_drewN | apply below_drew1) | exact HB.out))) : w.heap.size ≤ gb824)); have n3_ := Aside0.mk ((by rw [hg]; exact (below_size (by repeat (first | (with_reducible first | exact HB.out | apply below_alloc | apply pw_below_drewN | apply below_drew1) | exact HB.out))) : w.heap.size ≤ gb824)); clear HB; have HB := n0_; have BK824 := n1_; have GW824 := n2_; have GE824 := n3_; clear n0_ n1_ n2_ n3_; clear hb hbox hg; have hcz11_0 : w10.cell? ⟨gb824, 0, none⟩ = some (.slice A0_0 l0_0.length c0_0) := (blk_cell BK824.out 0).trans rfl; have hcz11_1 : w10.cell? ⟨gb824, 1, none⟩ = some (.slice A0_1 l0_1.length c0_1) := (blk_cell BK824.out 1).trans rfl; have hcz11_2 : w10.cell? ⟨gb824, 2, none⟩ = some (.slice A0_2 l0_2.length c0_2) := (blk_cell BK824.out 2).trans rfl; have hfz11_0 := blk_frozen BK824.out 0; have hfz11_1 := blk_frozen BK824.out 1; have hfz11_2 := blk_frozen BK824.out 2) | ((with_reducible refine gate_callee (f := 109) rfl ?_); refine goesL_ (some 5) rfl rfl Try.func109 (by kernel_rfl) rfl #[.agg #[.slice A0_0 l0_0.length c0_0, .slice A0_1 l0_1.length c0_1, .slice A0_2 l0_2.length c0_2]] rfl (by (try simp only [List.map_toArray, List.map_cons, List.map_nil]); first | done | rfl | (simp only [List.length_drop, List.length_take]; rfl)) ?_; (with_reducible refine (impl_IsMachine.calls k _ _ l0_0 _ _ l0_1 _ _ l0_2 false _ ?side1 ?side2 ?side3 ?side4 ?side5 ?side6 A2.out).mono ?_); (case side1 => repeat (first | exact (Kd.C_below HR0_0.out HB.out) | (with_reducible refine Kd.C_alloc ?_ _) | (with_reducible refine Kd.C_drewN ?_ _) | (with_reducible refine Kd.C_drew ?_))); (case side2 => exact HC0_0.out); (case side3 => repeat (first | exact (Kd.C_below HR0_1.out HB.out) | (with_reducible refine Kd.C_alloc ?_ _) | (with_reducible refine Kd.C_drewN ?_ _) | (with_reducible refine Kd.C_drew ?_))); (case side4 => exact HC0_1.out); (case side5 => repeat (first | exact (Kd.C_below HR0_2.out HB.out) | (with_reducible refine Kd.C_alloc ?_ _) | (with_reducible refine Kd.C_drewN ?_ _) | (with_reducible refine Kd.C_drew ?_))); (case side6 => exact HC0_2.out); rintro e w12 ⟨rfl, hb⟩; refine ⟨_, rfl, ?_⟩; have n0_ := Aside0.mk (blk_below (g := gb824) (o := .cells #[.slice A0_0 l0_0.length c0_0, .slice A0_1 l0_1.length c0_1, .slice A0_2 l0_2.length c0_2] 60 (0, 0)) (by (with_reducible repeat (first | refine blk_drewN ?_ _ | refine blk_drew ?_ | refine blk_alloc ?_ _)); exact BK824.out) hb); have n1_ := Aside0.mk (below_step (by repeat (first | (with_reducible first | exact HB.out | apply below_alloc | apply pw_below_drewN | apply below_drew1 | refine below_set ?_ GE824.out) | exact HB.out)) hb); clear BK824; clear HB; have BK824 := n0_; have HB := n1_; clear n0_ n1_; (try clear hb); (try clear hb2); (try clear hk); (try clear hi)))
    go_ret2
    exact ⟨_, by first | rfl | (simp [errW_none, errW_some] <;> rfl) | (simp [*, errW_none, errW_some] <;> rfl), by first | exact Kd.S_nil _ _ _ _ _ | exact Kd.N_nil _ _ _ _ _ | exact Kd.V_nil _ _ _ _ _ | exact Kd.Q_nil _ _ _ _ _ | exact Kd.R_nil _ _ _ _ _, by repeat (first | (with_reducible first | exact HB.out | apply below_alloc | apply pw_below_drewN | apply below_drew1 | refine below_set ?_ GE824.out) | exact HB.out)⟩

end Go.Proofs.Ytoomjghabiojkaa.P


namespace Go.Proofs.Ytoomjghabiojkaa.P
open Go.RowKit Go.Proofs.YtoomjghabiojkaaW.PrintWords Go.Proofs.YtoomjghabiojkaaW.PrintLast Go.Proofs.YtoomjghabiojkaaW.PrintMore
attribute [local go_sem] max2_int min2_int max_two min_two max_three min_three max_four min_four   -- for this text's walks alone
set_option linter.unusedVariables false
set_option linter.unusedSimpArgs false

def spec_ShownBytes.f (k : Nat) (l0_0 : List (List Int)) (l0_1 : List (SimplWindow)) (l0_2 : List Bool) : Option ((List (List Int)) × Bool) := (spec_l11Machine.f k l0_0 l0_1 l0_2).bind fun t817 => (if t817 = true then ((spec_l11Shown.f k l0_0 l0_1 l0_2).bind fun t818 => (some (t818, true))) else (some ((([] : List (List Int))), false)))
set_option maxHeartbeats 8000000 in
set_option maxRecDepth 100000 in
theorem spec_ShownBytes.calls (k : Nat) (A0_0 : Option Addr) (c0_0 : Nat) (l0_0 : List (List Int)) (A0_1 : Option Addr) (c0_1 : Nat) (l0_1 : List (SimplWindow)) (A0_2 : Option Addr) (c0_2 : Nat) (l0_2 : List Bool) (r1 : List (List Int)) (r2 : Bool) (w : World) (hr0_0 : Kd.C (Kd.slice 5 (Kd.int .u8)) w A0_0 l0_0.length l0_0) (hc0_0 : l0_0.length ≤ c0_0) (hr0_1 : Kd.C kimplWindow w A0_1 l0_1.length l0_1) (hc0_1 : l0_1.length ≤ c0_1) (hr0_2 : Kd.C Kd.bool w A0_2 l0_2.length l0_2) (hc0_2 : l0_2.length ≤ c0_2) (h : spec_ShownBytes.f k l0_0 l0_1 l0_2 = some (r1, r2)) :
    Calls Try.prog 50 #[.agg #[.slice A0_0 l0_0.length c0_0, .slice A0_1 l0_1.length c0_1, .slice A0_2 l0_2.length c0_2]] w fun e w' => ∃ v0_ : Value, e = .returned (.tuple #[v0_, .bool r2]) ∧ Kd.S (Kd.slice 5 (Kd.int .u8)) 119 w' w.heap.size (fun _ => True) v0_ r1 ∧ Below w.heap.size w w' := by
  have hu60 := Try.underlying60
  have HR0_0 := Aside0.mk hr0_0
  have HC0_0 := Aside0.mk hc0_0
  clear hr0_0 hc0_0
  have HR0_1 := Aside0.mk hr0_1
  have HC0_1 := Aside0.mk hc0_1
  clear hr0_1 hc0_1
  have HR0_2 := Aside0.mk hr0_2
  have HC0_2 := Aside0.mk hc0_2
  clear hr0_2 hc0_2
  have HB := Aside0.mk (Below.refl w.heap.size w)
  have H : ((spec_l11Machine.f k l0_0 l0_1 l0_2).bind fun t817 => (if t817 = true then ((spec_l11Shown.f k l0_0 l0_1 l0_2).bind fun t818 => (some (t818, true))) else (some ((([] : List (List Int))), false)))) = some (r1, r2) := h
  clear h
  replace H := Option.bind_eq_some_iff.mp H
  obtain ⟨t817, A20, H⟩ := H
  replace H : (if t817 = true then ((spec_l11Shown.f k l0_0 l0_1 l0_2).bind fun t818 => (some (t818, true))) else (some ((([] : List (List Int))), false))) = some (r1, r2) := H
  have A2 := Aside0.mk A20
  clear A20
  by_cases c3 : t817 = true
  · subst c3
    have H1 : ((spec_l11Shown.f k l0_0 l0_1 l0_2).bind fun t818 => (some (t818, true))) = some (r1, r2) := by rw [if_pos rfl] at H; exact H
    clear H
    have H := H1
    clear H1
    replace H := Option.bind_eq_some_iff.mp H
    obtain ⟨t818, A40, H⟩ := H
    replace H : (some (t818, true)) = some (r1, r2) := H
    have A4 := Aside0.mk A40
    clear A40
    simp only [Option.some.injEq, Prod.mk.injEq] at H
    obtain ⟨rfl, rfl⟩ := H
    go_enter Try.func50, Try.ntmps50
    go_wp2_with (first | ((with_reducible refine gate_dst (N := 1) rfl ?_); refine box_event ?hg (N := 1) ?hd (cs := #[.slice A0_0 l0_0.length c0_0, .slice A0_1 l0_1.length c0_1, .slice A0_2 l0_2.length c0_2]) (t := 60) ?hr ?_; (case hd => rfl); (case hg => rfl); (case hr => first | (go_simp; done) | (go_simp; rfl)); intro gb816 hg w5 hbox hb; have n0_ := Aside0.mk (below_step (by repeat (first | (with_reducible first | exact HB.out | apply below_alloc | apply pw_below_drewN | apply below_drew1) | exact HB.out)) hb); have n1_ := Aside0.mk (hbox); have n2_ := Aside0.mk ((by rw [hg]; exact (below_size (by repeat (first | (with_reducible first | exact HB.out | apply below_alloc | apply pw_below_drewN | apply below_drew1) | exact HB.out))) : w.heap.size ≤ gb816)); have n3_ := Aside0.mk ((by rw [hg]; exact (below_size (by repeat (first | (with_reducible first | exact HB.out | apply below_alloc | apply pw_below_drewN | apply below_drew1) | exact HB.out))) : w.heap.size ≤ gb816)); clear HB; have HB := n0_; have BK816 := n1_; have GW816 := n2_; have GE816 := n3_; clear n0_ n1_ n2_ n3_; clear hb hbox hg; have hcz6_0 : w5.cell? ⟨gb816, 0, none⟩ = some (.slice A0_0 l0_0.length c0_0) := (blk_cell BK816.out 0).trans rfl; have hcz6_1 : w5.cell? ⟨gb816, 1, none⟩ = some (.slice A0_1 l0_1.length c0_1) := (blk_cell BK816.out 1).trans rfl; have hcz6_2 : w5.cell? ⟨gb816, 2, none⟩ = some (.slice A0_2 l0_2.length c0_2) := (blk_cell BK816.out 2).trans rfl; have hfz6_0 := blk_frozen BK816.out 0; have hfz6_1 := blk_frozen BK816.out 1; have hfz6_2 := blk_frozen BK816.out 2) | ((with_reducible refine gate_callee (f := 106) rfl ?_); refine goesL_ (some 5) rfl rfl Try.func106 (by kernel_rfl) rfl #[.agg #[.slice A0_0 l0_0.length c0_0, .slice A0_1 l0_1.length c0_1, .slice A0_2 l0_2.length c0_2]] rfl (by (try simp only [List.map_toArray, List.map_cons, List.map_nil]); first | done | rfl | (simp only [List.length_drop, List.length_take]; rfl)) ?_; (with_reducible refine (spec_l11Machine.calls k _ _ l0_0 _ _ l0_1 _ _ l0_2 true _ ?side1 ?side2 ?side3 ?side4 ?side5 ?side6 A2.out).mono ?_); (case side1 => repeat (first | exact (Kd.C_below HR0_0.out HB.out) | (with_reducible refine Kd.C_alloc ?_ _) | (with_reducible refine Kd.C_drewN ?_ _) | (with_reducible refine Kd.C_drew ?_))); (case side2 => exact HC0_0.out); (case side3 => repeat (first | exact (Kd.C_below HR0_1.out HB.out) | (with_reducible refine Kd.C_alloc ?_ _) | (with_reducible refine Kd.C_drewN ?_ _) | (with_reducible refine Kd.C_drew ?_))); (case side4 => exact HC0_1.out); (case side5 => repeat (first | exact (Kd.C_below HR0_2.out HB.out) | (with_reducible refine Kd.C_alloc ?_ _) | (with_reducible refine Kd.C_drewN ?_ _) | (with_reducible refine Kd.C_drew ?_))); (case side6 => exact HC0_2.out); rintro e w7 ⟨rfl, hb⟩; refine ⟨_, rfl, ?_⟩; have n0_ := Aside0.mk (blk_below (g := gb816) (o := .cells #[.slice A0_0 l0_0.length c0_0, .slice A0_1 l0_1.length c0_1, .slice A0_2 l0_2.length c0_2] 60 (0, 0)) (by (with_reducible repeat (first | refine blk_drewN ?_ _ | refine blk_drew ?_ | refine blk_alloc ?_ _)); exact BK816.out) hb); have n1_ := Aside0.mk (below_step (by repeat (first | (with_reducible first | exact HB.out | apply below_alloc | apply pw_below_drewN | apply below_drew1 | refine below_set ?_ GE816.out) | exact HB.out)) hb); clear BK816; clear HB; have BK816 := n0_; have HB := n1_; clear n0_ n1_; (try clear hb); (try clear hb2); (try clear hk); (try clear hi); have hcz8_0 : w7.cell? ⟨gb816, 0, none⟩ = some (.slice A0_0 l0_0.length c0_0) := (blk_cell BK816.out 0).trans rfl; have hcz8_1 : w7.cell? ⟨gb816, 1, none⟩ = some (.slice A0_1 l0_1.length c0_1) := (blk_cell BK816.out 1).trans rfl; have hcz8_2 : w7.cell? ⟨gb816, 2, none⟩ = some (.slice A0_2 l0_2.length c0_2) := (blk_cell BK816.out 2).trans rfl; have hfz8_0 := blk_frozen BK816.out 0; have hfz8_1 := blk_frozen BK816.out 1; have hfz8_2 := blk_frozen BK816.out 2) | ((with_reducible refine gate_callee (f := 111) rfl ?_); refine goesL_ (some 9) rfl rfl Try.func111 (by kernel_rfl) rfl #[.agg #[.slice A0_0 l0_0.length c0_0, .slice A0_1 l0_1.length c0_1, .slice A0_2 l0_2.length c0_2]] rfl (by (try simp only [List.map_toArray, List.map_cons, List.map_nil]); first | done | rfl | (simp only [List.length_drop, List.length_take]; rfl)) ?_; (with_reducible refine (spec_l11Shown.calls k _ _ l0_0 _ _ l0_1 _ _ l0_2 t818 _ ?side1 ?side2 ?side3 ?side4 ?side5 ?side6 A4.out).mono ?_); (case side1 => repeat (first | exact (Kd.C_below HR0_0.out HB.out) | (with_reducible refine Kd.C_alloc ?_ _) | (with_reducible refine Kd.C_drewN ?_ _) | (with_reducible refine Kd.C_drew ?_))); (case side2 => exact HC0_0.out); (case side3 => repeat (first | exact (Kd.C_below HR0_1.out HB.out) | (with_reducible refine Kd.C_alloc ?_ _) | (with_reducible refine Kd.C_drewN ?_ _) | (with_reducible refine Kd.C_drew ?_))); (case side4 => exact HC0_1.out); (case side5 => repeat (first | exact (Kd.C_below HR0_2.out HB.out) | (with_reducible refine Kd.C_alloc ?_ _) | (with_reducible refine Kd.C_drewN ?_ _) | (with_reducible refine Kd.C_drew ?_))); (case side6 => exact HC0_2.out); rintro e w9 ⟨v819, rfl, ho0, hb⟩; refine ⟨_, rfl, ?_⟩; have n0_ := Aside0.mk (Kd.S_lower ho0 (below_size (by repeat (first | (with_reducible first | exact HB.out | apply below_alloc | apply pw_below_drewN | apply below_drew1 | refine below_set ?_ GE816.out) | exact HB.out)))); have n1_ := Aside0.mk (blk_below (g := gb816) (o := .cells #[.slice A0_0 l0_0.length c0_0, .slice A0_1 l0_1.length c0_1, .slice A0_2 l0_2.length c0_2] 60 (0, 0)) (by (with_reducible repeat (first | refine blk_drewN ?_ _ | refine blk_drew ?_ | refine blk_alloc ?_ _)); exact BK816.out) hb); have n2_ := Aside0.mk (below_step (by repeat (first | (with_reducible first | exact HB.out | apply below_alloc | apply pw_below_drewN | apply below_drew1 | refine below_set ?_ GE816.out) | exact HB.out)) hb); clear BK816; clear HB; have HO820 := n0_; have BK816 := n1_; have HB := n2_; clear n0_ n1_ n2_; (try clear hb); (try clear hb2); (try clear hk); (try clear hi); (try clear ho0)))
    go_ret2
    exact ⟨_, by first | rfl | (simp [errW_none, errW_some] <;> rfl) | (simp [*, errW_none, errW_some] <;> rfl), by (with_reducible repeat (first | apply Kd.S_alloc | apply Kd.S_drewN | apply Kd.S_drew)); exact HO820.out, by repeat (first | (with_reducible first | exact HB.out | apply below_alloc | apply pw_below_drewN | apply below_drew1 | refine below_set ?_ GE816.out) | exact HB.out)⟩
  · replace c3 := Bool.eq_false_iff.mpr c3
    subst c3
    have H1 : (some ((([] : List (List Int))), false)) = some (r1, r2) := by rw [if_neg (show ¬ (false = true) by decide)] at H; exact H
    clear H
    have H := H1
    clear H1
    obtain ⟨y821, hy821⟩ : ∃ y_ : List (List Int), y_ = (([] : List (List Int))) := ⟨_, rfl⟩
    replace H : (some (y821, false)) = some (r1, r2) := by first | (rw [hy821]; with_reducible exact H) | (have H2_ := (Option.bind_some _ _).symm.trans H; rw [hy821]; with_reducible exact H2_) | (have H2_ := (Option.bind_some _ _).symm.trans H; with_reducible exact H2_) | with_reducible exact H | (rw [hy821]; exact H) | exact H
    have Ny821 := Aside0.mk hy821
    clear hy821
    simp only [Option.some.injEq, Prod.mk.injEq] at H
    obtain ⟨rfl, rfl⟩ := H
    go_enter Try.func50, Try.ntmps50
    go_wp2_with (first | ((with_reducible refine gate_dst (N := 1) rfl ?_); refine box_event ?hg (N := 1) ?hd (cs := #[.slice A0_0 l0_0.length c0_0, .slice A0_1 l0_1.length c0_1, .slice A0_2 l0_2.length c0_2]) (t := 60) ?hr ?_; (case hd => rfl); (case hg => rfl); (case hr => first | (go_simp; done) | (go_simp; rfl)); intro gb816 hg w10 hbox hb; have n0_ := Aside0.mk (below_step (by repeat (first | (with_reducible first | exact HB.out | apply below_alloc | apply pw_below_drewN | apply below_drew1) | exact HB.out)) hb); have n1_ := Aside0.mk (hbox); have n2_ := Aside0.mk ((by rw [hg]; exact (below_size (by repeat (first | (with_reducible first | exact HB.out | apply below_alloc | apply pw_below_drewN | apply below_drew1) | exact HB.out))) : w.heap.size ≤ gb816)); have n3_ := Aside0.mk ((by rw [hg]; exact (below_size (by repeat (first | (with_reducible first | exact HB.out | apply below_alloc | apply pw_below_drewN | apply below_drew1) | exact HB.out))) : w.heap.size ≤ gb816)); clear HB; have HB := n0_; have BK816 := n1_; have GW816 := n2_; have GE816 := n3_; clear n0_ n1_ n2_ n3_; clear hb hbox hg; have hcz11_0 : w10.cell? ⟨gb816, 0, none⟩ = some (.slice A0_0 l0_0.length c0_0) := (blk_cell BK816.out 0).trans rfl; have hcz11_1 : w10.cell? ⟨gb816, 1, none⟩ = some (.slice A0_1 l0_1.length c0_1) := (blk_cell BK816.out 1).trans rfl; have hcz11_2 : w10.cell? ⟨gb816, 2, none⟩ = some (.slice A0_2 l0_2.length c0_2) := (blk_cell BK816.out 2).trans rfl; have hfz11_0 := blk_frozen BK816.out 0; have hfz11_1 := blk_frozen BK816.out 1; have hfz11_2 := blk_frozen BK816.out 2) | ((with_reducible refine gate_callee (f := 106) rfl ?_); refine goesL_ (some 5) rfl rfl Try.func106 (by kernel_rfl) rfl #[.agg #[.slice A0_0 l0_0.length c0_0, .slice A0_1 l0_1.length c0_1, .slice A0_2 l0_2.length c0_2]] rfl (by (try simp only [List.map_toArray, List.map_cons, List.map_nil]); first | done | rfl | (simp only [List.length_drop, List.length_take]; rfl)) ?_; (with_reducible refine (spec_l11Machine.calls k _ _ l0_0 _ _ l0_1 _ _ l0_2 false _ ?side1 ?side2 ?side3 ?side4 ?side5 ?side6 A2.out).mono ?_); (case side1 => repeat (first | exact (Kd.C_below HR0_0.out HB.out) | (with_reducible refine Kd.C_alloc ?_ _) | (with_reducible refine Kd.C_drewN ?_ _) | (with_reducible refine Kd.C_drew ?_))); (case side2 => exact HC0_0.out); (case side3 => repeat (first | exact (Kd.C_below HR0_1.out HB.out) | (with_reducible refine Kd.C_alloc ?_ _) | (with_reducible refine Kd.C_drewN ?_ _) | (with_reducible refine Kd.C_drew ?_))); (case side4 => exact HC0_1.out); (case side5 => repeat (first | exact (Kd.C_below HR0_2.out HB.out) | (with_reducible refine Kd.C_alloc ?_ _) | (with_reducible refine Kd.C_drewN ?_ _) | (with_reducible refine Kd.C_drew ?_))); (case side6 => exact HC0_2.out); rintro e w12 ⟨rfl, hb⟩; refine ⟨_, rfl, ?_⟩; have n0_ := Aside0.mk (blk_below (g := gb816) (o := .cells #[.slice A0_0 l0_0.length c0_0, .slice A0_1 l0_1.length c0_1, .slice A0_2 l0_2.length c0_2] 60 (0, 0)) (by (with_reducible repeat (first | refine blk_drewN ?_ _ | refine blk_drew ?_ | refine blk_alloc ?_ _)); exact BK816.out) hb); have n1_ := Aside0.mk (below_step (by repeat (first | (with_reducible first | exact HB.out | apply below_alloc | apply pw_below_drewN | apply below_drew1 | refine below_set ?_ GE816.out) | exact HB.out)) hb); clear BK816; clear HB; have BK816 := n0_; have HB := n1_; clear n0_ n1_; (try clear hb); (try clear hb2); (try clear hk); (try clear hi)) | ((with_reducible refine gate_dst (N := 7) rfl ?_); refine Kd.S_lit (Kd.slice 5 (Kd.int .u8)) _ 119 ?hg (N := 7) ?hd (xs := ([] : List (List Int))) (inner := []) (ok := fun _ => True) (okp := fun _ => True) ?hr ?hp (fun _ hk => hk) trivial (Below.refl _ _) (Nat.le_refl _) (by simp) ?_; (case hd => rfl); (case hg => rfl); (case hr => first | (go_simp; done) | (go_simp; rfl)); (case hp => exact (Reps.none _ _)); intro v822 w13 ho14 hb hg_ hnew_; clear hg_ hnew_; (first | rw [← Ny821.out] at ho14 | (simp only [Int.reduceToNat] at ho14; rw [← Ny821.out] at ho14)); have n0_ := Aside0.mk (Kd.S_lower ho14 (below_size (by repeat (first | (with_reducible first | exact HB.out | apply below_alloc | apply pw_below_drewN | apply below_drew1 | refine below_set ?_ GE816.out) | exact HB.out)))); have n1_ := Aside0.mk (blk_below (g := gb816) (o := .cells #[.slice A0_0 l0_0.length c0_0, .slice A0_1 l0_1.length c0_1, .slice A0_2 l0_2.length c0_2] 60 (0, 0)) (by (with_reducible repeat (first | refine blk_drewN ?_ _ | refine blk_drew ?_ | refine blk_alloc ?_ _)); exact BK816.out) hb); have n2_ := Aside0.mk (below_step (by repeat (first | (with_reducible first | exact HB.out | apply below_alloc | apply pw_below_drewN | apply below_drew1 | refine below_set ?_ GE816.out) | exact HB.out)) hb); clear BK816; clear HB; have HO823 := n0_; have BK816 := n1_; have HB := n2_; clear n0_ n1_ n2_; clear hb ho14))
    go_ret2
    exact ⟨_, by first | rfl | (simp [errW_none, errW_some] <;> rfl) | (simp [*, errW_none, errW_some] <;> rfl), by (with_reducible repeat (first | apply Kd.S_alloc | apply Kd.S_drewN | apply Kd.S_drew)); exact HO823.out, by repeat (first | (with_reducible first | exact HB.out | apply below_alloc | apply pw_below_drewN | apply below_drew1 | refine below_set ?_ GE816.out) | exact HB.out)⟩

end Go.Proofs.Ytoomjghabiojkaa.P


/- ShownBytes: what both sides come to. -/
namespace Go.Proofs.Ytoomjghabiojkaa.P
open Go.RowKit Go.Proofs.YtoomjghabiojkaaW.PrintWords
set_option linter.unusedVariables false
def shownB (m : List (List Int)) (l : List SimplWindow) (s : List Bool) : List (List Int) × Bool := if machB m l s = true then (shownL m l s, true) else ([], false)
theorem shownB_ok (m : List (List Int)) (l : List SimplWindow) (s : List Bool) : okM (shownB m l s).1 := by
  unfold shownB
  split
  next h => exact shownL_ok h
  next => exact okM_nil
theorem implShownB_f (m : List (List Int)) (l : List SimplWindow) (s : List Bool) (h : okM m) : Ev (fun k => impl_ShownBytes.f k m l s) (shownB m l s) := by
  refine Ev.bind (isMachine_f m l s h) ?_
  unfold shownB
  cases hb : machB m l s
  · exact Ev.now _
  · simp only [if_true]
    exact Ev.bind (implShown_f hb) (Ev.now _)
theorem specShownB_f (m : List (List Int)) (l : List SimplWindow) (s : List Bool) (h : okM m) (hw : ∀ x ∈ l, wfW x) : Ev (fun k => spec_ShownBytes.f k m l s) (shownB m l s) := by
  refine Ev.bind (l11Machine_f m l s h hw) ?_
  unfold shownB
  cases hb : machB m l s
  · exact Ev.now _
  · simp only [if_true]
    exact Ev.bind (specShown_f hb) (Ev.now _)
theorem markBBs (l : List (List Int)) (h : okM l) : laws_markByteSS.f l 1 = some ((1 : Int) + (sizeBB l : Int), marksBB 1 l) := if_pos ⟨by omega, by have := h.2.2; omega, by have := h.1; omega⟩
end Go.Proofs.Ytoomjghabiojkaa.P


/- From a row's reading of an argument to what the print's kinds say of it. -/
namespace Go.Proofs.YtoomjghabiojkaaW.Mine
open Go.RowKit Go.Proofs.YtoomjghabiojkaaW.PrintWords
set_option linter.unusedVariables false
def ReadsK {α : Type} (P : Program) (T : TypeId) (d : Kd α) (ok : α → Prop) : Prop :=
  ∀ {H : Type} {enc : TypeId × Value → H} {w : World} {base : Nat} {spare : Nat → Bool} {held : Bool} {fuel : Nat} {cs : List Value} {x : DataW H × List MemPlace}, DataW.trod enc P w base spare held fuel T cs = some x → ∃ a : α, d.K w a cs ∧ ok a
theorem ReadsK.int {P : Program} {T : TypeId} {k : IntKind} (hT : P.underlying T = some (.int k)) : ReadsK P T (Kd.int k) (fun n => (Lit.int k n).wf = true) := by
  intro H enc w base spare held fuel cs x h
  obtain ⟨n, rfl, _, hw⟩ := DataW.trod_int hT h
  exact ⟨n, rfl, hw⟩
theorem ReadsK.bool {P : Program} {T : TypeId} (hT : P.underlying T = some .bool) : ReadsK P T Kd.bool (fun _ => True) := by
  intro H enc w base spare held fuel cs x h
  obtain ⟨b, rfl, _⟩ := DataW.trod_bool hT h
  exact ⟨b, rfl, trivial⟩
theorem exists_list {α : Type} {n : Nat} {p : Nat → α → Prop} (h : ∀ i, i < n → ∃ a, p i a) : ∃ l : List α, l.length = n ∧ ∀ i a, l[i]? = some a → p i a := by
  induction n with
  | zero => exact ⟨[], rfl, fun i a hi => by simp at hi⟩
  | succ n ih =>
    obtain ⟨l, hl, hp⟩ := ih (fun i hi => h i (by omega))
    obtain ⟨a, ha⟩ := h n (by omega)
    refine ⟨l ++ [a], by simp [hl], fun i b hb => ?_⟩
    rcases Nat.lt_or_ge i n with hi | hi
    · rw [List.getElem?_append_left (by omega)] at hb
      exact hp i b hb
    · have hi2 : i = n := by
        have := (List.getElem?_eq_some_iff.1 hb).1
        simp [hl] at this
        omega
      subst hi2
      rw [← hl, List.getElem?_append_right (Nat.le_refl _)] at hb
      simp at hb
      rw [← hb]
      exact ha
theorem ReadsK.slice {α : Type} {P : Program} {T e : TypeId} {d : Kd α} {ok : α → Prop} (hT : P.underlying T = some (.slice e)) (hc : P.cellsOf e = d.sz) (h1 : ReadsK P e d ok) : ReadsK P T (Kd.slice e d) (fun xs => ∀ x ∈ xs, ok x) := by
  intro H enc w base spare held fuel cs x h
  rcases Deep.open_slice hT h with ⟨rfl, _⟩ | ⟨a, len, cap, m, n, D, Pl, rfl, hb, hl, hm, hmm, _, hx⟩
  · exact ⟨[], ⟨none, 0, rfl, Nat.le_refl _, rfl, by simp, fun h => absurd h (by simp)⟩, fun x hx => by simp at hx⟩
  · have hlm : len ≤ m := by rw [hmm]; split <;> omega
    obtain ⟨l, hll, hp⟩ := exists_list (n := len) (p := fun i y => ∃ cs', w.cells? base (a.add (i * P.cellsOf e)) (P.cellsOf e) = some cs' ∧ d.K w y cs' ∧ ok y) (fun i hi => by
      obtain ⟨cs', h2, h3⟩ := hx i (by omega)
      obtain ⟨y, hy, hok⟩ := h1 h3
      exact ⟨y, cs', h2, hy, hok⟩)
    refine ⟨l, ⟨some a, cap, by rw [hll], by omega, rfl, ?_, fun hn => ⟨a, rfl, fun j p hj => ?_⟩⟩, fun y hy => ?_⟩
    · rw [hll]; unfold maxLen at hm; omega
    · obtain ⟨cs', h2, h3, _⟩ := hp j p hj
      obtain ⟨_, hlen, hcell⟩ := World.cells?_some h2
      refine ⟨cs', by rw [hlen, hc], h3, fun i u hu => ?_⟩
      have hi : i < P.cellsOf e := by
        have := (List.getElem?_eq_some_iff.1 hu).1
        omega
      have h4 := hcell i hi
      rw [hu] at h4
      rw [← h4, ← hc]
      congr 1
      unfold Addr.add
      by_cases z1 : j * P.cellsOf e = 0 <;> by_cases z2 : i = 0 <;> simp [z1, z2, Nat.add_assoc]
    · obtain ⟨j, hj, rfl⟩ := List.mem_iff_getElem.1 hy
      obtain ⟨_, _, _, hok⟩ := hp j _ (List.getElem?_eq_getElem hj)
      exact hok
def ReadsF {α : Type} (P : Program) (o : Nat) (fs : List Field) (d : Kd α) (ok : α → Prop) : Prop :=
  ∀ {H : Type} {enc : TypeId × Value → H} {w : World} {base : Nat} {spare : Nat → Bool} {held : Bool} {n : Nat} {cs : List Value}, (∀ f ∈ fs, ∃ x, DataW.trod enc P w base spare held n f.type ((cs.drop f.offset).take (P.cellsOf f.type)) = some x) → ∃ a : α, d.K w a ((cs.drop o).take d.sz) ∧ ok a
theorem ReadsF.last {α : Type} {P : Program} {o : Nat} {f : Field} {d : Kd α} {ok : α → Prop} (ho : f.offset = o) (h : ReadsK P f.type d ok) (hc : P.cellsOf f.type = d.sz) : ReadsF P o [f] d ok := by
  intro H enc w base spare held n cs hh
  obtain ⟨x, hx⟩ := hh f (by simp)
  rw [ho, hc] at hx
  exact h hx
theorem ReadsF.cons {α β : Type} {P : Program} {o : Nat} {f : Field} {fs : List Field} {d : Kd α} {d2 : Kd β} {ok : α → Prop} {ok2 : β → Prop} (ho : f.offset = o) (h : ReadsK P f.type d ok) (hc : P.cellsOf f.type = d.sz) (h2 : ReadsF P (o + d.sz) fs d2 ok2) : ReadsF P o (f :: fs) (Kd.pair d d2) (fun p => ok p.1 ∧ ok2 p.2) := by
  intro H enc w base spare held n cs hh
  obtain ⟨x, hx⟩ := hh f (by simp)
  rw [ho, hc] at hx
  obtain ⟨a, ha, hok⟩ := h hx
  obtain ⟨b, hb, hok2⟩ := h2 (fun g hg => hh g (by simp [hg]))
  refine ⟨(a, b), ⟨_, _, ?_, ha, hb⟩, hok, hok2⟩
  show (cs.drop o).take (d.sz + d2.sz) = _
  rw [List.take_add, List.drop_drop]
theorem ReadsK.struct {α : Type} {P : Program} {T : TypeId} {fs : Array Field} {d : Kd α} {ok : α → Prop} (hT : P.underlying T = some (.struct fs)) (hc : P.cellsOf T = d.sz) (h : ReadsF P 0 fs.toList d ok) : ReadsK P T d ok := by
  intro H enc w base spare held fuel cs x hx
  obtain ⟨xs, n, _, _, hl, hlen, hf⟩ := DataW.trod_struct hT hx
  obtain ⟨a, ha, hok⟩ := h (n := n) (cs := cs) (enc := enc) (w := w) (base := base) (spare := spare) (held := held) (fun f hf2 => by
    obtain ⟨i, hi, rfl⟩ := List.mem_iff_getElem.1 hf2
    have h1 := hf i fs[i] (by simp at hi; exact Array.getElem?_eq_getElem hi)
    have hi2 : i < xs.length := by simp at hi; omega
    rw [List.getElem?_eq_getElem hi2] at h1
    exact ⟨_, by simpa using h1⟩)
  refine ⟨a, ?_, hok⟩
  rwa [List.drop_zero, ← hc, ← hl, List.take_length] at ha
theorem ReadsK.iso {α β : Type} {P : Program} {T : TypeId} {d : Kd α} {ok : α → Prop} (h : ReadsK P T d ok) (f : β → α) (g : α → β) (hfg : ∀ a, f (g a) = a) : ReadsK P T (Kd.iso d f) (fun b => ok (f b)) := by
  intro H enc w base spare held fuel cs x hx
  obtain ⟨a, ha, hok⟩ := h hx
  refine ⟨g a, ?_, by show ok (f (g a)); rw [hfg]; exact hok⟩
  show d.K w (f (g a)) cs
  rw [hfg]
  exact ha
theorem agg_of {cs : Array Value} {L : List Value} (h : cs.toList = L) : cs = L.toArray := by rw [← h]
end Go.Proofs.YtoomjghabiojkaaW.Mine


-- written by wip/gen_law.py
namespace Go.Proofs.Ytoomjghabiojkaa.P
open Go.RowKit Go.Proofs.YtoomjghabiojkaaW.PrintWords Go.Proofs.YtoomjghabiojkaaW.PrintLast Go.Proofs.YtoomjghabiojkaaW.PrintMore Go.Proofs.YtoomjghabiojkaaW.Mine
open List (setIfInBounds_toArray set_cons_zero set_cons_succ)
attribute [local go_sem] max2_int min2_int max_two min_two max_three min_three max_four min_four
set_option linter.unusedVariables false
set_option linter.unusedSimpArgs false
set_option maxHeartbeats 8000000 in
set_option maxRecDepth 100000 in
theorem FnExactShownBytes_run0 (A0_0 : Option Addr) (c0_0 : Nat) (l0_0 : List (List Int)) (A0_1 : Option Addr) (c0_1 : Nat) (l0_1 : List (SlawsWindow)) (A0_2 : Option Addr) (c0_2 : Nat) (l0_2 : List Bool) (r1_0 : Int) (w : World) (hr0_0 : Kd.C (Kd.slice 5 (Kd.int .u8)) w A0_0 l0_0.length l0_0) (hc0_0 : l0_0.length ≤ c0_0) (hr0_1 : Kd.C klawsWindow w A0_1 l0_1.length l0_1) (hc0_1 : l0_1.length ≤ c0_1) (hr0_2 : Kd.C Kd.bool w A0_2 l0_2.length l0_2) (hc0_2 : l0_2.length ≤ c0_2) (H1 : ∃ k, laws_szMachine.f k l0_0 l0_1 l0_2 1048576 = some r1_0) (P_ : r1_0 < 0) :
    Calls Try.prog 9 #[.agg #[.slice A0_0 l0_0.length c0_0, .slice A0_1 l0_1.length c0_1, .slice A0_2 l0_2.length c0_2]] w fun e w' => e = .returned (.bool true) ∧ Below w.heap.size w w' := by
  have HR0_0 := Aside0.mk hr0_0; have HC0_0 := Aside0.mk hc0_0; clear hr0_0 hc0_0
  have HR0_1 := Aside0.mk hr0_1; have HC0_1 := Aside0.mk hc0_1; clear hr0_1 hc0_1
  have HR0_2 := Aside0.mk hr0_2; have HC0_2 := Aside0.mk hc0_2; clear hr0_2 hc0_2
  obtain ⟨k, H1_⟩ := H1; have H1 := Aside0.mk H1_; clear H1_
  have Pb_ : decide (r1_0 < 0) = true := decide_eq_true P_; clear P_
  have HS0 : Aside0 (Stk w [] w) := ⟨Stk.nil w⟩
  go_enter Try.func9, Try.ntmps9
  refine reg (aF := ?_) (nw := ?_) [evB 0 1 [] 78 (fun s => #[.slice A0_0 l0_0.length c0_0, .slice A0_1 l0_1.length c0_1, .slice A0_2 l0_2.length c0_2]) 9999 [] (fun s => #[.slice A0_0 l0_0.length c0_0, .slice A0_1 l0_1.length c0_1, .slice A0_2 l0_2.length c0_2]), evP 1 2 [] (fun s => .bool false)] [] [] false 2 rfl rfl (by kernel_rfl) rfl (mf0) ?aF ?nw HS0.out ?hs ?_
  rotate_left 2
  case aF => intro s; simp only [putE, EvT.val, Act.put, setIfInBounds_toArray, set_cons_zero, set_cons_succ]; rfl
  case nw => intro s; simp only [thA, bsA, List.nil_append, List.cons_append, List.append_nil, if_true, if_false, Nat.reduceLT, set_cons_zero, set_cons_succ]; rfl
  case hs => exact ⟨bv rfl (fun s w => by go_simp; try rfl), pu rfl, trivial⟩
  intro s1 w1 h; have HS1 := Aside0.mk h; clear h HS0
  refine tl0 ?_
  refine reg0 (aF := ?_) [] [0] false 1 rfl rfl (by kernel_rfl) rfl (fun _ => rfl) ?aF HS1.out ?hs ?_
  rotate_left 1
  case aF => intro s; simp only [putE, EvT.val, Act.put, setIfInBounds_toArray, set_cons_zero, set_cons_succ]; rfl
  case hs => exact trivial
  intro s2 w2 h; have HS2 := Aside0.mk h; clear h HS1
  refine tlP (v := .int .i64 1048576) 3 rfl ?_
  refine tl0 ?_
  refine reg0 (aF := ?_) [evL 0 14 [] (fun s => .agg #[.slice A0_0 l0_0.length c0_0, .slice A0_1 l0_1.length c0_1, .slice A0_2 l0_2.length c0_2]), evP 1 15 [] (fun s => .int .i64 1048576), evC 2 (some 16) [] (fun s x => .int .i64 r1_0) (fun s x => [])] [3] false 4 rfl rfl (by kernel_rfl) rfl (fun _ => rfl) ?aF HS2.out ?hs ?_
  rotate_left 1
  case aF => intro s; simp only [putE, EvT.val, Act.put, setIfInBounds_toArray, set_cons_zero, set_cons_succ]; rfl
  case hs => exact ⟨ld rfl 0 (fun s => rfl) (fun s w h => by have h0 := h 0 _ rfl; have h1 := h 1 _ rfl; have h2 := h 2 _ rfl; clear h; go_simp; try rfl), pu rfl, cl rfl (fun s => #[.agg #[.slice A0_0 l0_0.length c0_0, .slice A0_1 l0_1.length c0_1, .slice A0_2 l0_2.length c0_2], .int .i64 1048576]) Try.func46 (fun s w1 h => (laws_szMachine.calls _ _ _ _ _ _ _ _ _ _ _ _ _ (Kd.C_below HR0_0.out h.hb) HC0_0.out (Kd.C_below HR0_1.out h.hb) HC0_1.out (Kd.C_below HR0_2.out h.hb) HC0_2.out H1.out).mono (by rintro e w2 ⟨rfl, hb⟩; exact fin0 hb)), trivial⟩
  intro s3 w3 h; have HS3 := Aside0.mk h; clear h HS2
  refine tlP (v := .int .i64 r1_0) 3 rfl ?_
  refine tl0 ?_
  refine wp_seq ?_
  refine reg0 (aF := ?_) [evP 0 17 [] (fun s => .int .i64 r1_0), evP 1 18 [] (fun s => .bool true)] [] false 2 rfl rfl (by kernel_rfl) rfl (fun _ => rfl) ?aF HS3.out ?hs ?_
  rotate_left 1
  case aF => intro s; simp only [putE, EvT.val, Act.put, setIfInBounds_toArray, set_cons_zero, set_cons_succ]; rfl
  case hs => exact ⟨pu rfl, pb (q := .lss) Pb_ rfl, trivial⟩
  intro s4 w4 h; have HS4 := Aside0.mk h; clear h HS3
  refine tl0 ?_
  refine wp_cond_true rfl ?_
  refine reg0 (aF := ?_) [] [0] false 1 rfl rfl (by kernel_rfl) rfl (fun _ => rfl) ?aF HS4.out ?hs ?_
  rotate_left 1
  case aF => intro s; simp only [putE, EvT.val, Act.put, setIfInBounds_toArray, set_cons_zero, set_cons_succ]; rfl
  case hs => exact trivial
  intro s5 w5 h; have HS5 := Aside0.mk h; clear h HS4
  refine tlP (v := .bool true) 2 rfl ?_
  refine tl0 ?_
  refine wp_ret ?_
  go_ret
  exact ⟨by first | rfl | simp, HS5.out.hb⟩
set_option maxHeartbeats 8000000 in
set_option maxRecDepth 100000 in
theorem FnExactShownBytes_run (A0_0 : Option Addr) (c0_0 : Nat) (l0_0 : List (List Int)) (A0_1 : Option Addr) (c0_1 : Nat) (l0_1 : List (SlawsWindow)) (A0_2 : Option Addr) (c0_2 : Nat) (l0_2 : List Bool) (r1_0 : Int) (r2_0 : List (List Int)) (r2_1 : List (SimplWindow)) (r2_2 : List Bool) (r3_0 : List (List Int)) (r3_1 : Bool) (r7_0 : Int) (r7_1 : List (List Int)) (r7_2 : List SimplWindow) (r7_3 : List Bool) (r8_0 : Int) (r8_1 : List (List Int)) (w : World) (hr0_0 : Kd.C (Kd.slice 5 (Kd.int .u8)) w A0_0 l0_0.length l0_0) (hc0_0 : l0_0.length ≤ c0_0) (hr0_1 : Kd.C klawsWindow w A0_1 l0_1.length l0_1) (hc0_1 : l0_1.length ≤ c0_1) (hr0_2 : Kd.C Kd.bool w A0_2 l0_2.length l0_2) (hc0_2 : l0_2.length ≤ c0_2) (H1 : ∃ k, laws_szMachine.f k l0_0 l0_1 l0_2 1048576 = some r1_0) (H2 : ∃ k, laws_toMachine.f k l0_0 l0_1 l0_2 = some (r2_0, r2_1, r2_2)) (H3 : ∃ k, spec_ShownBytes.f k r2_0 r2_1 r2_2 = some (r3_0, r3_1)) (H4 : ∃ k, impl_ShownBytes.f k r2_0 r2_1 r2_2 = some (r3_0, r3_1)) (H5 : ∃ k, laws_eqByteSS.f k r3_0 r3_0 = some true) (H6 : ∃ k, laws_eqMachine.f k r2_0 r2_1 r2_2 r2_0 r2_1 r2_2 = some true) (H7 : laws_markMachine.f r2_0 r2_1 r2_2 1 = some (r7_0, r7_1, r7_2, r7_3)) (H8 : laws_markByteSS.f r3_0 1 = some (r8_0, r8_1)) (H9 : ∃ k, laws_heldByteSS.f k r8_1 1 = some r8_0) (N_r1_0 : ¬ r1_0 < 0) (N_r7_0 : ¬ r7_0 < 0) (N_r8_0 : ¬ r8_0 < 0) :
    Calls Try.prog 9 #[.agg #[.slice A0_0 l0_0.length c0_0, .slice A0_1 l0_1.length c0_1, .slice A0_2 l0_2.length c0_2]] w fun e w' => e = .returned (.bool true) ∧ Below w.heap.size w w' := by
  have HR0_0 := Aside0.mk hr0_0; have HC0_0 := Aside0.mk hc0_0; clear hr0_0 hc0_0
  have HR0_1 := Aside0.mk hr0_1; have HC0_1 := Aside0.mk hc0_1; clear hr0_1 hc0_1
  have HR0_2 := Aside0.mk hr0_2; have HC0_2 := Aside0.mk hc0_2; clear hr0_2 hc0_2
  obtain ⟨k, H1_⟩ := H1; have H1 := Aside0.mk H1_; clear H1_
  obtain ⟨k, H2_⟩ := H2; have H2 := Aside0.mk H2_; clear H2_
  obtain ⟨k, H3_⟩ := H3; have H3 := Aside0.mk H3_; clear H3_
  obtain ⟨k, H4_⟩ := H4; have H4 := Aside0.mk H4_; clear H4_
  obtain ⟨k, H5_⟩ := H5; have H5 := Aside0.mk H5_; clear H5_
  obtain ⟨k, H6_⟩ := H6; have H6 := Aside0.mk H6_; clear H6_
  have H7_ := Aside0.mk H7; clear H7; have H7 := H7_; clear H7_
  have H8_ := Aside0.mk H8; clear H8; have H8 := H8_; clear H8_
  obtain ⟨k, H9_⟩ := H9; have H9 := Aside0.mk H9_; clear H9_
  have Nb_r1_0 : decide (r1_0 < 0) = false := decide_eq_false N_r1_0; clear N_r1_0
  have Nb_r7_0 : decide (r7_0 < 0) = false := decide_eq_false N_r7_0; clear N_r7_0
  have Nb_r8_0 : decide (r8_0 < 0) = false := decide_eq_false N_r8_0; clear N_r8_0
  have HS0 : Aside0 (Stk w [] w) := ⟨Stk.nil w⟩
  go_enter Try.func9, Try.ntmps9
  refine reg (aF := ?_) (nw := ?_) [evB 0 1 [] 78 (fun s => #[.slice A0_0 l0_0.length c0_0, .slice A0_1 l0_1.length c0_1, .slice A0_2 l0_2.length c0_2]) 9999 [] (fun s => #[.slice A0_0 l0_0.length c0_0, .slice A0_1 l0_1.length c0_1, .slice A0_2 l0_2.length c0_2]), evP 1 2 [] (fun s => .bool false)] [] [] false 2 rfl rfl (by kernel_rfl) rfl (mf0) ?aF ?nw HS0.out ?hs ?_
  rotate_left 2
  case aF => intro s; simp only [putE, EvT.val, Act.put, setIfInBounds_toArray, set_cons_zero, set_cons_succ]; rfl
  case nw => intro s; simp only [thA, bsA, List.nil_append, List.cons_append, List.append_nil, if_true, if_false, Nat.reduceLT, set_cons_zero, set_cons_succ]; rfl
  case hs => exact ⟨bv rfl (fun s w => by go_simp; try rfl), pu rfl, trivial⟩
  intro s1 w1 h; have HS1 := Aside0.mk h; clear h HS0
  refine tl0 ?_
  refine reg0 (aF := ?_) [] [0] false 1 rfl rfl (by kernel_rfl) rfl (fun _ => rfl) ?aF HS1.out ?hs ?_
  rotate_left 1
  case aF => intro s; simp only [putE, EvT.val, Act.put, setIfInBounds_toArray, set_cons_zero, set_cons_succ]; rfl
  case hs => exact trivial
  intro s2 w2 h; have HS2 := Aside0.mk h; clear h HS1
  refine tlP (v := .int .i64 1048576) 3 rfl ?_
  refine tl0 ?_
  refine reg0 (aF := ?_) [evL 0 14 [] (fun s => .agg #[.slice A0_0 l0_0.length c0_0, .slice A0_1 l0_1.length c0_1, .slice A0_2 l0_2.length c0_2]), evP 1 15 [] (fun s => .int .i64 1048576), evC 2 (some 16) [] (fun s x => .int .i64 r1_0) (fun s x => [])] [3] false 4 rfl rfl (by kernel_rfl) rfl (fun _ => rfl) ?aF HS2.out ?hs ?_
  rotate_left 1
  case aF => intro s; simp only [putE, EvT.val, Act.put, setIfInBounds_toArray, set_cons_zero, set_cons_succ]; rfl
  case hs => exact ⟨ld rfl 0 (fun s => rfl) (fun s w h => by have h0 := h 0 _ rfl; have h1 := h 1 _ rfl; have h2 := h 2 _ rfl; clear h; go_simp; try rfl), pu rfl, cl rfl (fun s => #[.agg #[.slice A0_0 l0_0.length c0_0, .slice A0_1 l0_1.length c0_1, .slice A0_2 l0_2.length c0_2], .int .i64 1048576]) Try.func46 (fun s w1 h => (laws_szMachine.calls _ _ _ _ _ _ _ _ _ _ _ _ _ (Kd.C_below HR0_0.out h.hb) HC0_0.out (Kd.C_below HR0_1.out h.hb) HC0_1.out (Kd.C_below HR0_2.out h.hb) HC0_2.out H1.out).mono (by rintro e w2 ⟨rfl, hb⟩; exact fin0 hb)), trivial⟩
  intro s3 w3 h; have HS3 := Aside0.mk h; clear h HS2
  refine tlP (v := .int .i64 r1_0) 3 rfl ?_
  refine tl0 ?_
  refine wp_seq ?_
  refine reg0 (aF := ?_) [evP 0 17 [] (fun s => .int .i64 r1_0), evP 1 18 [] (fun s => .bool false)] [] false 2 rfl rfl (by kernel_rfl) rfl (fun _ => rfl) ?aF HS3.out ?hs ?_
  rotate_left 1
  case aF => intro s; simp only [putE, EvT.val, Act.put, setIfInBounds_toArray, set_cons_zero, set_cons_succ]; rfl
  case hs => exact ⟨pu rfl, pb (q := .lss) Nb_r1_0 rfl, trivial⟩
  intro s4 w4 h; have HS4 := Aside0.mk h; clear h HS3
  refine tl0 ?_
  refine wp_cond_false rfl ?_
  refine wp_skip ?_
  refine thN ?_
  refine reg (aF := ?_) (nw := ?_) [evL 0 20 [] (fun s => .agg #[.slice A0_0 l0_0.length c0_0, .slice A0_1 l0_1.length c0_1, .slice A0_2 l0_2.length c0_2]), evC 1 (some 21) [] (fun s x => .agg #[.slice x.A r2_0.length x.c, .slice x.B r2_1.length x.e, .slice x.C r2_2.length x.f]) (fun s x => [⟨x.lo, x.hi, fun w_ => Kd.S (Kd.slice 5 (Kd.int .u8)) 119 w_ w.heap.size (fun k_ => x.lo ≤ k_ ∧ k_ < x.hi) (.slice x.A r2_0.length x.c) r2_0 ∧ Kd.R kimplWindow 48 w_ w.heap.size (fun k_ => x.lo ≤ k_ ∧ k_ < x.hi) (.slice x.B r2_1.length x.e) r2_1 ∧ Kd.R Kd.bool 4 w_ w.heap.size (fun k_ => x.lo ≤ k_ ∧ k_ < x.hi) (.slice x.C r2_2.length x.f) r2_2⟩]), evC 2 (some 22) [1] (fun s x => .tuple #[.slice x.A r3_0.length x.c, .bool r3_1]) (fun s x => [rowS (Kd.slice 5 (Kd.int .u8)) 119 w x.lo x.hi x.A x.c r3_0]), evP 3 19 [2] (fun s => .tuple #[.slice (s 2).A r3_0.length (s 2).c, .bool r3_1]), evP 4 23 [2] (fun s => .slice (s 2).A r3_0.length (s 2).c), evP 5 24 [] (fun s => .bool r3_1), evP 6 4 [2] (fun s => .slice (s 2).A r3_0.length (s 2).c)] [7] [] false 8 rfl rfl (by kernel_rfl) rfl (mf0) ?aF ?nw HS4.out ?hs ?_
  rotate_left 2
  case aF => intro s; simp only [putE, EvT.val, Act.put, setIfInBounds_toArray, set_cons_zero, set_cons_succ]; rfl
  case nw => intro s; simp only [thA, bsA, List.nil_append, List.cons_append, List.append_nil, if_true, if_false, Nat.reduceLT, set_cons_zero, set_cons_succ]; rfl
  case hs => exact ⟨ld rfl 0 (fun s => rfl) (fun s w h => by have h0 := h 0 _ rfl; have h1 := h 1 _ rfl; have h2 := h 2 _ rfl; clear h; go_simp; try rfl), cl rfl (fun s => #[.agg #[.slice A0_0 l0_0.length c0_0, .slice A0_1 l0_1.length c0_1, .slice A0_2 l0_2.length c0_2]]) Try.func48 (fun s w1 h => (laws_toMachine.calls _ _ _ _ _ _ _ _ _ _ _ _ _ _ (Kd.C_below HR0_0.out h.hb) HC0_0.out (Kd.C_below HR0_1.out h.hb) HC0_1.out (Kd.C_below HR0_2.out h.hb) HC0_2.out H2.out).mono (by rintro e w2 ⟨v0_, v1_, v2_, rfl, ho0, ho1, ho2, hb⟩; obtain ⟨A0, c0, rfl⟩ := Kd.S_slice ho0; obtain ⟨A1, c1, rfl⟩ := Kd.R_slice ho1; obtain ⟨A2, c2, rfl⟩ := Kd.R_slice ho2; obtain ⟨lo, hi, hx⟩ := (Stk.nil w1).push hb (P := fun lo_ hi_ w_ => Kd.S (Kd.slice 5 (Kd.int .u8)) 119 w_ w.heap.size (fun k_ => lo_ ≤ k_ ∧ k_ < hi_) (.slice A0 r2_0.length c0) r2_0 ∧ Kd.R kimplWindow 48 w_ w.heap.size (fun k_ => lo_ ≤ k_ ∧ k_ < hi_) (.slice A1 r2_1.length c1) r2_1 ∧ Kd.R Kd.bool 4 w_ w.heap.size (fun k_ => lo_ ≤ k_ ∧ k_ < hi_) (.slice A2 r2_2.length c2) r2_2) (fun w_ ha => ⟨S_held ho0 h.hb.size ha, R_held ho1 h.hb.size ha, R_held ho2 h.hb.size ha⟩); exact ⟨⟨lo, hi, A0, c0, A1, c1, A2, c2⟩, rfl, hx⟩)), cl rfl (fun s => #[.agg #[.slice (s 1).A r2_0.length (s 1).c, .slice (s 1).B r2_1.length (s 1).e, .slice (s 1).C r2_2.length (s 1).f]]) Try.func50 (fun s w1 h => (spec_ShownBytes.calls _ _ _ _ _ _ _ _ _ _ _ _ _ (Kd.S_reads' (h.get 0 rfl).1).2.2 (Kd.S_reads' (h.get 0 rfl).1).2.1 (Kd.R_reads' (h.get 0 rfl).2.1).2.2 (Kd.R_reads' (h.get 0 rfl).2.1).2.1 (Kd.R_reads' (h.get 0 rfl).2.2).2.2 (Kd.R_reads' (h.get 0 rfl).2.2).2.1 H3.out).mono (by rintro e w2 ⟨v0_, rfl, ho0, hb⟩; obtain ⟨x, rfl, hx⟩ := fin_S ho0 hb h.hb.size; exact ⟨x, rfl, hx⟩)), pu rfl, pu rfl, pu rfl, pu rfl, trivial⟩
  intro s5 w5 h; have HS5 := Aside0.mk h; clear h HS4
  refine tlP (v := .bool r3_1) 5 rfl ?_
  refine tl0 ?_
  refine reg (aF := ?_) (nw := ?_) [evL 0 25 [] (fun s => .agg #[.slice A0_0 l0_0.length c0_0, .slice A0_1 l0_1.length c0_1, .slice A0_2 l0_2.length c0_2]), evC 1 (some 26) [] (fun s x => .agg #[.slice x.A r2_0.length x.c, .slice x.B r2_1.length x.e, .slice x.C r2_2.length x.f]) (fun s x => [⟨x.lo, x.hi, fun w_ => Kd.S (Kd.slice 5 (Kd.int .u8)) 119 w_ w.heap.size (fun k_ => x.lo ≤ k_ ∧ k_ < x.hi) (.slice x.A r2_0.length x.c) r2_0 ∧ Kd.R kimplWindow 48 w_ w.heap.size (fun k_ => x.lo ≤ k_ ∧ k_ < x.hi) (.slice x.B r2_1.length x.e) r2_1 ∧ Kd.R Kd.bool 4 w_ w.heap.size (fun k_ => x.lo ≤ k_ ∧ k_ < x.hi) (.slice x.C r2_2.length x.f) r2_2⟩]), evB 2 6 [] 60 (fun s => #[.slice none 0 0, .slice none 0 0, .slice none 0 0]) 3 [1] (fun s => #[.slice (s 1).A r2_0.length (s 1).c, .slice (s 1).B r2_1.length (s 1).e, .slice (s 1).C r2_2.length (s 1).f]), evS 3] [] [] false 4 rfl rfl (by kernel_rfl) rfl (mf0) ?aF ?nw HS5.out ?hs ?_
  rotate_left 2
  case aF => intro s; simp only [putE, EvT.val, Act.put, setIfInBounds_toArray, set_cons_zero, set_cons_succ]; rfl
  case nw => intro s; simp only [thA, bsA, List.nil_append, List.cons_append, List.append_nil, if_true, if_false, Nat.reduceLT, set_cons_zero, set_cons_succ]; rfl
  case hs => exact ⟨ld rfl 2 (fun s => rfl) (fun s w h => by have h0 := h 0 _ rfl; have h1 := h 1 _ rfl; have h2 := h 2 _ rfl; clear h; go_simp; try rfl), cl rfl (fun s => #[.agg #[.slice A0_0 l0_0.length c0_0, .slice A0_1 l0_1.length c0_1, .slice A0_2 l0_2.length c0_2]]) Try.func48 (fun s w1 h => (laws_toMachine.calls _ _ _ _ _ _ _ _ _ _ _ _ _ _ (Kd.C_below HR0_0.out h.hb) HC0_0.out (Kd.C_below HR0_1.out h.hb) HC0_1.out (Kd.C_below HR0_2.out h.hb) HC0_2.out H2.out).mono (by rintro e w2 ⟨v0_, v1_, v2_, rfl, ho0, ho1, ho2, hb⟩; obtain ⟨A0, c0, rfl⟩ := Kd.S_slice ho0; obtain ⟨A1, c1, rfl⟩ := Kd.R_slice ho1; obtain ⟨A2, c2, rfl⟩ := Kd.R_slice ho2; obtain ⟨lo, hi, hx⟩ := (Stk.nil w1).push hb (P := fun lo_ hi_ w_ => Kd.S (Kd.slice 5 (Kd.int .u8)) 119 w_ w.heap.size (fun k_ => lo_ ≤ k_ ∧ k_ < hi_) (.slice A0 r2_0.length c0) r2_0 ∧ Kd.R kimplWindow 48 w_ w.heap.size (fun k_ => lo_ ≤ k_ ∧ k_ < hi_) (.slice A1 r2_1.length c1) r2_1 ∧ Kd.R Kd.bool 4 w_ w.heap.size (fun k_ => lo_ ≤ k_ ∧ k_ < hi_) (.slice A2 r2_2.length c2) r2_2) (fun w_ ha => ⟨S_held ho0 h.hb.size ha, R_held ho1 h.hb.size ha, R_held ho2 h.hb.size ha⟩); exact ⟨⟨lo, hi, A0, c0, A1, c1, A2, c2⟩, rfl, hx⟩)), bv rfl (fun s w => by go_simp; try rfl), st rfl 2 0 (fun s => [.slice (s 1).A r2_0.length (s 1).c, .slice (s 1).B r2_1.length (s 1).e, .slice (s 1).C r2_2.length (s 1).f]) rfl (fun s w h hf => by have h0 := h 0 _ rfl; have f0 := hf 0; have h1 := h 1 _ rfl; have f1 := hf 1; have h2 := h 2 _ rfl; have f2 := hf 2; clear h hf; go_simp; try rfl), trivial⟩
  intro s6 w6 h; have HS6 := Aside0.mk h; clear h HS5
  refine tl0 ?_
  refine reg (aF := ?_) (nw := ?_) [evL 0 28 [] (fun s => .agg #[.slice (s6 1).A r2_0.length (s6 1).c, .slice (s6 1).B r2_1.length (s6 1).e, .slice (s6 1).C r2_2.length (s6 1).f]), evC 1 (some 29) [] (fun s x => .tuple #[.slice x.A r3_0.length x.c, .bool r3_1]) (fun s x => [rowS (Kd.slice 5 (Kd.int .u8)) 119 w x.lo x.hi x.A x.c r3_0]), evP 2 27 [1] (fun s => .tuple #[.slice (s 1).A r3_0.length (s 1).c, .bool r3_1]), evP 3 30 [1] (fun s => .slice (s 1).A r3_0.length (s 1).c), evP 4 31 [] (fun s => .bool r3_1), evP 5 7 [1] (fun s => .slice (s 1).A r3_0.length (s 1).c)] [6] [] false 7 rfl rfl (by kernel_rfl) rfl (mf0) ?aF ?nw HS6.out ?hs ?_
  rotate_left 2
  case aF => intro s; simp only [putE, EvT.val, Act.put, setIfInBounds_toArray, set_cons_zero, set_cons_succ]; rfl
  case nw => intro s; simp only [thA, bsA, List.nil_append, List.cons_append, List.append_nil, if_true, if_false, Nat.reduceLT, set_cons_zero, set_cons_succ]; rfl
  case hs => exact ⟨ld rfl 1 (fun s => rfl) (fun s w h => by have h0 := h 0 _ rfl; have h1 := h 1 _ rfl; have h2 := h 2 _ rfl; clear h; go_simp; try rfl), cl rfl (fun s => #[.agg #[.slice (s6 1).A r2_0.length (s6 1).c, .slice (s6 1).B r2_1.length (s6 1).e, .slice (s6 1).C r2_2.length (s6 1).f]]) Try.func51 (fun s w1 h => (impl_ShownBytes.calls _ _ _ _ _ _ _ _ _ _ _ _ _ (Kd.S_reads' (h.get 0 rfl).1).2.2 (Kd.S_reads' (h.get 0 rfl).1).2.1 (Kd.R_reads' (h.get 0 rfl).2.1).2.2 (Kd.R_reads' (h.get 0 rfl).2.1).2.1 (Kd.R_reads' (h.get 0 rfl).2.2).2.2 (Kd.R_reads' (h.get 0 rfl).2.2).2.1 H4.out).mono (by rintro e w2 ⟨v0_, rfl, ho0, hb⟩; obtain ⟨x, rfl, hx⟩ := fin_S ho0 hb h.hb.size; exact ⟨x, rfl, hx⟩)), pu rfl, pu rfl, pu rfl, pu rfl, trivial⟩
  intro s7 w7 h; have HS7 := Aside0.mk h; clear h HS6
  refine tlP (v := .bool r3_1) 8 rfl ?_
  refine tl0 ?_
  refine wp_seq ?_
  refine reg0 (aF := ?_) [evP 0 32 [] (fun s => .slice (s7 1).A r3_0.length (s7 1).c), evP 1 33 [] (fun s => .slice (s5 2).A r3_0.length (s5 2).c), evC 2 (some 34) [] (fun s x => .bool true) (fun s x => []), evP 3 35 [] (fun s => .bool false), evP 4 36 [] (fun s => .bool false), evP 5 37 [] (fun s => .bool r3_1), evP 6 38 [] (fun s => .bool r3_1), evP 7 39 [] (fun s => .bool false), evP 8 40 [] (fun s => .bool false)] [] false 9 rfl rfl (by kernel_rfl) rfl (fun _ => rfl) ?aF HS7.out ?hs ?_
  rotate_left 1
  case aF => intro s; simp only [putE, EvT.val, Act.put, setIfInBounds_toArray, set_cons_zero, set_cons_succ]; rfl
  case hs => exact ⟨pu rfl, pu rfl, cl rfl (fun s => #[.slice (s7 1).A r3_0.length (s7 1).c, .slice (s5 2).A r3_0.length (s5 2).c]) Try.func52 (fun s w1 h => (laws_eqByteSS.calls _ _ _ _ _ _ _ _ _ (Kd.S_reads' (h.get 0 rfl)).2.2 (Kd.S_reads' (h.get 0 rfl)).2.1 (Kd.S_reads' (h.get 4 rfl)).2.2 (Kd.S_reads' (h.get 4 rfl)).2.1 H5.out).mono (by rintro e w2 ⟨rfl, hd⟩; exact fin0 hd.below)), pu rfl, pu rfl, pu rfl, pu rfl, pn Try.underlying4 rfl, pu rfl, trivial⟩
  intro s8 w8 h; have HS8 := Aside0.mk h; clear h HS7
  refine tl0 ?_
  refine wp_cond_false rfl ?_
  refine wp_skip ?_
  refine thN ?_
  refine wp_seq ?_
  refine reg (aF := ?_) (nw := ?_) [evR 0 41 2 (fun s => .agg #[.slice (s6 1).A r2_0.length (s6 1).c, .slice (s6 1).B r2_1.length (s6 1).e, .slice (s6 1).C r2_2.length (s6 1).f]), evL 1 42 [] (fun s => .agg #[.slice A0_0 l0_0.length c0_0, .slice A0_1 l0_1.length c0_1, .slice A0_2 l0_2.length c0_2]), evC 2 (some 43) [] (fun s x => .agg #[.slice x.A r2_0.length x.c, .slice x.B r2_1.length x.e, .slice x.C r2_2.length x.f]) (fun s x => [⟨x.lo, x.hi, fun w_ => Kd.S (Kd.slice 5 (Kd.int .u8)) 119 w_ w.heap.size (fun k_ => x.lo ≤ k_ ∧ k_ < x.hi) (.slice x.A r2_0.length x.c) r2_0 ∧ Kd.R kimplWindow 48 w_ w.heap.size (fun k_ => x.lo ≤ k_ ∧ k_ < x.hi) (.slice x.B r2_1.length x.e) r2_1 ∧ Kd.R Kd.bool 4 w_ w.heap.size (fun k_ => x.lo ≤ k_ ∧ k_ < x.hi) (.slice x.C r2_2.length x.f) r2_2⟩]), evC 3 (some 44) [2] (fun s x => .bool true) (fun s x => []), evP 4 45 [] (fun s => .bool false)] [] [] true 5 rfl rfl (by kernel_rfl) rfl (mf0) ?aF ?nw HS8.out ?hs ?_
  rotate_left 2
  case aF => intro s; simp only [putE, EvT.val, Act.put, setIfInBounds_toArray, set_cons_zero, set_cons_succ]; rfl
  case nw => intro s; simp only [thA, bsA, List.nil_append, List.cons_append, List.append_nil, if_true, if_false, Nat.reduceLT, set_cons_zero, set_cons_succ]; rfl
  case hs => exact ⟨lr rfl 2 rfl (fun s w h => by have h0 := h 0 _ rfl; have h1 := h 1 _ rfl; have h2 := h 2 _ rfl; clear h; go_simp; try rfl), ld rfl 5 (fun s => rfl) (fun s w h => by have h0 := h 0 _ rfl; have h1 := h 1 _ rfl; have h2 := h 2 _ rfl; clear h; go_simp; try rfl), cl rfl (fun s => #[.agg #[.slice A0_0 l0_0.length c0_0, .slice A0_1 l0_1.length c0_1, .slice A0_2 l0_2.length c0_2]]) Try.func48 (fun s w1 h => (laws_toMachine.calls _ _ _ _ _ _ _ _ _ _ _ _ _ _ (Kd.C_below HR0_0.out h.hb) HC0_0.out (Kd.C_below HR0_1.out h.hb) HC0_1.out (Kd.C_below HR0_2.out h.hb) HC0_2.out H2.out).mono (by rintro e w2 ⟨v0_, v1_, v2_, rfl, ho0, ho1, ho2, hb⟩; obtain ⟨A0, c0, rfl⟩ := Kd.S_slice ho0; obtain ⟨A1, c1, rfl⟩ := Kd.R_slice ho1; obtain ⟨A2, c2, rfl⟩ := Kd.R_slice ho2; obtain ⟨lo, hi, hx⟩ := (Stk.nil w1).push hb (P := fun lo_ hi_ w_ => Kd.S (Kd.slice 5 (Kd.int .u8)) 119 w_ w.heap.size (fun k_ => lo_ ≤ k_ ∧ k_ < hi_) (.slice A0 r2_0.length c0) r2_0 ∧ Kd.R kimplWindow 48 w_ w.heap.size (fun k_ => lo_ ≤ k_ ∧ k_ < hi_) (.slice A1 r2_1.length c1) r2_1 ∧ Kd.R Kd.bool 4 w_ w.heap.size (fun k_ => lo_ ≤ k_ ∧ k_ < hi_) (.slice A2 r2_2.length c2) r2_2) (fun w_ ha => ⟨S_held ho0 h.hb.size ha, R_held ho1 h.hb.size ha, R_held ho2 h.hb.size ha⟩); exact ⟨⟨lo, hi, A0, c0, A1, c1, A2, c2⟩, rfl, hx⟩)), cl rfl (fun s => #[.agg #[.slice (s6 1).A r2_0.length (s6 1).c, .slice (s6 1).B r2_1.length (s6 1).e, .slice (s6 1).C r2_2.length (s6 1).f], .agg #[.slice (s 2).A r2_0.length (s 2).c, .slice (s 2).B r2_1.length (s 2).e, .slice (s 2).C r2_2.length (s 2).f]]) Try.func35 (fun s w1 h => (laws_eqMachine.calls _ _ _ _ _ _ _ _ _ _ _ _ _ _ _ _ _ _ _ _ _ (Kd.S_reads' (h.get 2 rfl).1).2.2 (Kd.S_reads' (h.get 2 rfl).1).2.1 (Kd.R_reads' (h.get 2 rfl).2.1).2.2 (Kd.R_reads' (h.get 2 rfl).2.1).2.1 (Kd.R_reads' (h.get 2 rfl).2.2).2.2 (Kd.R_reads' (h.get 2 rfl).2.2).2.1 (Kd.S_reads' (h.get 0 rfl).1).2.2 (Kd.S_reads' (h.get 0 rfl).1).2.1 (Kd.R_reads' (h.get 0 rfl).2.1).2.2 (Kd.R_reads' (h.get 0 rfl).2.1).2.1 (Kd.R_reads' (h.get 0 rfl).2.2).2.2 (Kd.R_reads' (h.get 0 rfl).2.2).2.1 H6.out).mono (by rintro e w2 ⟨rfl, hb⟩; exact fin0 hb)), pu rfl, trivial⟩
  intro s9 w9 h; have HS9 := Aside0.mk h; clear h HS8
  refine tl0 ?_
  refine wp_cond_false rfl ?_
  refine wp_skip ?_
  refine thN ?_
  refine reg0 (aF := ?_) [] [0] false 1 rfl rfl (by kernel_rfl) rfl (fun _ => rfl) ?aF HS9.out ?hs ?_
  rotate_left 1
  case aF => intro s; simp only [putE, EvT.val, Act.put, setIfInBounds_toArray, set_cons_zero, set_cons_succ]; rfl
  case hs => exact trivial
  intro s10 w10 h; have HS10 := Aside0.mk h; clear h HS9
  refine tlP (v := .int .i64 1) 9 rfl ?_
  refine tl0 ?_
  refine reg (aF := ?_) (nw := ?_) [evL 0 46 [] (fun s => .agg #[.slice (s6 1).A r2_0.length (s6 1).c, .slice (s6 1).B r2_1.length (s6 1).e, .slice (s6 1).C r2_2.length (s6 1).f]), evP 1 47 [] (fun s => .int .i64 1), evW 2 (some 48) [] (fun s => .int .i64 r7_0)] [3] [⟨2, 2, [], fun s => ⟨(s6 1).lo, (s6 1).hi, fun w_ => Kd.S (Kd.slice 5 (Kd.int .u8)) 119 w_ w.heap.size (fun k_ => (s6 1).lo ≤ k_ ∧ k_ < (s6 1).hi) (.slice (s6 1).A r2_0.length (s6 1).c) r7_1 ∧ Kd.R kimplWindow 48 w_ w.heap.size (fun k_ => (s6 1).lo ≤ k_ ∧ k_ < (s6 1).hi) (.slice (s6 1).B r2_1.length (s6 1).e) r7_2 ∧ Kd.R Kd.bool 4 w_ w.heap.size (fun k_ => (s6 1).lo ≤ k_ ∧ k_ < (s6 1).hi) (.slice (s6 1).C r2_2.length (s6 1).f) r7_3⟩⟩] false 4 rfl rfl (by kernel_rfl) rfl ((mf1 mf0)) ?aF ?nw HS10.out ?hs ?_
  rotate_left 2
  case aF => intro s; simp only [putE, EvT.val, Act.put, setIfInBounds_toArray, set_cons_zero, set_cons_succ]; rfl
  case nw => intro s; simp only [thA, bsA, List.nil_append, List.cons_append, List.append_nil, if_true, if_false, Nat.reduceLT, set_cons_zero, set_cons_succ]; rfl
  case hs => exact ⟨ld rfl 3 (fun s => rfl) (fun s w h => by have h0 := h 0 _ rfl; have h1 := h 1 _ rfl; have h2 := h 2 _ rfl; clear h; go_simp; try rfl), pu rfl, cw rfl 0 2 rfl rfl (fun s => #[.agg #[.slice (s6 1).A r2_0.length (s6 1).c, .slice (s6 1).B r2_1.length (s6 1).e, .slice (s6 1).C r2_2.length (s6 1).f], .int .i64 1]) Try.func36 (fun s w1 h => (laws_markMachine.calls (fun k_ => (s6 1).lo ≤ k_ ∧ k_ < (s6 1).hi) _ _ _ _ _ _ _ _ _ _ _ w _ h.hb (h.get 0 rfl).1 (h.get 0 rfl).2.1 (h.get 0 rfl).2.2 H7.out).mono (by rintro e w2 ⟨rfl, ho0, ho1, ho2, hb, hk⟩; exact ⟨rfl, Wrote.of 0 h rfl hb hk (fun w_ ha => ⟨S_again ho0 ha, R_again ho1 ha, R_again ho2 ha⟩)⟩)), trivial⟩
  intro s11 w11 h; have HS11 := Aside0.mk h; clear h HS10
  refine tlP (v := .int .i64 r7_0) 9 rfl ?_
  refine tl0 ?_
  refine wp_seq ?_
  refine reg0 (aF := ?_) [evP 0 49 [] (fun s => .int .i64 r7_0), evP 1 50 [] (fun s => .bool false), evP 2 51 [] (fun s => .bool false), evP 3 52 [] (fun s => .slice (s7 1).A r3_0.length (s7 1).c), evP 4 53 [] (fun s => .slice (s5 2).A r3_0.length (s5 2).c), evC 5 (some 54) [] (fun s x => .bool true) (fun s x => []), evP 6 55 [] (fun s => .bool false), evP 7 56 [] (fun s => .bool false), evP 8 57 [] (fun s => .bool false), evP 9 58 [] (fun s => .bool r3_1), evP 10 59 [] (fun s => .bool r3_1), evP 11 60 [] (fun s => .bool false), evP 12 61 [] (fun s => .bool false)] [] false 13 rfl rfl (by kernel_rfl) rfl (fun _ => rfl) ?aF HS11.out ?hs ?_
  rotate_left 1
  case aF => intro s; simp only [putE, EvT.val, Act.put, setIfInBounds_toArray, set_cons_zero, set_cons_succ]; rfl
  case hs => exact ⟨pu rfl, pb (q := .lss) Nb_r7_0 rfl, pu rfl, pu rfl, pu rfl, cl rfl (fun s => #[.slice (s7 1).A r3_0.length (s7 1).c, .slice (s5 2).A r3_0.length (s5 2).c]) Try.func52 (fun s w1 h => (laws_eqByteSS.calls _ _ _ _ _ _ _ _ _ (Kd.S_reads' (h.get 1 rfl)).2.2 (Kd.S_reads' (h.get 1 rfl)).2.1 (Kd.S_reads' (h.get 5 rfl)).2.2 (Kd.S_reads' (h.get 5 rfl)).2.1 H5.out).mono (by rintro e w2 ⟨rfl, hd⟩; exact fin0 hd.below)), pu rfl, pu rfl, pu rfl, pu rfl, pu rfl, pn Try.underlying4 rfl, pu rfl, trivial⟩
  intro s12 w12 h; have HS12 := Aside0.mk h; clear h HS11
  refine tl0 ?_
  refine wp_cond_false rfl ?_
  refine wp_skip ?_
  refine thN ?_
  refine reg0 (aF := ?_) [] [0] false 1 rfl rfl (by kernel_rfl) rfl (fun _ => rfl) ?aF HS12.out ?hs ?_
  rotate_left 1
  case aF => intro s; simp only [putE, EvT.val, Act.put, setIfInBounds_toArray, set_cons_zero, set_cons_succ]; rfl
  case hs => exact trivial
  intro s13 w13 h; have HS13 := Aside0.mk h; clear h HS12
  refine tlP (v := .int .i64 1) 10 rfl ?_
  refine tl0 ?_
  refine reg (aF := ?_) (nw := ?_) [evP 0 62 [] (fun s => .slice (s7 1).A r3_0.length (s7 1).c), evP 1 63 [] (fun s => .int .i64 1), evW 2 (some 64) [] (fun s => .int .i64 r8_0)] [3] [⟨1, 2, [], fun s => ⟨(s7 1).lo, (s7 1).hi, fun w_ => Kd.S (Kd.slice 5 (Kd.int .u8)) 119 w_ w.heap.size (fun k_ => (s7 1).lo ≤ k_ ∧ k_ < (s7 1).hi) (.slice (s7 1).A r3_0.length (s7 1).c) r8_1⟩⟩] false 4 rfl rfl (by kernel_rfl) rfl ((mf1 mf0)) ?aF ?nw HS13.out ?hs ?_
  rotate_left 2
  case aF => intro s; simp only [putE, EvT.val, Act.put, setIfInBounds_toArray, set_cons_zero, set_cons_succ]; rfl
  case nw => intro s; simp only [thA, bsA, List.nil_append, List.cons_append, List.append_nil, if_true, if_false, Nat.reduceLT, set_cons_zero, set_cons_succ]; rfl
  case hs => exact ⟨pu rfl, pu rfl, cw rfl 0 1 rfl rfl (fun s => #[.slice (s7 1).A r3_0.length (s7 1).c, .int .i64 1]) Try.func53 (fun s w1 h => (laws_markByteSS.calls (fun k_ => (s7 1).lo ≤ k_ ∧ k_ < (s7 1).hi) _ _ _ _ _ w _ h.hb (h.get 0 rfl) H8.out).mono (by rintro e w2 ⟨rfl, ho0, hb, hk⟩; exact ⟨rfl, Wrote.of 0 h rfl hb hk (fun w_ ha => S_again ho0 ha)⟩)), trivial⟩
  intro s14 w14 h; have HS14 := Aside0.mk h; clear h HS13
  refine tlP (v := .int .i64 r8_0) 10 rfl ?_
  refine tl0 ?_
  refine reg0 (aF := ?_) [] [0] false 1 rfl rfl (by kernel_rfl) rfl (fun _ => rfl) ?aF HS14.out ?hs ?_
  rotate_left 1
  case aF => intro s; simp only [putE, EvT.val, Act.put, setIfInBounds_toArray, set_cons_zero, set_cons_succ]; rfl
  case hs => exact trivial
  intro s15 w15 h; have HS15 := Aside0.mk h; clear h HS14
  refine tlP (v := .int .i64 1) 11 rfl ?_
  refine tl0 ?_
  refine reg0 (aF := ?_) [evP 0 65 [] (fun s => .slice (s7 1).A r3_0.length (s7 1).c), evP 1 66 [] (fun s => .int .i64 1), evC 2 (some 67) [] (fun s x => .int .i64 r8_0) (fun s x => [])] [3] false 4 rfl rfl (by kernel_rfl) rfl (fun _ => rfl) ?aF HS15.out ?hs ?_
  rotate_left 1
  case aF => intro s; simp only [putE, EvT.val, Act.put, setIfInBounds_toArray, set_cons_zero, set_cons_succ]; rfl
  case hs => exact ⟨pu rfl, pu rfl, cl rfl (fun s => #[.slice (s7 1).A r3_0.length (s7 1).c, .int .i64 1]) Try.func54 (fun s w1 h => by rw [show r3_0.length = r8_1.length from (Kd.S_reads' (h.get 1 rfl)).1]; exact (laws_heldByteSS.calls _ _ _ _ _ _ _ ((Kd.S_reads' (h.get 1 rfl)).1 ▸ (Kd.S_reads' (h.get 1 rfl)).2.2) ((Kd.S_reads' (h.get 1 rfl)).1 ▸ (Kd.S_reads' (h.get 1 rfl)).2.1) H9.out).mono (by rintro e w2 ⟨rfl, hd⟩; exact fin0 hd.below)), trivial⟩
  intro s16 w16 h; have HS16 := Aside0.mk h; clear h HS15
  refine tlP (v := .int .i64 r8_0) 11 rfl ?_
  refine tl0 ?_
  refine wp_seq ?_
  refine reg0 (aF := ?_) [evP 0 68 [] (fun s => .int .i64 r8_0), evP 1 69 [] (fun s => .bool false)] [] false 2 rfl rfl (by kernel_rfl) rfl (fun _ => rfl) ?aF HS16.out ?hs ?_
  rotate_left 1
  case aF => intro s; simp only [putE, EvT.val, Act.put, setIfInBounds_toArray, set_cons_zero, set_cons_succ]; rfl
  case hs => exact ⟨pu rfl, pb (q := .lss) Nb_r8_0 rfl, trivial⟩
  intro s17 w17 h; have HS17 := Aside0.mk h; clear h HS16
  refine tl0 ?_
  refine wp_cond_false rfl ?_
  refine wp_skip ?_
  refine thN ?_
  refine wp_seq ?_
  refine reg0 (aF := ?_) [evP 0 70 [] (fun s => .int .i64 r8_0), evP 1 71 [] (fun s => .int .i64 r8_0), evP 2 72 [] (fun s => .bool false)] [] false 3 rfl rfl (by kernel_rfl) rfl (fun _ => rfl) ?aF HS17.out ?hs ?_
  rotate_left 1
  case aF => intro s; simp only [putE, EvT.val, Act.put, setIfInBounds_toArray, set_cons_zero, set_cons_succ]; rfl
  case hs => exact ⟨pu rfl, pu rfl, pb (q := .neq) (bne_self_eq_false _) rfl, trivial⟩
  intro s18 w18 h; have HS18 := Aside0.mk h; clear h HS17
  refine tl0 ?_
  refine wp_cond_false rfl ?_
  refine wp_skip ?_
  refine thN ?_
  refine reg (aF := ?_) (nw := ?_) [evL 0 74 [] (fun s => .agg #[.slice A0_0 l0_0.length c0_0, .slice A0_1 l0_1.length c0_1, .slice A0_2 l0_2.length c0_2]), evC 1 (some 75) [] (fun s x => .agg #[.slice x.A r2_0.length x.c, .slice x.B r2_1.length x.e, .slice x.C r2_2.length x.f]) (fun s x => [⟨x.lo, x.hi, fun w_ => Kd.S (Kd.slice 5 (Kd.int .u8)) 119 w_ w.heap.size (fun k_ => x.lo ≤ k_ ∧ k_ < x.hi) (.slice x.A r2_0.length x.c) r2_0 ∧ Kd.R kimplWindow 48 w_ w.heap.size (fun k_ => x.lo ≤ k_ ∧ k_ < x.hi) (.slice x.B r2_1.length x.e) r2_1 ∧ Kd.R Kd.bool 4 w_ w.heap.size (fun k_ => x.lo ≤ k_ ∧ k_ < x.hi) (.slice x.C r2_2.length x.f) r2_2⟩]), evC 2 (some 76) [1] (fun s x => .tuple #[.slice x.A r3_0.length x.c, .bool r3_1]) (fun s x => [rowS (Kd.slice 5 (Kd.int .u8)) 119 w x.lo x.hi x.A x.c r3_0]), evP 3 73 [2] (fun s => .tuple #[.slice (s 2).A r3_0.length (s 2).c, .bool r3_1]), evP 4 77 [2] (fun s => .slice (s 2).A r3_0.length (s 2).c), evP 5 78 [] (fun s => .bool r3_1), evP 6 12 [2] (fun s => .slice (s 2).A r3_0.length (s 2).c)] [7] [] false 8 rfl rfl (by kernel_rfl) rfl (mf0) ?aF ?nw HS18.out ?hs ?_
  rotate_left 2
  case aF => intro s; simp only [putE, EvT.val, Act.put, setIfInBounds_toArray, set_cons_zero, set_cons_succ]; rfl
  case nw => intro s; simp only [thA, bsA, List.nil_append, List.cons_append, List.append_nil, if_true, if_false, Nat.reduceLT, set_cons_zero, set_cons_succ]; rfl
  case hs => exact ⟨ld rfl 6 (fun s => rfl) (fun s w h => by have h0 := h 0 _ rfl; have h1 := h 1 _ rfl; have h2 := h 2 _ rfl; clear h; go_simp; try rfl), cl rfl (fun s => #[.agg #[.slice A0_0 l0_0.length c0_0, .slice A0_1 l0_1.length c0_1, .slice A0_2 l0_2.length c0_2]]) Try.func48 (fun s w1 h => (laws_toMachine.calls _ _ _ _ _ _ _ _ _ _ _ _ _ _ (Kd.C_below HR0_0.out h.hb) HC0_0.out (Kd.C_below HR0_1.out h.hb) HC0_1.out (Kd.C_below HR0_2.out h.hb) HC0_2.out H2.out).mono (by rintro e w2 ⟨v0_, v1_, v2_, rfl, ho0, ho1, ho2, hb⟩; obtain ⟨A0, c0, rfl⟩ := Kd.S_slice ho0; obtain ⟨A1, c1, rfl⟩ := Kd.R_slice ho1; obtain ⟨A2, c2, rfl⟩ := Kd.R_slice ho2; obtain ⟨lo, hi, hx⟩ := (Stk.nil w1).push hb (P := fun lo_ hi_ w_ => Kd.S (Kd.slice 5 (Kd.int .u8)) 119 w_ w.heap.size (fun k_ => lo_ ≤ k_ ∧ k_ < hi_) (.slice A0 r2_0.length c0) r2_0 ∧ Kd.R kimplWindow 48 w_ w.heap.size (fun k_ => lo_ ≤ k_ ∧ k_ < hi_) (.slice A1 r2_1.length c1) r2_1 ∧ Kd.R Kd.bool 4 w_ w.heap.size (fun k_ => lo_ ≤ k_ ∧ k_ < hi_) (.slice A2 r2_2.length c2) r2_2) (fun w_ ha => ⟨S_held ho0 h.hb.size ha, R_held ho1 h.hb.size ha, R_held ho2 h.hb.size ha⟩); exact ⟨⟨lo, hi, A0, c0, A1, c1, A2, c2⟩, rfl, hx⟩)), cl rfl (fun s => #[.agg #[.slice (s 1).A r2_0.length (s 1).c, .slice (s 1).B r2_1.length (s 1).e, .slice (s 1).C r2_2.length (s 1).f]]) Try.func51 (fun s w1 h => (impl_ShownBytes.calls _ _ _ _ _ _ _ _ _ _ _ _ _ (Kd.S_reads' (h.get 0 rfl).1).2.2 (Kd.S_reads' (h.get 0 rfl).1).2.1 (Kd.R_reads' (h.get 0 rfl).2.1).2.2 (Kd.R_reads' (h.get 0 rfl).2.1).2.1 (Kd.R_reads' (h.get 0 rfl).2.2).2.2 (Kd.R_reads' (h.get 0 rfl).2.2).2.1 H4.out).mono (by rintro e w2 ⟨v0_, rfl, ho0, hb⟩; obtain ⟨x, rfl, hx⟩ := fin_S ho0 hb h.hb.size; exact ⟨x, rfl, hx⟩)), pu rfl, pu rfl, pu rfl, pu rfl, trivial⟩
  intro s19 w19 h; have HS19 := Aside0.mk h; clear h HS18
  refine tlP (v := .bool r3_1) 13 rfl ?_
  refine tl0 ?_
  refine wp_seq ?_
  refine reg0 (aF := ?_) [evP 0 79 [] (fun s => .slice (s19 2).A r3_0.length (s19 2).c), evP 1 80 [] (fun s => .slice (s5 2).A r3_0.length (s5 2).c), evC 2 (some 81) [] (fun s x => .bool true) (fun s x => []), evP 3 82 [] (fun s => .bool false), evP 4 83 [] (fun s => .bool false), evP 5 84 [] (fun s => .bool r3_1), evP 6 85 [] (fun s => .bool r3_1), evP 7 86 [] (fun s => .bool false), evP 8 87 [] (fun s => .bool false)] [] false 9 rfl rfl (by kernel_rfl) rfl (fun _ => rfl) ?aF HS19.out ?hs ?_
  rotate_left 1
  case aF => intro s; simp only [putE, EvT.val, Act.put, setIfInBounds_toArray, set_cons_zero, set_cons_succ]; rfl
  case hs => exact ⟨pu rfl, pu rfl, cl rfl (fun s => #[.slice (s19 2).A r3_0.length (s19 2).c, .slice (s5 2).A r3_0.length (s5 2).c]) Try.func52 (fun s w1 h => (laws_eqByteSS.calls _ _ _ _ _ _ _ _ _ (Kd.S_reads' (h.get 1 rfl)).2.2 (Kd.S_reads' (h.get 1 rfl)).2.1 (Kd.S_reads' (h.get 7 rfl)).2.2 (Kd.S_reads' (h.get 7 rfl)).2.1 H5.out).mono (by rintro e w2 ⟨rfl, hd⟩; exact fin0 hd.below)), pu rfl, pu rfl, pu rfl, pu rfl, pn Try.underlying4 rfl, pu rfl, trivial⟩
  intro s20 w20 h; have HS20 := Aside0.mk h; clear h HS19
  refine tl0 ?_
  refine wp_cond_false rfl ?_
  refine wp_skip ?_
  refine thN ?_
  refine reg0 (aF := ?_) [] [0] false 1 rfl rfl (by kernel_rfl) rfl (fun _ => rfl) ?aF HS20.out ?hs ?_
  rotate_left 1
  case aF => intro s; simp only [putE, EvT.val, Act.put, setIfInBounds_toArray, set_cons_zero, set_cons_succ]; rfl
  case hs => exact trivial
  intro s21 w21 h; have HS21 := Aside0.mk h; clear h HS20
  refine tlP (v := .int .i64 1) 11 rfl ?_
  refine tl0 ?_
  refine reg0 (aF := ?_) [evP 0 88 [] (fun s => .slice (s7 1).A r3_0.length (s7 1).c), evP 1 89 [] (fun s => .int .i64 1), evC 2 (some 90) [] (fun s x => .int .i64 r8_0) (fun s x => [])] [3] false 4 rfl rfl (by kernel_rfl) rfl (fun _ => rfl) ?aF HS21.out ?hs ?_
  rotate_left 1
  case aF => intro s; simp only [putE, EvT.val, Act.put, setIfInBounds_toArray, set_cons_zero, set_cons_succ]; rfl
  case hs => exact ⟨pu rfl, pu rfl, cl rfl (fun s => #[.slice (s7 1).A r3_0.length (s7 1).c, .int .i64 1]) Try.func54 (fun s w1 h => by rw [show r3_0.length = r8_1.length from (Kd.S_reads' (h.get 3 rfl)).1]; exact (laws_heldByteSS.calls _ _ _ _ _ _ _ ((Kd.S_reads' (h.get 3 rfl)).1 ▸ (Kd.S_reads' (h.get 3 rfl)).2.2) ((Kd.S_reads' (h.get 3 rfl)).1 ▸ (Kd.S_reads' (h.get 3 rfl)).2.1) H9.out).mono (by rintro e w2 ⟨rfl, hd⟩; exact fin0 hd.below)), trivial⟩
  intro s22 w22 h; have HS22 := Aside0.mk h; clear h HS21
  refine tlP (v := .int .i64 r8_0) 11 rfl ?_
  refine tl0 ?_
  refine wp_seq ?_
  refine reg0 (aF := ?_) [evP 0 91 [] (fun s => .int .i64 r8_0), evP 1 92 [] (fun s => .bool false)] [] false 2 rfl rfl (by kernel_rfl) rfl (fun _ => rfl) ?aF HS22.out ?hs ?_
  rotate_left 1
  case aF => intro s; simp only [putE, EvT.val, Act.put, setIfInBounds_toArray, set_cons_zero, set_cons_succ]; rfl
  case hs => exact ⟨pu rfl, pb (q := .lss) Nb_r8_0 rfl, trivial⟩
  intro s23 w23 h; have HS23 := Aside0.mk h; clear h HS22
  refine tl0 ?_
  refine wp_cond_false rfl ?_
  refine wp_skip ?_
  refine thN ?_
  refine wp_seq ?_
  refine reg0 (aF := ?_) [evP 0 93 [] (fun s => .int .i64 r8_0), evP 1 94 [] (fun s => .int .i64 r8_0), evP 2 95 [] (fun s => .bool false)] [] false 3 rfl rfl (by kernel_rfl) rfl (fun _ => rfl) ?aF HS23.out ?hs ?_
  rotate_left 1
  case aF => intro s; simp only [putE, EvT.val, Act.put, setIfInBounds_toArray, set_cons_zero, set_cons_succ]; rfl
  case hs => exact ⟨pu rfl, pu rfl, pb (q := .neq) (bne_self_eq_false _) rfl, trivial⟩
  intro s24 w24 h; have HS24 := Aside0.mk h; clear h HS23
  refine tl0 ?_
  refine wp_cond_false rfl ?_
  refine wp_skip ?_
  refine thN ?_
  refine reg0 (aF := ?_) [] [0] false 1 rfl rfl (by kernel_rfl) rfl (fun _ => rfl) ?aF HS24.out ?hs ?_
  rotate_left 1
  case aF => intro s; simp only [putE, EvT.val, Act.put, setIfInBounds_toArray, set_cons_zero, set_cons_succ]; rfl
  case hs => exact trivial
  intro s25 w25 h; have HS25 := Aside0.mk h; clear h HS24
  refine tlP (v := .bool true) 2 rfl ?_
  refine tl0 ?_
  refine wp_ret ?_
  go_ret
  exact ⟨by first | rfl | simp, HS25.out.hb⟩
end Go.Proofs.Ytoomjghabiojkaa.P


/- The law FnExactShownBytes. -/
namespace Go.Proofs.Ytoomjghabiojkaa.P
open Go.RowKit Go.Proofs.YtoomjghabiojkaaW.PrintWords Go.Proofs.YtoomjghabiojkaaW.Mine
set_option linter.unusedVariables false
theorem FnExactShownBytes_walk (w : World) (cs0 : Array Value) (a0 : ((List (List Int)) × ((List SlawsWindow) × (List Bool)))) (hK0 : (Kd.pair (Kd.slice 119 (Kd.slice 5 (Kd.int .u8))) (Kd.pair (Kd.slice 47 klawsWindow) (Kd.slice 4 Kd.bool))).K w a0 cs0.toList) (ok0 : ((∀ y1 ∈ a0.1, (∀ y2 ∈ y1, (Lit.int .u8 y2).wf = true)) ∧ ((∀ y1 ∈ a0.2.1, ((Lit.int .i64 y1.f0).wf = true ∧ (Lit.int .i64 y1.f1).wf = true ∧ (Lit.int .i64 y1.f2).wf = true ∧ (Lit.int .i64 y1.f3).wf = true)) ∧ (∀ y1 ∈ a0.2.2, True)))) :
    Calls Try.prog 9 #[.agg cs0] w fun e w' => e = .returned (.bool true) ∧ Below w.heap.size w w' := by
  obtain ⟨m0, l0, s0⟩ := a0
  obtain ⟨_, _, hcs0, ⟨A0, c0, rfl, hc0, hr0⟩, ⟨_, _, rfl, ⟨B0, d0, rfl, hd0, hq0⟩, ⟨C0, e0, rfl, he0, ht0⟩⟩⟩ := hK0
  obtain rfl := agg_of hcs0
  obtain ⟨r, hz, hh⟩ := szMachine_f m0 l0 s0 1048576 (by omega) (by omega) hr0.2.1 (C_inner_len hr0) hq0.2.1 ht0.2.1
  rcases hh with ⟨hm, h5⟩ | rfl
  · obtain ⟨hm, hl0, hs0⟩ := hm
    have hwf : ∀ x ∈ l0.map winOf, wfW x := by intro x hx; obtain ⟨y, hy, rfl⟩ := List.mem_map.1 hx; have h := ok0.2.1 y hy; exact ⟨wf_i64 h.1, wf_i64 h.2.1, wf_i64 h.2.2.1, wf_i64 h.2.2.2⟩
    have hl2 : (l0.map winOf).length ≤ 1048576 := by rw [List.length_map]; exact hl0
    have h7 := shownB_ok m0 (l0.map winOf) s0
    exact FnExactShownBytes_run A0 c0 m0 B0 d0 l0 C0 e0 s0 _ _ _ _ _ _ _ _ _ _ _ _ w hr0 hc0 hq0 hd0 ht0 he0 hz.rounds (toMachine_f m0 l0 s0 hm hl0 hs0).rounds (specShownB_f m0 (l0.map winOf) s0 hm hwf).rounds (implShownB_f m0 (l0.map winOf) s0 hm).rounds (eqByteSS_f (shownB m0 (l0.map winOf) s0).1 h7.len h7.rows).rounds (eqMachine_f _ _ _ hm hl2 hs0).rounds (markC _ _ _ hm hl2 hs0) (markBBs (shownB m0 (l0.map winOf) s0).1 h7) (heldByteSS_f (shownB m0 (l0.map winOf) s0).1 1 (by omega) (by have := h7.2.2; omega) (by have := h7.1; omega)).rounds (by omega) (by omega) (by omega)
  · exact FnExactShownBytes_run0 A0 c0 m0 B0 d0 l0 C0 e0 s0 _ w hr0 hc0 hq0 hd0 ht0 he0 hz.rounds (by omega)
end Go.Proofs.Ytoomjghabiojkaa.P


namespace Go.Proofs.Ytoomjghabiojkaa.fnExactShownBytes
open Go.ChangeShapes Go.WideShapes Go.ChangeAt Go.RowKit Go.Proofs.YtoomjghabiojkaaW.PrintWords Go.Proofs.YtoomjghabiojkaaW.Mine Go.Proofs.Ytoomjghabiojkaa.P
open Go.ChangeMaps (open_string shut_string)
set_option linter.unusedVariables false
theorem own : ownKnob Try.prog.godebug = none := by kernel_rfl
theorem laidOut : laidOutB Try.prog = true := by kernel_rfl
set_option maxRecDepth 100000 in
theorem lifted (os : Os) (started : os.Started) (H : Type) (enc : TypeId × Value → H) :
    ReturnsInHanded {} Try.checked os 9 .any (Rows.fnExactShownBytesSpec.pre6 enc Try.prog Try.f9 Rows.fnExactShownBytesRow.domain false) (Rows.fnExactShownBytesSpec.post enc Try.prog Try.f9 false true false false) := by
  refine returnsInHanded_of_change_sized (C := Try.checked) own started (by kernel_rfl) Try.func9
    (ChangeSpec.witness6 (enc := enc) (C := Try.checked) false ⟨#[], #[.agg #[.slice none 0 0, .slice none 0 0, .slice none 0 0]], []⟩ 8 (by kernel_rfl) (by kernel_rfl) (by kernel_rfl) (by kernel_rfl)) ?_
  intro W base args ds gs before hval0 hW hcnd hsz0 _
  have hval : ∀ (j : Nat) t v, Try.f9.params[j]? = some t → args[j]? = some v → Value.okWide Try.prog W .any base t v := hval0
  have hW' := hW
  obtain ⟨p, q, hA0, hV, rfl, hfz, hnd⟩ := hW
  have hA : DataW.TrodAll enc Try.prog W 0 (fun _ => true) true Try.f9.params.toList args.toList ds p := hA0
  rw [Try.params9] at hA hval
  obtain ⟨v0, vs0, d0, ds0, p0, q0, hargs, rfl, rfl, h0, r0⟩ := trodAll_cons hA
  obtain ⟨rfl, rfl, rfl⟩ := trodAll_nil r0
  obtain rfl : args = #[v0] := by cases args; simp_all
  obtain ⟨rfl, rfl⟩ := trodVars_none hV
  have k0 := h0
  have lt0 : ∀ x ∈ p0, x.block < W.heap.size := by obtain ⟨m, hm⟩ := k0; exact DataW.trod_lt m _ _ _ hm
  obtain ⟨cs0, rfl, _⟩ := okWide_struct Try.underlying78 (hval 0 78 v0 rfl rfl)
  obtain ⟨a0, hK0, ok0⟩ : ∃ a : ((List (List Int)) × ((List SlawsWindow) × (List Bool))), (Kd.pair (Kd.slice 119 (Kd.slice 5 (Kd.int .u8))) (Kd.pair (Kd.slice 47 klawsWindow) (Kd.slice 4 Kd.bool))).K W a cs0.toList ∧ ((∀ y1 ∈ a.1, (∀ y2 ∈ y1, (Lit.int .u8 y2).wf = true)) ∧ ((∀ y1 ∈ a.2.1, ((Lit.int .i64 y1.f0).wf = true ∧ (Lit.int .i64 y1.f1).wf = true ∧ (Lit.int .i64 y1.f2).wf = true ∧ (Lit.int .i64 y1.f3).wf = true)) ∧ (∀ y1 ∈ a.2.2, True))) := by obtain ⟨fuel, hf⟩ := h0; exact (ReadsK.struct Try.underlying78 (by kernel_rfl) (ReadsF.cons rfl (ReadsK.struct Try.underlying24 (by kernel_rfl) (ReadsF.last rfl (ReadsK.slice Try.underlying22 (by kernel_rfl) (ReadsK.slice Try.underlying119 (by kernel_rfl) (ReadsK.int Try.underlying5))) (by kernel_rfl))) (by kernel_rfl) (ReadsF.cons rfl (ReadsK.slice Try.underlying38 (by kernel_rfl) (ReadsK.iso (ReadsK.struct Try.underlying47 (by kernel_rfl) (ReadsF.cons rfl (ReadsK.int Try.underlying3) (by kernel_rfl) (ReadsF.cons rfl (ReadsK.int Try.underlying3) (by kernel_rfl) (ReadsF.cons rfl (ReadsK.int Try.underlying3) (by kernel_rfl) (ReadsF.last rfl (ReadsK.int Try.underlying3) (by kernel_rfl)))))) (fun x : SlawsWindow => (x.f0, x.f1, x.f2, x.f3)) (fun a => (⟨a.1, a.2.1, a.2.2.1, a.2.2.2⟩ : SlawsWindow)) (fun _ => rfl))) (by kernel_rfl) (ReadsF.last rfl (ReadsK.slice Try.underlying58 (by kernel_rfl) (ReadsK.bool Try.underlying4)) (by kernel_rfl))))) hf
  clear hA0 hval0 hsz0
  refine (FnExactShownBytes_walk W cs0 a0 hK0 ok0).mono fun e W' ⟨he, bel⟩ => ?_
  subst he
  exact ⟨_, rfl, _, _, _, [], _, [], hW', trodAll_mk1 (shut_bool Try.underlying4 _), (trodAll_cons_mk (Below.trod laidOut (by kernel_rfl) (of_decide_eq_true (by kernel_rfl)) k0 bel lt0) trodAll_mk0), rfl, bel.frame _, fun h => by cases h⟩
theorem over : Rows.fnExactShownBytesRow.holds Try.pinned (OpenSpec.ofChange Rows.fnExactShownBytesSpec) :=
  OpenClaim.holds_of_wide 9 Try.f9 rfl rfl rfl rfl rfl rfl rfl ⟨rfl, rfl, rfl, rfl, rfl⟩ rfl rfl rfl rfl rfl (by kernel_rfl) Try.func9 (by kernel_rfl)
    (of_decide_eq_true (by kernel_rfl)) (by unfold Func.isWrapper; first | (rw [if_pos (by decide +kernel)]; kernel_rfl) | (rw [if_neg (by decide +kernel)]; exact ⟨rfl, rfl⟩))
    (fun os started H enc _ => lifted os started H enc)
theorem proved : Rows.FnExactShownBytesSaid := over
end Go.Proofs.Ytoomjghabiojkaa.fnExactShownBytes
namespace Go.Proofs.Ytoomjghabiojkaa
theorem fnExactShownBytes_holds : Rows.FnExactShownBytesSaid := fnExactShownBytes.proved
#print axioms fnExactShownBytes_holds
end Go.Proofs.Ytoomjghabiojkaa


