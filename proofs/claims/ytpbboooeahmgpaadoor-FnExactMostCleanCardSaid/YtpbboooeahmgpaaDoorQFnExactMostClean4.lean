/- Part 4 of the proof of the law FnExactMostClean: contracts of the functions that it reaches. -/
import Derived.Test.YtpbboooeahmgpaaDoorQFnExactMostClean3
namespace Go.Proofs.YtpbboooeahmgpaaDoor.P
open Go.RowKit Go.Proofs.YtpbboooeahmgpaaDoorW.PrintWords Go.Proofs.YtpbboooeahmgpaaDoorW.PrintLast Go.Proofs.YtpbboooeahmgpaaDoorW.PrintMore
attribute [local go_sem] max2_int min2_int max_two min_two max_three min_three max_four min_four   -- for this text's walks alone
set_option linter.unusedVariables false
set_option linter.unusedSimpArgs false

mutual
def spec_l10Pairs.l0 : Nat → List (SimplLoan) → List (SA2int) → Int → Option ((List (SA2int)))
  | 0, _, _, _ => none
  | k + 1, x0, x3, x4 => if x4 < (x0.length : Int) then (spec_l10Pairs.l1 k x0 x3 x4 (wrap64 (x4 + 1))) else (some x3)
def spec_l10Pairs.l1 : Nat → List (SimplLoan) → List (SA2int) → Int → Int → Option ((List (SA2int)))
  | 0, _, _, _, _ => none
  | k + 1, x0, x3, x4, x5 => if x5 < (x0.length : Int) then (if 0 ≤ x4 then (if x4 < (x0.length : Int) then (if 0 ≤ x5 then ((spec_l10Clash.f ((rd_TimplLoan x0 x4).f0.f0) ((rd_TimplLoan x0 x4).f0.f1) ((rd_TimplLoan x0 x4).f0.f2) ((rd_TimplLoan x0 x4).f0.f3) ((rd_TimplLoan x0 x4).f1) ((rd_TimplLoan x0 x4).f2) ((rd_TimplLoan x0 x4).f3) ((rd_TimplLoan x0 x5).f0.f0) ((rd_TimplLoan x0 x5).f0.f1) ((rd_TimplLoan x0 x5).f0.f2) ((rd_TimplLoan x0 x5).f0.f3) ((rd_TimplLoan x0 x5).f1) ((rd_TimplLoan x0 x5).f2) ((rd_TimplLoan x0 x5).f3)).bind fun t155 => (if t155 ≥ 0 then (if x3.length < 8796093022208 then (spec_l10Pairs.l1 k x0 (x3 ++ [(⟨x4, x5⟩ : SA2int)]) x4 (wrap64 (x5 + 1))) else (none)) else (spec_l10Pairs.l1 k x0 x3 x4 (wrap64 (x5 + 1))))) else (none)) else (none)) else (none)) else (spec_l10Pairs.l0 k x0 x3 (wrap64 (x4 + 1)))
end
def spec_l10Pairs.f (k : Nat) (l0 : List (SimplLoan)) : Option ((List (SA2int))) := spec_l10Pairs.l0 k l0 (([] : List (SA2int))) 0
def spec_l10Pairs.T8 : Bool × List (List Nat × List Nat) := (true, [([], []), ([], []), ([0, 1], [0, 1]), ([2], [2]), ([], []), ([], []), ([4, 5], [4, 5]), ([6], [6]), ([3, 7], [3, 7]), ([8], [8])])
def spec_l10Pairs.B8 : List Nat := [0, 0, 3, 7, 0, 0, 48, 112, 255, 511]
theorem spec_l10Pairs.tab8 : rtab .any (opsOf Tryd.f38 8) = spec_l10Pairs.T8 := by kernel_rfl
theorem spec_l10Pairs.bits8 : waitsOk spec_l10Pairs.T8.2 spec_l10Pairs.B8 = true := by kernel_rfl
set_option maxHeartbeats 8000000 in
set_option maxRecDepth 100000 in
theorem spec_l10Pairs.calls (k : Nat) (A0 : Option Addr) (c0 : Nat) (l0 : List (SimplLoan)) (r : List (SA2int)) (w : World) (hr0 : Kd.C kimplLoan w A0 l0.length l0) (hc0 : l0.length ≤ c0) (h : spec_l10Pairs.f k l0 = some r) :
    Calls Tryd.prog 38 #[.slice A0 l0.length c0] w fun e w' => ∃ v0_ : Value, e = .returned (v0_) ∧ Kd.R kA2int 49 w' w.heap.size (fun _ => True) v0_ r ∧ Below w.heap.size w w' := by
  have hu59 := Tryd.underlying59
  have hu49 := Tryd.underlying49
  have HR0 := Aside0.mk hr0
  have HC0 := Aside0.mk hc0
  clear hr0 hc0
  have HB := Aside0.mk (Below.refl w.heap.size w)
  have H : (spec_l10Pairs.l0 k l0 (([] : List (SA2int))) 0) = some r := h
  clear h
  obtain ⟨y150, hy150⟩ : ∃ y_ : List (SA2int), y_ = (([] : List (SA2int))) := ⟨_, rfl⟩
  replace H : (spec_l10Pairs.l0 k l0 y150 0) = some r := by first | (rw [hy150]; with_reducible exact H) | (have H2_ := (Option.bind_some _ _).symm.trans H; rw [hy150]; with_reducible exact H2_) | (have H2_ := (Option.bind_some _ _).symm.trans H; with_reducible exact H2_) | with_reducible exact H | (rw [hy150]; exact H) | exact H
  have Ny150 := Aside0.mk hy150
  clear hy150
  have H' := Aside0.mk H
  clear H
  go_enter Tryd.func38, Tryd.ntmps38
  go_wp2_with (first | ((with_reducible refine gate_dst (N := 6) rfl ?_); refine Kd.R_lit kA2int _ 49 ?hg (N := 6) ?hd (xs := ([] : List (SA2int))) (inner := []) (ok := fun _ => True) (okp := fun _ => True) ?hr ?hp (fun _ hk => hk) trivial (Below.refl _ _) (Nat.le_refl _) (by simp) ?_; (case hd => rfl); (case hg => rfl); (case hr => first | (go_simp; done) | (go_simp; rfl)); (case hp => exact (Reps.none _ _)); intro v151 w2 ho3 hb hg_ hnew_; clear hg_ hnew_; (first | rw [← Ny150.out] at ho3 | (simp only [Int.reduceToNat] at ho3; rw [← Ny150.out] at ho3)); have n0_ := Aside0.mk (Kd.R_lower ho3 (below_size (by repeat (first | (with_reducible first | exact HB.out | apply below_alloc | apply pw_below_drewN | apply below_drew1) | exact HB.out)))); have n1_ := Aside0.mk (below_step (by repeat (first | (with_reducible first | exact HB.out | apply below_alloc | apply pw_below_drewN | apply below_drew1) | exact HB.out)) hb); clear HB; have HO152 := n0_; have HB := n1_; clear n0_ n1_; clear hb ho3))
  go_loopg [3, 4] k (fun kq v3 v4 w' => ∃ (x3_1 : List (SA2int)) (x4_1 : Int), v4 = .int .i64 x4_1 ∧ Aside0 (spec_l10Pairs.l0 kq l0 x3_1 x4_1 = some r) ∧ Aside0 (kq ≤ k) ∧ Aside0 (Kd.R kA2int 49 w' w.heap.size (fun _ => True) v3 x3_1) ∧ Aside0 (Below w.heap.size w w'))
  case atStart => exact ⟨(y150), (0), (by first | rfl | (simp; done) | (simp [*]; done)), H', ⟨Nat.le_refl _⟩, ⟨by (with_reducible repeat (first | apply Kd.R_alloc | apply Kd.R_drewN | apply Kd.R_drew)); exact HO152.out⟩, ⟨by repeat (first | (with_reducible first | exact HB.out | apply below_alloc | apply pw_below_drewN | apply below_drew1) | exact HB.out)⟩⟩
  case round =>
    clear H'
    try clear p2
    try clear c3
    obtain ⟨x3_1, x4_1, rfl, HA, HK1, HO_3, HB⟩ := hrel
    cases gk with
    | zero => exact absurd HA.out (by simp [spec_l10Pairs.l0])
    | succ k1 =>
      have H := HA.out
      clear HA
      simp only [spec_l10Pairs.l0] at H
      by_cases c4 : x4_1 < (l0.length : Int)
      · rw [if_pos c4] at H
        have c4b0 : decide (x4_1 < (l0.length : Int)) = true := decide_eq_true c4
        clear c4
        have H' := Aside0.mk H
        clear H
        go_wp2
        go_loopg [3, 5] k1 (fun kq v3 v5 w' => ∃ (x3_2 : List (SA2int)) (x5_2 : Int), v5 = .int .i64 x5_2 ∧ Aside0 (spec_l10Pairs.l1 kq l0 x3_2 x4_1 x5_2 = some r) ∧ Aside0 (kq ≤ k1) ∧ Aside0 (Kd.R kA2int 49 w' w.heap.size (fun _ => True) v3 x3_2) ∧ Aside0 (Below w.heap.size w w'))
        case atStart => exact ⟨(x3_1), (wrap64 (x4_1 + 1)), (by first | rfl | (simp; done) | (simp [*]; done)), H', ⟨Nat.le_refl _⟩, ⟨by (with_reducible repeat (first | apply Kd.R_alloc | apply Kd.R_drewN | apply Kd.R_drew)); exact HO_3.out⟩, ⟨by repeat (first | (with_reducible first | exact HB.out | apply below_alloc | apply pw_below_drewN | apply below_drew1) | exact HB.out)⟩⟩
        case round =>
          clear H'
          try clear p2
          try clear c3
          try clear c4
          try clear c4b0
          try clear p2
          obtain ⟨x3_2, x5_2, rfl, HA, HK2, HO_3, HB⟩ := hrel
          cases gk with
          | zero => exact absurd HA.out (by simp [spec_l10Pairs.l1])
          | succ k2 =>
            have H := HA.out
            clear HA
            simp only [spec_l10Pairs.l1] at H
            by_cases c5 : x5_2 < (l0.length : Int)
            · rw [if_pos c5] at H
              have c5b0 : decide (x5_2 < (l0.length : Int)) = true := decide_eq_true c5
              clear c5
              by_cases c6 : 0 ≤ x4_1
              · rw [if_pos c6] at H
                have c6b0 : decide (0 ≤ x4_1) = true := decide_eq_true c6
                clear c6
                by_cases c7 : x4_1 < (l0.length : Int)
                · rw [if_pos c7] at H
                  have c7b0 : decide (x4_1 < (l0.length : Int)) = true := decide_eq_true c7
                  clear c7
                  by_cases c8 : 0 ≤ x5_2
                  · rw [if_pos c8] at H
                    have c8b0 : decide (0 ≤ x5_2) = true := decide_eq_true c8
                    clear c8
                    replace H := Option.bind_eq_some_iff.mp H
                    obtain ⟨t155, A90, H⟩ := H
                    replace H : (if t155 ≥ 0 then (if x3_2.length < 8796093022208 then (spec_l10Pairs.l1 k2 l0 (x3_2 ++ [(⟨x4_1, x5_2⟩ : SA2int)]) x4_1 (wrap64 (x5_2 + 1))) else (none)) else (spec_l10Pairs.l1 k2 l0 x3_2 x4_1 (wrap64 (x5_2 + 1)))) = some r := H
                    have A9 := Aside0.mk A90
                    clear A90
                    by_cases c10 : t155 ≥ 0
                    · rw [if_pos c10] at H
                      have c10b0 : decide (0 ≤ t155) = true := decide_eq_true c10
                      clear c10
                      by_cases c11 : x3_2.length < 8796093022208
                      · rw [if_pos c11] at H
                        have LMc11 := Aside0.mk c11
                        clear c11
                        obtain ⟨y156, hy156⟩ : ∃ y_ : List (SA2int), y_ = (x3_2 ++ [(⟨x4_1, x5_2⟩ : SA2int)]) := ⟨_, rfl⟩
                        replace H : (spec_l10Pairs.l1 k2 l0 y156 x4_1 (wrap64 (x5_2 + 1))) = some r := by first | (rw [hy156]; with_reducible exact H) | (have H2_ := (Option.bind_some _ _).symm.trans H; rw [hy156]; with_reducible exact H2_) | (have H2_ := (Option.bind_some _ _).symm.trans H; with_reducible exact H2_) | with_reducible exact H | (rw [hy156]; exact H) | exact H
                        have Ny156 := Aside0.mk hy156
                        clear hy156
                        have H' := Aside0.mk H
                        clear H
                        try go_wp2
                        have n0_ := Aside0.mk (Kd.R_drew HO_3.out)
                        have n1_ := Aside0.mk (below_drew1 HB.out)
                        clear HO_3
                        clear HB
                        have HO_3 := n0_
                        have HB := n1_
                        clear n0_ n1_
                        have p153 : 0 ≤ (x4_1 : Int) := of_decide_eq_true (by first | (with_reducible assumption) | assumption)
                        have q153 : x4_1 < (l0.length : Int) := of_decide_eq_true (by first | (with_reducible assumption) | assumption)
                        obtain ⟨ad153, e153, hx153_0, hx153_1, hx153_2, hx153_3, hx153_4, hx153_5, hx153_6⟩ := at_TimplLoan HR0.out x4_1 p153 q153
                        have hw153_6 := hx153_6
                        have hw153_5 := hx153_5
                        have hw153_4 := hx153_4
                        have hw153_3 := hx153_3
                        have hw153_2 := hx153_2
                        have hw153_1 := hx153_1
                        have hw153_0 := hx153_0
                        cases e153
                        replace hx153_0 := (HB.out.cell (World.block_lt_of_cell? w _ hx153_0)).trans hx153_0
                        replace hx153_1 := (HB.out.cell (World.block_lt_of_cell? w _ hx153_1)).trans hx153_1
                        replace hx153_2 := (HB.out.cell (World.block_lt_of_cell? w _ hx153_2)).trans hx153_2
                        replace hx153_3 := (HB.out.cell (World.block_lt_of_cell? w _ hx153_3)).trans hx153_3
                        replace hx153_4 := (HB.out.cell (World.block_lt_of_cell? w _ hx153_4)).trans hx153_4
                        replace hx153_5 := (HB.out.cell (World.block_lt_of_cell? w _ hx153_5)).trans hx153_5
                        replace hx153_6 := (HB.out.cell (World.block_lt_of_cell? w _ hx153_6)).trans hx153_6
                        replace p153 := eq_true p153
                        replace q153 := eq_true q153
                        have p154 : 0 ≤ (x5_2 : Int) := of_decide_eq_true (by first | (with_reducible assumption) | assumption)
                        have q154 : x5_2 < (l0.length : Int) := of_decide_eq_true (by first | (with_reducible assumption) | assumption)
                        obtain ⟨ad154, e154, hx154_0, hx154_1, hx154_2, hx154_3, hx154_4, hx154_5, hx154_6⟩ := at_TimplLoan HR0.out x5_2 p154 q154
                        have hw154_6 := hx154_6
                        have hw154_5 := hx154_5
                        have hw154_4 := hx154_4
                        have hw154_3 := hx154_3
                        have hw154_2 := hx154_2
                        have hw154_1 := hx154_1
                        have hw154_0 := hx154_0
                        obtain rfl : ad153 = ad154 := (by injection e154)
                        replace hx154_0 := (HB.out.cell (World.block_lt_of_cell? w _ hx154_0)).trans hx154_0
                        replace hx154_1 := (HB.out.cell (World.block_lt_of_cell? w _ hx154_1)).trans hx154_1
                        replace hx154_2 := (HB.out.cell (World.block_lt_of_cell? w _ hx154_2)).trans hx154_2
                        replace hx154_3 := (HB.out.cell (World.block_lt_of_cell? w _ hx154_3)).trans hx154_3
                        replace hx154_4 := (HB.out.cell (World.block_lt_of_cell? w _ hx154_4)).trans hx154_4
                        replace hx154_5 := (HB.out.cell (World.block_lt_of_cell? w _ hx154_5)).trans hx154_5
                        replace hx154_6 := (HB.out.cell (World.block_lt_of_cell? w _ hx154_6)).trans hx154_6
                        replace p154 := eq_true p154
                        replace q154 := eq_true q154
                        refine start_ (n := 10) (S := fun w' => w'.cell? (ad153.add ((x4_1).toNat * 7)) = some (.int .i64 ((rd_TimplLoan l0 x4_1).f0.f0)) ∧ w'.cell? ⟨(ad153.add ((x4_1).toNat * 7)).block, (ad153.add ((x4_1).toNat * 7)).off + 1, none⟩ = some (.int .i64 ((rd_TimplLoan l0 x4_1).f0.f1)) ∧ w'.cell? ⟨(ad153.add ((x4_1).toNat * 7)).block, (ad153.add ((x4_1).toNat * 7)).off + 2, none⟩ = some (.int .i64 ((rd_TimplLoan l0 x4_1).f0.f2)) ∧ w'.cell? ⟨(ad153.add ((x4_1).toNat * 7)).block, (ad153.add ((x4_1).toNat * 7)).off + 3, none⟩ = some (.int .i64 ((rd_TimplLoan l0 x4_1).f0.f3)) ∧ w'.cell? ⟨(ad153.add ((x4_1).toNat * 7)).block, (ad153.add ((x4_1).toNat * 7)).off + 4, none⟩ = some (.bool ((rd_TimplLoan l0 x4_1).f1)) ∧ w'.cell? ⟨(ad153.add ((x4_1).toNat * 7)).block, (ad153.add ((x4_1).toNat * 7)).off + 5, none⟩ = some (.int .i64 ((rd_TimplLoan l0 x4_1).f2)) ∧ w'.cell? ⟨(ad153.add ((x4_1).toNat * 7)).block, (ad153.add ((x4_1).toNat * 7)).off + 6, none⟩ = some (.int .i64 ((rd_TimplLoan l0 x4_1).f3)) ∧ w'.cell? (ad153.add ((x5_2).toNat * 7)) = some (.int .i64 ((rd_TimplLoan l0 x5_2).f0.f0)) ∧ w'.cell? ⟨(ad153.add ((x5_2).toNat * 7)).block, (ad153.add ((x5_2).toNat * 7)).off + 1, none⟩ = some (.int .i64 ((rd_TimplLoan l0 x5_2).f0.f1)) ∧ w'.cell? ⟨(ad153.add ((x5_2).toNat * 7)).block, (ad153.add ((x5_2).toNat * 7)).off + 2, none⟩ = some (.int .i64 ((rd_TimplLoan l0 x5_2).f0.f2)) ∧ w'.cell? ⟨(ad153.add ((x5_2).toNat * 7)).block, (ad153.add ((x5_2).toNat * 7)).off + 3, none⟩ = some (.int .i64 ((rd_TimplLoan l0 x5_2).f0.f3)) ∧ w'.cell? ⟨(ad153.add ((x5_2).toNat * 7)).block, (ad153.add ((x5_2).toNat * 7)).off + 4, none⟩ = some (.bool ((rd_TimplLoan l0 x5_2).f1)) ∧ w'.cell? ⟨(ad153.add ((x5_2).toNat * 7)).block, (ad153.add ((x5_2).toNat * 7)).off + 5, none⟩ = some (.int .i64 ((rd_TimplLoan l0 x5_2).f2)) ∧ w'.cell? ⟨(ad153.add ((x5_2).toNat * 7)).block, (ad153.add ((x5_2).toNat * 7)).off + 6, none⟩ = some (.int .i64 ((rd_TimplLoan l0 x5_2).f3))) (ds := []) #[false, false, false, false, false, false, false, false, false, false] (by kernel_rfl) rfl rfl ⟨(by have h_ := ((HB.out.cell (World.block_lt_of_cell? w _ hw153_0)).trans hw153_0); first | exact h_ | (simp only [*] at h_; exact h_) | (simp [*]; done) | simpa [*] using h_), (by have h_ := ((HB.out.cell (World.block_lt_of_cell? w _ hw153_1)).trans hw153_1); first | exact h_ | (simp only [*] at h_; exact h_) | (simp [*]; done) | simpa [*] using h_), (by have h_ := ((HB.out.cell (World.block_lt_of_cell? w _ hw153_2)).trans hw153_2); first | exact h_ | (simp only [*] at h_; exact h_) | (simp [*]; done) | simpa [*] using h_), (by have h_ := ((HB.out.cell (World.block_lt_of_cell? w _ hw153_3)).trans hw153_3); first | exact h_ | (simp only [*] at h_; exact h_) | (simp [*]; done) | simpa [*] using h_), (by have h_ := ((HB.out.cell (World.block_lt_of_cell? w _ hw153_4)).trans hw153_4); first | exact h_ | (simp only [*] at h_; exact h_) | (simp [*]; done) | simpa [*] using h_), (by have h_ := ((HB.out.cell (World.block_lt_of_cell? w _ hw153_5)).trans hw153_5); first | exact h_ | (simp only [*] at h_; exact h_) | (simp [*]; done) | simpa [*] using h_), (by have h_ := ((HB.out.cell (World.block_lt_of_cell? w _ hw153_6)).trans hw153_6); first | exact h_ | (simp only [*] at h_; exact h_) | (simp [*]; done) | simpa [*] using h_), (by have h_ := ((HB.out.cell (World.block_lt_of_cell? w _ hw154_0)).trans hw154_0); first | exact h_ | (simp only [*] at h_; exact h_) | (simp [*]; done) | simpa [*] using h_), (by have h_ := ((HB.out.cell (World.block_lt_of_cell? w _ hw154_1)).trans hw154_1); first | exact h_ | (simp only [*] at h_; exact h_) | (simp [*]; done) | simpa [*] using h_), (by have h_ := ((HB.out.cell (World.block_lt_of_cell? w _ hw154_2)).trans hw154_2); first | exact h_ | (simp only [*] at h_; exact h_) | (simp [*]; done) | simpa [*] using h_), (by have h_ := ((HB.out.cell (World.block_lt_of_cell? w _ hw154_3)).trans hw154_3); first | exact h_ | (simp only [*] at h_; exact h_) | (simp [*]; done) | simpa [*] using h_), (by have h_ := ((HB.out.cell (World.block_lt_of_cell? w _ hw154_4)).trans hw154_4); first | exact h_ | (simp only [*] at h_; exact h_) | (simp [*]; done) | simpa [*] using h_), (by have h_ := ((HB.out.cell (World.block_lt_of_cell? w _ hw154_5)).trans hw154_5); first | exact h_ | (simp only [*] at h_; exact h_) | (simp [*]; done) | simpa [*] using h_), (by have h_ := ((HB.out.cell (World.block_lt_of_cell? w _ hw154_6)).trans hw154_6); first | exact h_ | (simp only [*] at h_; exact h_) | (simp [*]; done) | simpa [*] using h_)⟩ (fun hHeld => ?_); refine with_tabW spec_l10Pairs.tab8 spec_l10Pairs.bits8 (fun HT_ HW_ => ?_)
                        generalize wr.drew = w12 at HO_3 HB hx153_0 hx153_1 hx153_2 hx153_3 hx153_4 hx153_5 hx153_6 hx154_0 hx154_1 hx154_2 hx154_3 hx154_4 hx154_5 hx154_6 hHeld ⊢
                        refine pure_ (i := 0) (N := some 21) (v := ?_) (a' := ?_) #[true, false, false, false, false, false, false, false, false, false] rfl rfl (any_of HT_.out (by kernel_rfl)) (fun _ _ _ h => h) (Or.inl ⟨by rfl, ?_⟩) ?_ ?_
                        rotate_left
                        · intro w'
                          go_simp
                          with_reducible rfl
                        rotate_left
                        · simp only [Act.put, List.setIfInBounds_toArray, List.set_cons_zero, List.set_cons_succ, i64_w, i32_w]
                          rfl
                        refine pure_ (i := 1) (N := some 22) (v := ?_) (a' := ?_) #[true, true, false, false, false, false, false, false, false, false] rfl rfl (any_of HT_.out (by kernel_rfl)) (fun _ _ _ h => h) (Or.inl ⟨by rfl, ?_⟩) ?_ ?_
                        rotate_left
                        · intro w'
                          go_simp
                          with_reducible rfl
                        rotate_left
                        · simp only [Act.put, List.setIfInBounds_toArray, List.set_cons_zero, List.set_cons_succ, i64_w, i32_w]
                          rfl
                        refine pure_ (i := 2) (N := some 23) (v := ?_) (a' := ?_) #[true, true, true, false, false, false, false, false, false, false] rfl rfl (any_of HT_.out (by kernel_rfl)) (fun _ _ _ h => h) (Or.inl ⟨by rfl, ?_⟩) ?_ ?_
                        rotate_left
                        · intro w'
                          go_simp
                          with_reducible rfl
                        rotate_left
                        · simp only [Act.put, List.setIfInBounds_toArray, List.set_cons_zero, List.set_cons_succ, i64_w, i32_w]
                          rfl
                        refine pure_ (i := 4) (N := some 25) (v := ?_) (a' := ?_) #[true, true, true, false, true, false, false, false, false, false] rfl rfl (any_of HT_.out (by kernel_rfl)) (fun _ _ _ h => h) (Or.inl ⟨by rfl, ?_⟩) ?_ ?_
                        rotate_left
                        · intro w'
                          go_simp
                          with_reducible rfl
                        rotate_left
                        · simp only [Act.put, List.setIfInBounds_toArray, List.set_cons_zero, List.set_cons_succ, i64_w, i32_w]
                          rfl
                        refine pure_ (i := 5) (N := some 26) (v := ?_) (a' := ?_) #[true, true, true, false, true, true, false, false, false, false] rfl rfl (any_of HT_.out (by kernel_rfl)) (fun _ _ _ h => h) (Or.inl ⟨by rfl, ?_⟩) ?_ ?_
                        rotate_left
                        · intro w'
                          go_simp
                          with_reducible rfl
                        rotate_left
                        · simp only [Act.put, List.setIfInBounds_toArray, List.set_cons_zero, List.set_cons_succ, i64_w, i32_w]
                          rfl
                        refine pure_ (i := 6) (N := some 27) (v := ?_) (a' := ?_) #[true, true, true, false, true, true, true, false, false, false] rfl rfl (any_of HT_.out (by kernel_rfl)) (fun _ _ _ h => h) (Or.inl ⟨by rfl, ?_⟩) ?_ ?_
                        rotate_left
                        · intro w'
                          go_simp
                          with_reducible rfl
                        rotate_left
                        · simp only [Act.put, List.setIfInBounds_toArray, List.set_cons_zero, List.set_cons_succ, i64_w, i32_w]
                          rfl
                        refine take_ (i := 3) (N := some 24) (v := ?_) (a' := ?_) #[true, true, true, true, true, true, true, false, false, false] rfl rfl (take_ofW HT_.out HW_.out (by kernel_rfl)) (fun _ _ _ h => h) (Or.inl ⟨by rfl, ?_⟩) hHeld ?_ ?_
                        rotate_left
                        · rintro w' ⟨s0, s1, s2, s3, s4, s5, s6, s7, s8, s9, s10, s11, s12, s13⟩
                          go_simp
                          with_reducible rfl
                        rotate_left
                        · simp only [Act.put, List.setIfInBounds_toArray, List.set_cons_zero, List.set_cons_succ, i64_w, i32_w]
                          rfl
                        refine take_ (i := 7) (N := some 28) (v := ?_) (a' := ?_) #[true, true, true, true, true, true, true, true, false, false] rfl rfl (take_ofW HT_.out HW_.out (by kernel_rfl)) (fun _ _ _ h => h) (Or.inl ⟨by rfl, ?_⟩) hHeld ?_ ?_
                        rotate_left
                        · rintro w' ⟨s0, s1, s2, s3, s4, s5, s6, s7, s8, s9, s10, s11, s12, s13⟩
                          go_simp
                          with_reducible rfl
                        rotate_left
                        · simp only [Act.put, List.setIfInBounds_toArray, List.set_cons_zero, List.set_cons_succ, i64_w, i32_w]
                          rfl
                        refine one_ (i := 8) (N := some 29) #[true, true, true, true, true, true, true, true, true, false] rfl rfl (one_of HT_.out (by kernel_rfl)) (by decide) (fun K hK => ?_)
                        refine goes_ Tryd.func53 (by kernel_rfl) rfl #[.agg #[.int .i64 ((rd_TimplLoan l0 x4_1).f0.f0), .int .i64 ((rd_TimplLoan l0 x4_1).f0.f1), .int .i64 ((rd_TimplLoan l0 x4_1).f0.f2), .int .i64 ((rd_TimplLoan l0 x4_1).f0.f3), .bool ((rd_TimplLoan l0 x4_1).f1), .int .i64 ((rd_TimplLoan l0 x4_1).f2), .int .i64 ((rd_TimplLoan l0 x4_1).f3)], .agg #[.int .i64 ((rd_TimplLoan l0 x5_2).f0.f0), .int .i64 ((rd_TimplLoan l0 x5_2).f0.f1), .int .i64 ((rd_TimplLoan l0 x5_2).f0.f2), .int .i64 ((rd_TimplLoan l0 x5_2).f0.f3), .bool ((rd_TimplLoan l0 x5_2).f1), .int .i64 ((rd_TimplLoan l0 x5_2).f2), .int .i64 ((rd_TimplLoan l0 x5_2).f3)]] (by rfl) rfl rfl (by (try simp only [List.map_toArray, List.map_cons, List.map_nil]); first | done | rfl | (simp only [List.length_drop, List.length_take]; rfl)) ?_
                        with_reducible refine (spec_l10Clash.calls ((rd_TimplLoan l0 x4_1).f0.f0) ((rd_TimplLoan l0 x4_1).f0.f1) ((rd_TimplLoan l0 x4_1).f0.f2) ((rd_TimplLoan l0 x4_1).f0.f3) ((rd_TimplLoan l0 x4_1).f1) ((rd_TimplLoan l0 x4_1).f2) ((rd_TimplLoan l0 x4_1).f3) ((rd_TimplLoan l0 x5_2).f0.f0) ((rd_TimplLoan l0 x5_2).f0.f1) ((rd_TimplLoan l0 x5_2).f0.f2) ((rd_TimplLoan l0 x5_2).f0.f3) ((rd_TimplLoan l0 x5_2).f1) ((rd_TimplLoan l0 x5_2).f2) ((rd_TimplLoan l0 x5_2).f3) t155 _ A9.out).mono ?_
                        rintro e w13 ⟨rfl, hb⟩
                        refine ⟨_, rfl, ?_⟩
                        have n0_ := Aside0.mk (Kd.R_below (by (with_reducible repeat (first | apply Kd.R_alloc | apply Kd.R_drewN | apply Kd.R_drew)); exact HO_3.out) hb)
                        have n1_ := Aside0.mk (below_step (by repeat (first | (with_reducible first | exact HB.out | apply below_alloc | apply pw_below_drewN | apply below_drew1) | exact HB.out)) hb)
                        clear HO_3
                        clear HB
                        have HO_3 := n0_
                        have HB := n1_
                        clear n0_ n1_
                        (try clear hb)
                        (try clear hb2)
                        (try clear hk)
                        (try clear hi)
                        refine hK.out _ _ ⟨(by have h_ := ((HB.out.cell (World.block_lt_of_cell? w _ hw153_0)).trans hw153_0); first | exact h_ | (simp only [*] at h_; exact h_) | (simp [*]; done) | simpa [*] using h_), (by have h_ := ((HB.out.cell (World.block_lt_of_cell? w _ hw153_1)).trans hw153_1); first | exact h_ | (simp only [*] at h_; exact h_) | (simp [*]; done) | simpa [*] using h_), (by have h_ := ((HB.out.cell (World.block_lt_of_cell? w _ hw153_2)).trans hw153_2); first | exact h_ | (simp only [*] at h_; exact h_) | (simp [*]; done) | simpa [*] using h_), (by have h_ := ((HB.out.cell (World.block_lt_of_cell? w _ hw153_3)).trans hw153_3); first | exact h_ | (simp only [*] at h_; exact h_) | (simp [*]; done) | simpa [*] using h_), (by have h_ := ((HB.out.cell (World.block_lt_of_cell? w _ hw153_4)).trans hw153_4); first | exact h_ | (simp only [*] at h_; exact h_) | (simp [*]; done) | simpa [*] using h_), (by have h_ := ((HB.out.cell (World.block_lt_of_cell? w _ hw153_5)).trans hw153_5); first | exact h_ | (simp only [*] at h_; exact h_) | (simp [*]; done) | simpa [*] using h_), (by have h_ := ((HB.out.cell (World.block_lt_of_cell? w _ hw153_6)).trans hw153_6); first | exact h_ | (simp only [*] at h_; exact h_) | (simp [*]; done) | simpa [*] using h_), (by have h_ := ((HB.out.cell (World.block_lt_of_cell? w _ hw154_0)).trans hw154_0); first | exact h_ | (simp only [*] at h_; exact h_) | (simp [*]; done) | simpa [*] using h_), (by have h_ := ((HB.out.cell (World.block_lt_of_cell? w _ hw154_1)).trans hw154_1); first | exact h_ | (simp only [*] at h_; exact h_) | (simp [*]; done) | simpa [*] using h_), (by have h_ := ((HB.out.cell (World.block_lt_of_cell? w _ hw154_2)).trans hw154_2); first | exact h_ | (simp only [*] at h_; exact h_) | (simp [*]; done) | simpa [*] using h_), (by have h_ := ((HB.out.cell (World.block_lt_of_cell? w _ hw154_3)).trans hw154_3); first | exact h_ | (simp only [*] at h_; exact h_) | (simp [*]; done) | simpa [*] using h_), (by have h_ := ((HB.out.cell (World.block_lt_of_cell? w _ hw154_4)).trans hw154_4); first | exact h_ | (simp only [*] at h_; exact h_) | (simp [*]; done) | simpa [*] using h_), (by have h_ := ((HB.out.cell (World.block_lt_of_cell? w _ hw154_5)).trans hw154_5); first | exact h_ | (simp only [*] at h_; exact h_) | (simp [*]; done) | simpa [*] using h_), (by have h_ := ((HB.out.cell (World.block_lt_of_cell? w _ hw154_6)).trans hw154_6); first | exact h_ | (simp only [*] at h_; exact h_) | (simp [*]; done) | simpa [*] using h_)⟩ (fun hHeld => ?_)
                        clear hK K
                        refine norm_ (a' := ?_) ?_ ?_
                        rotate_left
                        · show Act.put _ (some 29) _ = _
                          simp only [Act.put, List.setIfInBounds_toArray, List.set_cons_zero, List.set_cons_succ, i64_w, i32_w]
                          rfl
                        refine pure_ (i := 9) (N := some 30) (v := ?_) (a' := ?_) #[true, true, true, true, true, true, true, true, true, true] rfl rfl (any_of HT_.out (by kernel_rfl)) (fun _ _ _ h => h) (Or.inl ⟨by rfl, ?_⟩) ?_ ?_
                        rotate_left
                        · intro w'
                          go_simp
                          with_reducible rfl
                        rotate_left
                        · simp only [Act.put, List.setIfInBounds_toArray, List.set_cons_zero, List.set_cons_succ, i64_w, i32_w]
                          rfl
                        refine done_ (done_of HT_.out (by kernel_rfl)) ?_
                        try go_wp2_with (first | ((with_reducible refine gate_builtin (b := .append) (xs := #[.tmp 31, .tmp 35]) rfl ?_); at_builtin; refine Kd.R_append kA2int (w0 := w) w.heap.size rfl (.tmp 31) (.tmp 35) 46 49 (.agg #[(.int .i64 0), (.int .i64 0)]) 16 rfl Tryd.underlying46 info49 rfl (by decide) (by omega) u3 x3_2 (⟨x4_1, x5_2⟩ : SA2int) [.int .i64 x4_1, .int .i64 x5_2] (fun _ => True) (fun _ => False) rfl rfl ?aP (fun _ hk => hk.elim) ?aF ?aO ?aB ?aS ?aL ?_; (case aP => exact kA2int_mkM _ _ _ (⟨x4_1, x5_2⟩ : SA2int)); (case aB => exact (by repeat (first | (with_reducible first | exact HB.out | apply below_alloc | apply pw_below_drewN | apply below_drew1) | exact HB.out))); (case aF => exact (fun _ _ => trivial)); (case aO => exact (by (with_reducible repeat (first | apply Kd.R_alloc | apply Kd.R_drewN | apply Kd.R_drew)); exact HO_3.out)); (case aS => exact (below_size (by repeat (first | (with_reducible first | exact HB.out | apply below_alloc | apply pw_below_drewN | apply below_drew1) | exact HB.out)))); (case aL => have := LMc11.out; omega); intro v157 w14 ho hb hg hat; rw [← Ny156.out] at ho; have n0_ := Aside0.mk (hb); have n1_ := Aside0.mk (ho); clear HB; clear HO_3; have HB := n0_; have HO158 := n1_; clear n0_ n1_; clear ho hb hg hat))
                        go_roundg k2
                        case measure => have := HK1.out; have := HK2.out; omega
                        case rel => exact ⟨(y156), (wrap64 (x5_2 + 1)), (by first | rfl | (simp; done) | (simp [*]; done)), H', ⟨by have := HK1.out; have := HK2.out; omega⟩, ⟨by (with_reducible repeat (first | apply Kd.R_alloc | apply Kd.R_drewN | apply Kd.R_drew)); exact HO158.out⟩, ⟨by repeat (first | (with_reducible first | exact HB.out | apply below_alloc | apply pw_below_drewN | apply below_drew1) | exact HB.out)⟩⟩
                      · rw [if_neg c11] at H
                        exact absurd H (by simp)
                    · rw [if_neg c10] at H
                      have c10b0 : decide (0 ≤ t155) = false := decide_eq_false c10
                      clear c10
                      have H' := Aside0.mk H
                      clear H
                      try go_wp2
                      have n0_ := Aside0.mk (Kd.R_drew HO_3.out)
                      have n1_ := Aside0.mk (below_drew1 HB.out)
                      clear HO_3
                      clear HB
                      have HO_3 := n0_
                      have HB := n1_
                      clear n0_ n1_
                      have p153 : 0 ≤ (x4_1 : Int) := of_decide_eq_true (by first | (with_reducible assumption) | assumption)
                      have q153 : x4_1 < (l0.length : Int) := of_decide_eq_true (by first | (with_reducible assumption) | assumption)
                      obtain ⟨ad153, e153, hx153_0, hx153_1, hx153_2, hx153_3, hx153_4, hx153_5, hx153_6⟩ := at_TimplLoan HR0.out x4_1 p153 q153
                      have hw153_6 := hx153_6
                      have hw153_5 := hx153_5
                      have hw153_4 := hx153_4
                      have hw153_3 := hx153_3
                      have hw153_2 := hx153_2
                      have hw153_1 := hx153_1
                      have hw153_0 := hx153_0
                      cases e153
                      replace hx153_0 := (HB.out.cell (World.block_lt_of_cell? w _ hx153_0)).trans hx153_0
                      replace hx153_1 := (HB.out.cell (World.block_lt_of_cell? w _ hx153_1)).trans hx153_1
                      replace hx153_2 := (HB.out.cell (World.block_lt_of_cell? w _ hx153_2)).trans hx153_2
                      replace hx153_3 := (HB.out.cell (World.block_lt_of_cell? w _ hx153_3)).trans hx153_3
                      replace hx153_4 := (HB.out.cell (World.block_lt_of_cell? w _ hx153_4)).trans hx153_4
                      replace hx153_5 := (HB.out.cell (World.block_lt_of_cell? w _ hx153_5)).trans hx153_5
                      replace hx153_6 := (HB.out.cell (World.block_lt_of_cell? w _ hx153_6)).trans hx153_6
                      replace p153 := eq_true p153
                      replace q153 := eq_true q153
                      have p154 : 0 ≤ (x5_2 : Int) := of_decide_eq_true (by first | (with_reducible assumption) | assumption)
                      have q154 : x5_2 < (l0.length : Int) := of_decide_eq_true (by first | (with_reducible assumption) | assumption)
                      obtain ⟨ad154, e154, hx154_0, hx154_1, hx154_2, hx154_3, hx154_4, hx154_5, hx154_6⟩ := at_TimplLoan HR0.out x5_2 p154 q154
                      have hw154_6 := hx154_6
                      have hw154_5 := hx154_5
                      have hw154_4 := hx154_4
                      have hw154_3 := hx154_3
                      have hw154_2 := hx154_2
                      have hw154_1 := hx154_1
                      have hw154_0 := hx154_0
                      obtain rfl : ad153 = ad154 := (by injection e154)
                      replace hx154_0 := (HB.out.cell (World.block_lt_of_cell? w _ hx154_0)).trans hx154_0
                      replace hx154_1 := (HB.out.cell (World.block_lt_of_cell? w _ hx154_1)).trans hx154_1
                      replace hx154_2 := (HB.out.cell (World.block_lt_of_cell? w _ hx154_2)).trans hx154_2
                      replace hx154_3 := (HB.out.cell (World.block_lt_of_cell? w _ hx154_3)).trans hx154_3
                      replace hx154_4 := (HB.out.cell (World.block_lt_of_cell? w _ hx154_4)).trans hx154_4
                      replace hx154_5 := (HB.out.cell (World.block_lt_of_cell? w _ hx154_5)).trans hx154_5
                      replace hx154_6 := (HB.out.cell (World.block_lt_of_cell? w _ hx154_6)).trans hx154_6
                      replace p154 := eq_true p154
                      replace q154 := eq_true q154
                      refine start_ (n := 10) (S := fun w' => w'.cell? (ad153.add ((x4_1).toNat * 7)) = some (.int .i64 ((rd_TimplLoan l0 x4_1).f0.f0)) ∧ w'.cell? ⟨(ad153.add ((x4_1).toNat * 7)).block, (ad153.add ((x4_1).toNat * 7)).off + 1, none⟩ = some (.int .i64 ((rd_TimplLoan l0 x4_1).f0.f1)) ∧ w'.cell? ⟨(ad153.add ((x4_1).toNat * 7)).block, (ad153.add ((x4_1).toNat * 7)).off + 2, none⟩ = some (.int .i64 ((rd_TimplLoan l0 x4_1).f0.f2)) ∧ w'.cell? ⟨(ad153.add ((x4_1).toNat * 7)).block, (ad153.add ((x4_1).toNat * 7)).off + 3, none⟩ = some (.int .i64 ((rd_TimplLoan l0 x4_1).f0.f3)) ∧ w'.cell? ⟨(ad153.add ((x4_1).toNat * 7)).block, (ad153.add ((x4_1).toNat * 7)).off + 4, none⟩ = some (.bool ((rd_TimplLoan l0 x4_1).f1)) ∧ w'.cell? ⟨(ad153.add ((x4_1).toNat * 7)).block, (ad153.add ((x4_1).toNat * 7)).off + 5, none⟩ = some (.int .i64 ((rd_TimplLoan l0 x4_1).f2)) ∧ w'.cell? ⟨(ad153.add ((x4_1).toNat * 7)).block, (ad153.add ((x4_1).toNat * 7)).off + 6, none⟩ = some (.int .i64 ((rd_TimplLoan l0 x4_1).f3)) ∧ w'.cell? (ad153.add ((x5_2).toNat * 7)) = some (.int .i64 ((rd_TimplLoan l0 x5_2).f0.f0)) ∧ w'.cell? ⟨(ad153.add ((x5_2).toNat * 7)).block, (ad153.add ((x5_2).toNat * 7)).off + 1, none⟩ = some (.int .i64 ((rd_TimplLoan l0 x5_2).f0.f1)) ∧ w'.cell? ⟨(ad153.add ((x5_2).toNat * 7)).block, (ad153.add ((x5_2).toNat * 7)).off + 2, none⟩ = some (.int .i64 ((rd_TimplLoan l0 x5_2).f0.f2)) ∧ w'.cell? ⟨(ad153.add ((x5_2).toNat * 7)).block, (ad153.add ((x5_2).toNat * 7)).off + 3, none⟩ = some (.int .i64 ((rd_TimplLoan l0 x5_2).f0.f3)) ∧ w'.cell? ⟨(ad153.add ((x5_2).toNat * 7)).block, (ad153.add ((x5_2).toNat * 7)).off + 4, none⟩ = some (.bool ((rd_TimplLoan l0 x5_2).f1)) ∧ w'.cell? ⟨(ad153.add ((x5_2).toNat * 7)).block, (ad153.add ((x5_2).toNat * 7)).off + 5, none⟩ = some (.int .i64 ((rd_TimplLoan l0 x5_2).f2)) ∧ w'.cell? ⟨(ad153.add ((x5_2).toNat * 7)).block, (ad153.add ((x5_2).toNat * 7)).off + 6, none⟩ = some (.int .i64 ((rd_TimplLoan l0 x5_2).f3))) (ds := []) #[false, false, false, false, false, false, false, false, false, false] (by kernel_rfl) rfl rfl ⟨(by have h_ := ((HB.out.cell (World.block_lt_of_cell? w _ hw153_0)).trans hw153_0); first | exact h_ | (simp only [*] at h_; exact h_) | (simp [*]; done) | simpa [*] using h_), (by have h_ := ((HB.out.cell (World.block_lt_of_cell? w _ hw153_1)).trans hw153_1); first | exact h_ | (simp only [*] at h_; exact h_) | (simp [*]; done) | simpa [*] using h_), (by have h_ := ((HB.out.cell (World.block_lt_of_cell? w _ hw153_2)).trans hw153_2); first | exact h_ | (simp only [*] at h_; exact h_) | (simp [*]; done) | simpa [*] using h_), (by have h_ := ((HB.out.cell (World.block_lt_of_cell? w _ hw153_3)).trans hw153_3); first | exact h_ | (simp only [*] at h_; exact h_) | (simp [*]; done) | simpa [*] using h_), (by have h_ := ((HB.out.cell (World.block_lt_of_cell? w _ hw153_4)).trans hw153_4); first | exact h_ | (simp only [*] at h_; exact h_) | (simp [*]; done) | simpa [*] using h_), (by have h_ := ((HB.out.cell (World.block_lt_of_cell? w _ hw153_5)).trans hw153_5); first | exact h_ | (simp only [*] at h_; exact h_) | (simp [*]; done) | simpa [*] using h_), (by have h_ := ((HB.out.cell (World.block_lt_of_cell? w _ hw153_6)).trans hw153_6); first | exact h_ | (simp only [*] at h_; exact h_) | (simp [*]; done) | simpa [*] using h_), (by have h_ := ((HB.out.cell (World.block_lt_of_cell? w _ hw154_0)).trans hw154_0); first | exact h_ | (simp only [*] at h_; exact h_) | (simp [*]; done) | simpa [*] using h_), (by have h_ := ((HB.out.cell (World.block_lt_of_cell? w _ hw154_1)).trans hw154_1); first | exact h_ | (simp only [*] at h_; exact h_) | (simp [*]; done) | simpa [*] using h_), (by have h_ := ((HB.out.cell (World.block_lt_of_cell? w _ hw154_2)).trans hw154_2); first | exact h_ | (simp only [*] at h_; exact h_) | (simp [*]; done) | simpa [*] using h_), (by have h_ := ((HB.out.cell (World.block_lt_of_cell? w _ hw154_3)).trans hw154_3); first | exact h_ | (simp only [*] at h_; exact h_) | (simp [*]; done) | simpa [*] using h_), (by have h_ := ((HB.out.cell (World.block_lt_of_cell? w _ hw154_4)).trans hw154_4); first | exact h_ | (simp only [*] at h_; exact h_) | (simp [*]; done) | simpa [*] using h_), (by have h_ := ((HB.out.cell (World.block_lt_of_cell? w _ hw154_5)).trans hw154_5); first | exact h_ | (simp only [*] at h_; exact h_) | (simp [*]; done) | simpa [*] using h_), (by have h_ := ((HB.out.cell (World.block_lt_of_cell? w _ hw154_6)).trans hw154_6); first | exact h_ | (simp only [*] at h_; exact h_) | (simp [*]; done) | simpa [*] using h_)⟩ (fun hHeld => ?_); refine with_tabW spec_l10Pairs.tab8 spec_l10Pairs.bits8 (fun HT_ HW_ => ?_)
                      generalize wr.drew = w15 at HO_3 HB hx153_0 hx153_1 hx153_2 hx153_3 hx153_4 hx153_5 hx153_6 hx154_0 hx154_1 hx154_2 hx154_3 hx154_4 hx154_5 hx154_6 hHeld ⊢
                      refine pure_ (i := 0) (N := some 21) (v := ?_) (a' := ?_) #[true, false, false, false, false, false, false, false, false, false] rfl rfl (any_of HT_.out (by kernel_rfl)) (fun _ _ _ h => h) (Or.inl ⟨by rfl, ?_⟩) ?_ ?_
                      rotate_left
                      · intro w'
                        go_simp
                        with_reducible rfl
                      rotate_left
                      · simp only [Act.put, List.setIfInBounds_toArray, List.set_cons_zero, List.set_cons_succ, i64_w, i32_w]
                        rfl
                      refine pure_ (i := 1) (N := some 22) (v := ?_) (a' := ?_) #[true, true, false, false, false, false, false, false, false, false] rfl rfl (any_of HT_.out (by kernel_rfl)) (fun _ _ _ h => h) (Or.inl ⟨by rfl, ?_⟩) ?_ ?_
                      rotate_left
                      · intro w'
                        go_simp
                        with_reducible rfl
                      rotate_left
                      · simp only [Act.put, List.setIfInBounds_toArray, List.set_cons_zero, List.set_cons_succ, i64_w, i32_w]
                        rfl
                      refine pure_ (i := 2) (N := some 23) (v := ?_) (a' := ?_) #[true, true, true, false, false, false, false, false, false, false] rfl rfl (any_of HT_.out (by kernel_rfl)) (fun _ _ _ h => h) (Or.inl ⟨by rfl, ?_⟩) ?_ ?_
                      rotate_left
                      · intro w'
                        go_simp
                        with_reducible rfl
                      rotate_left
                      · simp only [Act.put, List.setIfInBounds_toArray, List.set_cons_zero, List.set_cons_succ, i64_w, i32_w]
                        rfl
                      refine pure_ (i := 4) (N := some 25) (v := ?_) (a' := ?_) #[true, true, true, false, true, false, false, false, false, false] rfl rfl (any_of HT_.out (by kernel_rfl)) (fun _ _ _ h => h) (Or.inl ⟨by rfl, ?_⟩) ?_ ?_
                      rotate_left
                      · intro w'
                        go_simp
                        with_reducible rfl
                      rotate_left
                      · simp only [Act.put, List.setIfInBounds_toArray, List.set_cons_zero, List.set_cons_succ, i64_w, i32_w]
                        rfl
                      refine pure_ (i := 5) (N := some 26) (v := ?_) (a' := ?_) #[true, true, true, false, true, true, false, false, false, false] rfl rfl (any_of HT_.out (by kernel_rfl)) (fun _ _ _ h => h) (Or.inl ⟨by rfl, ?_⟩) ?_ ?_
                      rotate_left
                      · intro w'
                        go_simp
                        with_reducible rfl
                      rotate_left
                      · simp only [Act.put, List.setIfInBounds_toArray, List.set_cons_zero, List.set_cons_succ, i64_w, i32_w]
                        rfl
                      refine pure_ (i := 6) (N := some 27) (v := ?_) (a' := ?_) #[true, true, true, false, true, true, true, false, false, false] rfl rfl (any_of HT_.out (by kernel_rfl)) (fun _ _ _ h => h) (Or.inl ⟨by rfl, ?_⟩) ?_ ?_
                      rotate_left
                      · intro w'
                        go_simp
                        with_reducible rfl
                      rotate_left
                      · simp only [Act.put, List.setIfInBounds_toArray, List.set_cons_zero, List.set_cons_succ, i64_w, i32_w]
                        rfl
                      refine take_ (i := 3) (N := some 24) (v := ?_) (a' := ?_) #[true, true, true, true, true, true, true, false, false, false] rfl rfl (take_ofW HT_.out HW_.out (by kernel_rfl)) (fun _ _ _ h => h) (Or.inl ⟨by rfl, ?_⟩) hHeld ?_ ?_
                      rotate_left
                      · rintro w' ⟨s0, s1, s2, s3, s4, s5, s6, s7, s8, s9, s10, s11, s12, s13⟩
                        go_simp
                        with_reducible rfl
                      rotate_left
                      · simp only [Act.put, List.setIfInBounds_toArray, List.set_cons_zero, List.set_cons_succ, i64_w, i32_w]
                        rfl
                      refine take_ (i := 7) (N := some 28) (v := ?_) (a' := ?_) #[true, true, true, true, true, true, true, true, false, false] rfl rfl (take_ofW HT_.out HW_.out (by kernel_rfl)) (fun _ _ _ h => h) (Or.inl ⟨by rfl, ?_⟩) hHeld ?_ ?_
                      rotate_left
                      · rintro w' ⟨s0, s1, s2, s3, s4, s5, s6, s7, s8, s9, s10, s11, s12, s13⟩
                        go_simp
                        with_reducible rfl
                      rotate_left
                      · simp only [Act.put, List.setIfInBounds_toArray, List.set_cons_zero, List.set_cons_succ, i64_w, i32_w]
                        rfl
                      refine one_ (i := 8) (N := some 29) #[true, true, true, true, true, true, true, true, true, false] rfl rfl (one_of HT_.out (by kernel_rfl)) (by decide) (fun K hK => ?_)
                      refine goes_ Tryd.func53 (by kernel_rfl) rfl #[.agg #[.int .i64 ((rd_TimplLoan l0 x4_1).f0.f0), .int .i64 ((rd_TimplLoan l0 x4_1).f0.f1), .int .i64 ((rd_TimplLoan l0 x4_1).f0.f2), .int .i64 ((rd_TimplLoan l0 x4_1).f0.f3), .bool ((rd_TimplLoan l0 x4_1).f1), .int .i64 ((rd_TimplLoan l0 x4_1).f2), .int .i64 ((rd_TimplLoan l0 x4_1).f3)], .agg #[.int .i64 ((rd_TimplLoan l0 x5_2).f0.f0), .int .i64 ((rd_TimplLoan l0 x5_2).f0.f1), .int .i64 ((rd_TimplLoan l0 x5_2).f0.f2), .int .i64 ((rd_TimplLoan l0 x5_2).f0.f3), .bool ((rd_TimplLoan l0 x5_2).f1), .int .i64 ((rd_TimplLoan l0 x5_2).f2), .int .i64 ((rd_TimplLoan l0 x5_2).f3)]] (by rfl) rfl rfl (by (try simp only [List.map_toArray, List.map_cons, List.map_nil]); first | done | rfl | (simp only [List.length_drop, List.length_take]; rfl)) ?_
                      with_reducible refine (spec_l10Clash.calls ((rd_TimplLoan l0 x4_1).f0.f0) ((rd_TimplLoan l0 x4_1).f0.f1) ((rd_TimplLoan l0 x4_1).f0.f2) ((rd_TimplLoan l0 x4_1).f0.f3) ((rd_TimplLoan l0 x4_1).f1) ((rd_TimplLoan l0 x4_1).f2) ((rd_TimplLoan l0 x4_1).f3) ((rd_TimplLoan l0 x5_2).f0.f0) ((rd_TimplLoan l0 x5_2).f0.f1) ((rd_TimplLoan l0 x5_2).f0.f2) ((rd_TimplLoan l0 x5_2).f0.f3) ((rd_TimplLoan l0 x5_2).f1) ((rd_TimplLoan l0 x5_2).f2) ((rd_TimplLoan l0 x5_2).f3) t155 _ A9.out).mono ?_
                      rintro e w16 ⟨rfl, hb⟩
                      refine ⟨_, rfl, ?_⟩
                      have n0_ := Aside0.mk (Kd.R_below (by (with_reducible repeat (first | apply Kd.R_alloc | apply Kd.R_drewN | apply Kd.R_drew)); exact HO_3.out) hb)
                      have n1_ := Aside0.mk (below_step (by repeat (first | (with_reducible first | exact HB.out | apply below_alloc | apply pw_below_drewN | apply below_drew1) | exact HB.out)) hb)
                      clear HO_3
                      clear HB
                      have HO_3 := n0_
                      have HB := n1_
                      clear n0_ n1_
                      (try clear hb)
                      (try clear hb2)
                      (try clear hk)
                      (try clear hi)
                      refine hK.out _ _ ⟨(by have h_ := ((HB.out.cell (World.block_lt_of_cell? w _ hw153_0)).trans hw153_0); first | exact h_ | (simp only [*] at h_; exact h_) | (simp [*]; done) | simpa [*] using h_), (by have h_ := ((HB.out.cell (World.block_lt_of_cell? w _ hw153_1)).trans hw153_1); first | exact h_ | (simp only [*] at h_; exact h_) | (simp [*]; done) | simpa [*] using h_), (by have h_ := ((HB.out.cell (World.block_lt_of_cell? w _ hw153_2)).trans hw153_2); first | exact h_ | (simp only [*] at h_; exact h_) | (simp [*]; done) | simpa [*] using h_), (by have h_ := ((HB.out.cell (World.block_lt_of_cell? w _ hw153_3)).trans hw153_3); first | exact h_ | (simp only [*] at h_; exact h_) | (simp [*]; done) | simpa [*] using h_), (by have h_ := ((HB.out.cell (World.block_lt_of_cell? w _ hw153_4)).trans hw153_4); first | exact h_ | (simp only [*] at h_; exact h_) | (simp [*]; done) | simpa [*] using h_), (by have h_ := ((HB.out.cell (World.block_lt_of_cell? w _ hw153_5)).trans hw153_5); first | exact h_ | (simp only [*] at h_; exact h_) | (simp [*]; done) | simpa [*] using h_), (by have h_ := ((HB.out.cell (World.block_lt_of_cell? w _ hw153_6)).trans hw153_6); first | exact h_ | (simp only [*] at h_; exact h_) | (simp [*]; done) | simpa [*] using h_), (by have h_ := ((HB.out.cell (World.block_lt_of_cell? w _ hw154_0)).trans hw154_0); first | exact h_ | (simp only [*] at h_; exact h_) | (simp [*]; done) | simpa [*] using h_), (by have h_ := ((HB.out.cell (World.block_lt_of_cell? w _ hw154_1)).trans hw154_1); first | exact h_ | (simp only [*] at h_; exact h_) | (simp [*]; done) | simpa [*] using h_), (by have h_ := ((HB.out.cell (World.block_lt_of_cell? w _ hw154_2)).trans hw154_2); first | exact h_ | (simp only [*] at h_; exact h_) | (simp [*]; done) | simpa [*] using h_), (by have h_ := ((HB.out.cell (World.block_lt_of_cell? w _ hw154_3)).trans hw154_3); first | exact h_ | (simp only [*] at h_; exact h_) | (simp [*]; done) | simpa [*] using h_), (by have h_ := ((HB.out.cell (World.block_lt_of_cell? w _ hw154_4)).trans hw154_4); first | exact h_ | (simp only [*] at h_; exact h_) | (simp [*]; done) | simpa [*] using h_), (by have h_ := ((HB.out.cell (World.block_lt_of_cell? w _ hw154_5)).trans hw154_5); first | exact h_ | (simp only [*] at h_; exact h_) | (simp [*]; done) | simpa [*] using h_), (by have h_ := ((HB.out.cell (World.block_lt_of_cell? w _ hw154_6)).trans hw154_6); first | exact h_ | (simp only [*] at h_; exact h_) | (simp [*]; done) | simpa [*] using h_)⟩ (fun hHeld => ?_)
                      clear hK K
                      refine norm_ (a' := ?_) ?_ ?_
                      rotate_left
                      · show Act.put _ (some 29) _ = _
                        simp only [Act.put, List.setIfInBounds_toArray, List.set_cons_zero, List.set_cons_succ, i64_w, i32_w]
                        rfl
                      refine pure_ (i := 9) (N := some 30) (v := ?_) (a' := ?_) #[true, true, true, true, true, true, true, true, true, true] rfl rfl (any_of HT_.out (by kernel_rfl)) (fun _ _ _ h => h) (Or.inl ⟨by rfl, ?_⟩) ?_ ?_
                      rotate_left
                      · intro w'
                        go_simp
                        with_reducible rfl
                      rotate_left
                      · simp only [Act.put, List.setIfInBounds_toArray, List.set_cons_zero, List.set_cons_succ, i64_w, i32_w]
                        rfl
                      refine done_ (done_of HT_.out (by kernel_rfl)) ?_
                      try go_wp2
                      go_roundg k2
                      case measure => have := HK1.out; have := HK2.out; omega
                      case rel => exact ⟨(x3_2), (wrap64 (x5_2 + 1)), (by first | rfl | (simp; done) | (simp [*]; done)), H', ⟨by have := HK1.out; have := HK2.out; omega⟩, ⟨by (with_reducible repeat (first | apply Kd.R_alloc | apply Kd.R_drewN | apply Kd.R_drew)); exact HO_3.out⟩, ⟨by repeat (first | (with_reducible first | exact HB.out | apply below_alloc | apply pw_below_drewN | apply below_drew1) | exact HB.out)⟩⟩
                  · rw [if_neg c8] at H
                    exact absurd H (by simp)
                · rw [if_neg c7] at H
                  exact absurd H (by simp)
              · rw [if_neg c6] at H
                exact absurd H (by simp)
            · rw [if_neg c5] at H
              have c5b0 : decide (x5_2 < (l0.length : Int)) = false := decide_eq_false c5
              clear c5
              have H' := Aside0.mk H
              clear H
              go_wp2
              go_roundg k2
              case measure => have := HK1.out; have := HK2.out; omega
              case rel => exact ⟨(x3_2), (wrap64 (x4_1 + 1)), (by first | rfl | (simp; done) | (simp [*]; done)), H', ⟨by have := HK1.out; have := HK2.out; omega⟩, ⟨by (with_reducible repeat (first | apply Kd.R_alloc | apply Kd.R_drewN | apply Kd.R_drew)); exact HO_3.out⟩, ⟨by repeat (first | (with_reducible first | exact HB.out | apply below_alloc | apply pw_below_drewN | apply below_drew1) | exact HB.out)⟩⟩
      · rw [if_neg c4] at H
        have c4b0 : decide (x4_1 < (l0.length : Int)) = false := decide_eq_false c4
        clear c4
        obtain rfl := Option.some.inj H
        go_wp2
        go_ret
        exact ⟨_, by first | rfl | (simp [errW_none, errW_some] <;> rfl) | (simp [*, errW_none, errW_some] <;> rfl), by (with_reducible repeat (first | apply Kd.R_alloc | apply Kd.R_drewN | apply Kd.R_drew)); exact HO_3.out, by repeat (first | (with_reducible first | exact HB.out | apply below_alloc | apply pw_below_drewN | apply below_drew1) | exact HB.out)⟩

end Go.Proofs.YtpbboooeahmgpaaDoor.P


namespace Go.Proofs.YtpbboooeahmgpaaDoor.P
open Go.RowKit Go.Proofs.YtpbboooeahmgpaaDoorW.PrintWords Go.Proofs.YtpbboooeahmgpaaDoorW.PrintLast Go.Proofs.YtpbboooeahmgpaaDoorW.PrintMore
attribute [local go_sem] max2_int min2_int max_two min_two max_three min_three max_four min_four   -- for this text's walks alone
set_option linter.unusedVariables false
set_option linter.unusedSimpArgs false

def impl_areLoans.f (l0_0 : List (List Int)) (l1 : List (SimplLoan)) : Option (Bool) := (impl_areAnyLoans.f l0_0 l1).bind fun t218 => (if t218 = true then (some (decide ((l1.length : Int) ≤ 8))) else (some false))
set_option maxHeartbeats 8000000 in
set_option maxRecDepth 100000 in
theorem impl_areLoans.calls (A0_0 : Option Addr) (c0_0 : Nat) (l0_0 : List (List Int)) (A1 : Option Addr) (c1 : Nat) (l1 : List (SimplLoan)) (r : Bool) (w : World) (hr0_0 : Kd.C (Kd.slice 5 (Kd.int .u8)) w A0_0 l0_0.length l0_0) (hc0_0 : l0_0.length ≤ c0_0) (hr1 : Kd.C kimplLoan w A1 l1.length l1) (hc1 : l1.length ≤ c1) (h : impl_areLoans.f l0_0 l1 = some r) :
    Calls Tryd.prog 42 #[.agg #[.slice A0_0 l0_0.length c0_0], .slice A1 l1.length c1] w fun e w' => e = .returned (.bool r) ∧ Below w.heap.size w w' := by
  have hu31 := Tryd.underlying31
  have HR0_0 := Aside0.mk hr0_0
  have HC0_0 := Aside0.mk hc0_0
  clear hr0_0 hc0_0
  have HR1 := Aside0.mk hr1
  have HC1 := Aside0.mk hc1
  clear hr1 hc1
  have HB := Aside0.mk (Below.refl w.heap.size w)
  have H : ((impl_areAnyLoans.f l0_0 l1).bind fun t218 => (if t218 = true then (some (decide ((l1.length : Int) ≤ 8))) else (some false))) = some r := h
  clear h
  replace H := Option.bind_eq_some_iff.mp H
  obtain ⟨t218, A30, H⟩ := H
  replace H : (if t218 = true then (some (decide ((l1.length : Int) ≤ 8))) else (some false)) = some r := H
  have A3 := Aside0.mk A30
  clear A30
  by_cases c4 : t218 = true
  · subst c4
    have H1 : (some (decide ((l1.length : Int) ≤ 8))) = some r := by rw [if_pos rfl] at H; exact H
    clear H
    have H := H1
    clear H1
    obtain rfl := Option.some.inj H
    go_enter Tryd.func42, Tryd.ntmps42
    go_wp2_with (first | ((with_reducible refine gate_dst (N := 2) rfl ?_); (try (refine gate_guard (by rfl) ?_; dsimp only)); refine box_event ?hg (N := 2) ?hd (cs := #[.slice A0_0 l0_0.length c0_0]) (t := 31) ?hr ?_; (case hd => rfl); (case hg => rfl); (case hr => first | (go_simp; done) | (go_simp; rfl)); intro gb217 hg w5 hbox hb; have n0_ := Aside0.mk (below_step (by repeat (first | (with_reducible first | exact HB.out | apply below_alloc | apply pw_below_drewN | apply below_drew1) | exact HB.out)) hb); have n1_ := Aside0.mk (hbox); have n2_ := Aside0.mk ((by rw [hg]; exact (below_size (by repeat (first | (with_reducible first | exact HB.out | apply below_alloc | apply pw_below_drewN | apply below_drew1) | exact HB.out))) : w.heap.size ≤ gb217)); have n3_ := Aside0.mk ((by rw [hg]; exact (below_size (by repeat (first | (with_reducible first | exact HB.out | apply below_alloc | apply pw_below_drewN | apply below_drew1) | exact HB.out))) : w.heap.size ≤ gb217)); clear HB; have HB := n0_; have BK217 := n1_; have GW217 := n2_; have GE217 := n3_; clear n0_ n1_ n2_ n3_; clear hb hbox hg; have hcz6_0 : w5.cell? ⟨gb217, 0, none⟩ = some (.slice A0_0 l0_0.length c0_0) := (blk_cell BK217.out 0).trans rfl; have hfz6_0 := blk_frozen BK217.out 0) | ((with_reducible refine gate_callee (f := 60) rfl ?_); refine goesL_ (some 7) rfl rfl Tryd.func60 (by kernel_rfl) rfl #[.agg #[.slice A0_0 l0_0.length c0_0], .slice A1 l1.length c1] rfl (by (try simp only [List.map_toArray, List.map_cons, List.map_nil]); first | done | rfl | (simp only [List.length_drop, List.length_take]; rfl)) ?_; (with_reducible refine (impl_areAnyLoans.calls _ _ l0_0 _ _ l1 true _ ?side1 ?side2 ?side3 ?side4 A3.out).mono ?_); (case side1 => repeat (first | exact (Kd.C_below HR0_0.out HB.out) | (with_reducible refine Kd.C_alloc ?_ _) | (with_reducible refine Kd.C_drewN ?_ _) | (with_reducible refine Kd.C_drew ?_))); (case side2 => exact HC0_0.out); (case side3 => repeat (first | exact (Kd.C_below HR1.out HB.out) | (with_reducible refine Kd.C_alloc ?_ _) | (with_reducible refine Kd.C_drewN ?_ _) | (with_reducible refine Kd.C_drew ?_))); (case side4 => exact HC1.out); rintro e w7 ⟨rfl, hb⟩; refine ⟨_, rfl, ?_⟩; have n0_ := Aside0.mk (blk_below (g := gb217) (o := .cells #[.slice A0_0 l0_0.length c0_0] 31 (0, 0)) (by (with_reducible repeat (first | refine blk_drewN ?_ _ | refine blk_drew ?_ | refine blk_alloc ?_ _)); exact BK217.out) hb); have n1_ := Aside0.mk (below_step (by repeat (first | (with_reducible first | exact HB.out | apply below_alloc | apply pw_below_drewN | apply below_drew1 | refine below_set ?_ GE217.out) | exact HB.out)) hb); clear BK217; clear HB; have BK217 := n0_; have HB := n1_; clear n0_ n1_; (try clear hb); (try clear hb2); (try clear hk); (try clear hi)))
    go_ret
    exact ⟨by first | rfl | (simp [errW_none, errW_some] <;> rfl) | (simp [*, errW_none, errW_some] <;> rfl), by repeat (first | (with_reducible first | exact HB.out | apply below_alloc | apply pw_below_drewN | apply below_drew1 | refine below_set ?_ GE217.out) | exact HB.out)⟩
  · replace c4 := Bool.eq_false_iff.mpr c4
    subst c4
    have H1 : (some false) = some r := by rw [if_neg (show ¬ (false = true) by decide)] at H; exact H
    clear H
    have H := H1
    clear H1
    obtain rfl := Option.some.inj H
    go_enter Tryd.func42, Tryd.ntmps42
    go_wp2_with (first | ((with_reducible refine gate_dst (N := 2) rfl ?_); (try (refine gate_guard (by rfl) ?_; dsimp only)); refine box_event ?hg (N := 2) ?hd (cs := #[.slice A0_0 l0_0.length c0_0]) (t := 31) ?hr ?_; (case hd => rfl); (case hg => rfl); (case hr => first | (go_simp; done) | (go_simp; rfl)); intro gb217 hg w8 hbox hb; have n0_ := Aside0.mk (below_step (by repeat (first | (with_reducible first | exact HB.out | apply below_alloc | apply pw_below_drewN | apply below_drew1) | exact HB.out)) hb); have n1_ := Aside0.mk (hbox); have n2_ := Aside0.mk ((by rw [hg]; exact (below_size (by repeat (first | (with_reducible first | exact HB.out | apply below_alloc | apply pw_below_drewN | apply below_drew1) | exact HB.out))) : w.heap.size ≤ gb217)); have n3_ := Aside0.mk ((by rw [hg]; exact (below_size (by repeat (first | (with_reducible first | exact HB.out | apply below_alloc | apply pw_below_drewN | apply below_drew1) | exact HB.out))) : w.heap.size ≤ gb217)); clear HB; have HB := n0_; have BK217 := n1_; have GW217 := n2_; have GE217 := n3_; clear n0_ n1_ n2_ n3_; clear hb hbox hg; have hcz9_0 : w8.cell? ⟨gb217, 0, none⟩ = some (.slice A0_0 l0_0.length c0_0) := (blk_cell BK217.out 0).trans rfl; have hfz9_0 := blk_frozen BK217.out 0) | ((with_reducible refine gate_callee (f := 60) rfl ?_); refine goesL_ (some 7) rfl rfl Tryd.func60 (by kernel_rfl) rfl #[.agg #[.slice A0_0 l0_0.length c0_0], .slice A1 l1.length c1] rfl (by (try simp only [List.map_toArray, List.map_cons, List.map_nil]); first | done | rfl | (simp only [List.length_drop, List.length_take]; rfl)) ?_; (with_reducible refine (impl_areAnyLoans.calls _ _ l0_0 _ _ l1 false _ ?side1 ?side2 ?side3 ?side4 A3.out).mono ?_); (case side1 => repeat (first | exact (Kd.C_below HR0_0.out HB.out) | (with_reducible refine Kd.C_alloc ?_ _) | (with_reducible refine Kd.C_drewN ?_ _) | (with_reducible refine Kd.C_drew ?_))); (case side2 => exact HC0_0.out); (case side3 => repeat (first | exact (Kd.C_below HR1.out HB.out) | (with_reducible refine Kd.C_alloc ?_ _) | (with_reducible refine Kd.C_drewN ?_ _) | (with_reducible refine Kd.C_drew ?_))); (case side4 => exact HC1.out); rintro e w10 ⟨rfl, hb⟩; refine ⟨_, rfl, ?_⟩; have n0_ := Aside0.mk (blk_below (g := gb217) (o := .cells #[.slice A0_0 l0_0.length c0_0] 31 (0, 0)) (by (with_reducible repeat (first | refine blk_drewN ?_ _ | refine blk_drew ?_ | refine blk_alloc ?_ _)); exact BK217.out) hb); have n1_ := Aside0.mk (below_step (by repeat (first | (with_reducible first | exact HB.out | apply below_alloc | apply pw_below_drewN | apply below_drew1 | refine below_set ?_ GE217.out) | exact HB.out)) hb); clear BK217; clear HB; have BK217 := n0_; have HB := n1_; clear n0_ n1_; (try clear hb); (try clear hb2); (try clear hk); (try clear hi)))
    go_ret
    exact ⟨by first | rfl | (simp [errW_none, errW_some] <;> rfl) | (simp [*, errW_none, errW_some] <;> rfl), by repeat (first | (with_reducible first | exact HB.out | apply below_alloc | apply pw_below_drewN | apply below_drew1 | refine below_set ?_ GE217.out) | exact HB.out)⟩

end Go.Proofs.YtpbboooeahmgpaaDoor.P


namespace Go.Proofs.YtpbboooeahmgpaaDoor.P
open Go.RowKit Go.Proofs.YtpbboooeahmgpaaDoorW.PrintWords Go.Proofs.YtpbboooeahmgpaaDoorW.PrintLast Go.Proofs.YtpbboooeahmgpaaDoorW.PrintMore
attribute [local go_sem] max2_int min2_int max_two min_two max_three min_three max_four min_four   -- for this text's walks alone
set_option linter.unusedVariables false
set_option linter.unusedSimpArgs false

def impl_common.f (a0_0 : Int) (a0_1 : Int) (a0_2 : Int) (a0_3 : Int) (a1_0 : Int) (a1_1 : Int) (a1_2 : Int) (a1_3 : Int) : Option (Int × Int) := if a0_0 = a1_0 then (if (mx a0_1 a1_1) ≥ (mn (wrap64 (a0_1 + a0_2)) (wrap64 (a1_1 + a1_2))) then (some (0, (-1))) else (some (wrap64 ((mn (wrap64 (a0_1 + a0_2)) (wrap64 (a1_1 + a1_2))) - (mx a0_1 a1_1)), mx a0_1 a1_1))) else (some (0, (-1)))
set_option maxHeartbeats 8000000 in
set_option maxRecDepth 100000 in
theorem impl_common.calls (a0_0 : Int) (a0_1 : Int) (a0_2 : Int) (a0_3 : Int) (a1_0 : Int) (a1_1 : Int) (a1_2 : Int) (a1_3 : Int) (r1 : Int) (r2 : Int) (w : World) (h : impl_common.f a0_0 a0_1 a0_2 a0_3 a1_0 a1_1 a1_2 a1_3 = some (r1, r2)) :
    Calls Tryd.prog 91 #[.agg #[.int .i64 a0_0, .int .i64 a0_1, .int .i64 a0_2, .int .i64 a0_3], .agg #[.int .i64 a1_0, .int .i64 a1_1, .int .i64 a1_2, .int .i64 a1_3]] w fun e w' => e = .returned (.tuple #[.int .i64 r1, .int .i64 r2]) ∧ Below w.heap.size w w' := by
  have hu57 := Tryd.underlying57
  have HB := Aside0.mk (Below.refl w.heap.size w)
  have H : (if a0_0 = a1_0 then (if (mx a0_1 a1_1) ≥ (mn (wrap64 (a0_1 + a0_2)) (wrap64 (a1_1 + a1_2))) then (some (0, (-1))) else (some (wrap64 ((mn (wrap64 (a0_1 + a0_2)) (wrap64 (a1_1 + a1_2))) - (mx a0_1 a1_1)), mx a0_1 a1_1))) else (some (0, (-1)))) = some (r1, r2) := h
  clear h
  obtain ⟨ji3, hji3⟩ : ∃ j_ : Int, (mx a0_1 a1_1) = j_ := ⟨_, rfl⟩
  replace H : (if a0_0 = a1_0 then (if (ji3) ≥ (mn (wrap64 (a0_1 + a0_2)) (wrap64 (a1_1 + a1_2))) then (some (0, (-1))) else (some (wrap64 ((mn (wrap64 (a0_1 + a0_2)) (wrap64 (a1_1 + a1_2))) - (ji3)), ji3))) else (some (0, (-1)))) = some (r1, r2) := by first | (rw [hji3] at H; exact H) | (simp only [hji3] at H ⊢; exact H)
  have hji3_ : (if a0_1 < a1_1 then a1_1 else a0_1) = ji3 := hji3
  obtain ⟨ji4, hji4⟩ : ∃ j_ : Int, (mn (wrap64 (a0_1 + a0_2)) (wrap64 (a1_1 + a1_2))) = j_ := ⟨_, rfl⟩
  replace H : (if a0_0 = a1_0 then (if (ji3) ≥ (ji4) then (some (0, (-1))) else (some (wrap64 ((ji4) - (ji3)), ji3))) else (some (0, (-1)))) = some (r1, r2) := by first | (rw [hji4] at H; exact H) | (simp only [hji4] at H ⊢; exact H)
  have hji4_ : (if (wrap64 (a1_1 + a1_2)) < (wrap64 (a0_1 + a0_2)) then (wrap64 (a1_1 + a1_2)) else (wrap64 (a0_1 + a0_2))) = ji4 := hji4
  by_cases c5 : a0_0 = a1_0
  · rw [if_pos c5] at H
    have c5b0 : (a0_0 == a1_0) = true := beq_iff_eq.mpr c5
    have c5b1 : (a0_0 != a1_0) = false := bne_eq_false_iff_eq.mpr c5
    clear c5
    by_cases c6 : (ji3) ≥ (ji4)
    · rw [if_pos c6] at H
      have c6b0 : decide ((ji4) ≤ (ji3)) = true := decide_eq_true c6
      clear c6
      simp only [Option.some.injEq, Prod.mk.injEq] at H
      obtain ⟨rfl, rfl⟩ := H
      go_enter Tryd.func91, Tryd.ntmps91
      go_wp2_with (first | ((with_reducible refine gate_dst (N := 2) rfl ?_); refine box_event ?hg (N := 2) ?hd (cs := #[.int .i64 a0_0, .int .i64 a0_1, .int .i64 a0_2, .int .i64 a0_3]) (t := 57) ?hr ?_; (case hd => rfl); (case hg => rfl); (case hr => first | (go_simp; done) | (go_simp; rfl)); intro gb226 hg w7 hbox hb; have n0_ := Aside0.mk (below_step (by repeat (first | (with_reducible first | exact HB.out | apply below_alloc | apply pw_below_drewN | apply below_drew1) | exact HB.out)) hb); have n1_ := Aside0.mk (hbox); have n2_ := Aside0.mk ((by rw [hg]; exact (below_size (by repeat (first | (with_reducible first | exact HB.out | apply below_alloc | apply pw_below_drewN | apply below_drew1) | exact HB.out))) : w.heap.size ≤ gb226)); have n3_ := Aside0.mk ((by rw [hg]; exact (below_size (by repeat (first | (with_reducible first | exact HB.out | apply below_alloc | apply pw_below_drewN | apply below_drew1) | exact HB.out))) : w.heap.size ≤ gb226)); clear HB; have HB := n0_; have BK226 := n1_; have GW226 := n2_; have GE226 := n3_; clear n0_ n1_ n2_ n3_; clear hb hbox hg) | ((with_reducible refine gate_dst (N := 3) rfl ?_); refine box_event ?hg (N := 3) ?hd (cs := #[.int .i64 a1_0, .int .i64 a1_1, .int .i64 a1_2, .int .i64 a1_3]) (t := 57) ?hr ?_; (case hd => rfl); (case hg => rfl); (case hr => first | (go_simp; done) | (go_simp; rfl)); intro gb227 hg w8 hbox hb; have n0_ := Aside0.mk (blk_below (g := gb226) (o := .cells #[.int .i64 a0_0, .int .i64 a0_1, .int .i64 a0_2, .int .i64 a0_3] 57 (0, 0)) (by (with_reducible repeat (first | refine blk_drewN ?_ _ | refine blk_drew ?_ | refine blk_alloc ?_ _)); exact BK226.out) hb); have n1_ := Aside0.mk (below_step (by repeat (first | (with_reducible first | exact HB.out | apply below_alloc | apply pw_below_drewN | apply below_drew1 | refine below_set ?_ GE226.out) | exact HB.out)) hb); have n2_ := Aside0.mk (hbox); have n3_ := Aside0.mk ((by rw [hg]; exact (below_size (by repeat (first | (with_reducible first | exact HB.out | apply below_alloc | apply pw_below_drewN | apply below_drew1 | refine below_set ?_ GE226.out) | exact HB.out))) : w.heap.size ≤ gb227)); have n4_ := Aside0.mk ((by rw [hg]; exact (below_size (by repeat (first | (with_reducible first | exact HB.out | apply below_alloc | apply pw_below_drewN | apply below_drew1 | refine below_set ?_ GE226.out) | exact HB.out))) : w.heap.size ≤ gb227)); have n5_ := Aside0.mk ((by rw [hg]; exact Nat.ne_of_lt (blk_lt (g := gb226) (o := .cells #[.int .i64 a0_0, .int .i64 a0_1, .int .i64 a0_2, .int .i64 a0_3] 57 (0, 0)) (by (with_reducible repeat (first | refine blk_drewN ?_ _ | refine blk_drew ?_ | refine blk_alloc ?_ _)); exact BK226.out)) : gb226 ≠ gb227)); have n6_ := Aside0.mk ((by rw [hg]; exact Nat.ne_of_gt (blk_lt (g := gb226) (o := .cells #[.int .i64 a0_0, .int .i64 a0_1, .int .i64 a0_2, .int .i64 a0_3] 57 (0, 0)) (by (with_reducible repeat (first | refine blk_drewN ?_ _ | refine blk_drew ?_ | refine blk_alloc ?_ _)); exact BK226.out)) : gb227 ≠ gb226)); clear BK226; clear HB; have BK226 := n0_; have HB := n1_; have BK227 := n2_; have GW227 := n3_; have GE227 := n4_; have NB226_227 := n5_; have NB227_226 := n6_; clear n0_ n1_ n2_ n3_ n4_ n5_ n6_; clear hb hbox hg; have hnb9 := NB226_227.out; have hnc9 := NB227_226.out; have hcz10_0 : w8.cell? ⟨gb226, 0, none⟩ = some (.int .i64 a0_0) := (blk_cell BK226.out 0).trans rfl; have hcz10_1 : w8.cell? ⟨gb226, 1, none⟩ = some (.int .i64 a0_1) := (blk_cell BK226.out 1).trans rfl; have hcz10_2 : w8.cell? ⟨gb226, 2, none⟩ = some (.int .i64 a0_2) := (blk_cell BK226.out 2).trans rfl; have hcz10_3 : w8.cell? ⟨gb226, 3, none⟩ = some (.int .i64 a0_3) := (blk_cell BK226.out 3).trans rfl; have hfz10_0 := blk_frozen BK226.out 0; have hfz10_1 := blk_frozen BK226.out 1; have hfz10_2 := blk_frozen BK226.out 2; have hfz10_3 := blk_frozen BK226.out 3; have hcz11_0 : w8.cell? ⟨gb227, 0, none⟩ = some (.int .i64 a1_0) := (blk_cell BK227.out 0).trans rfl; have hcz11_1 : w8.cell? ⟨gb227, 1, none⟩ = some (.int .i64 a1_1) := (blk_cell BK227.out 1).trans rfl; have hcz11_2 : w8.cell? ⟨gb227, 2, none⟩ = some (.int .i64 a1_2) := (blk_cell BK227.out 2).trans rfl; have hcz11_3 : w8.cell? ⟨gb227, 3, none⟩ = some (.int .i64 a1_3) := (blk_cell BK227.out 3).trans rfl; have hfz11_0 := blk_frozen BK227.out 0; have hfz11_1 := blk_frozen BK227.out 1; have hfz11_2 := blk_frozen BK227.out 2; have hfz11_3 := blk_frozen BK227.out 3))
      repeat (go_quiet (first | ((with_reducible refine gate_dst (N := 2) rfl ?_); refine box_event ?hg (N := 2) ?hd (cs := #[.int .i64 a0_0, .int .i64 a0_1, .int .i64 a0_2, .int .i64 a0_3]) (t := 57) ?hr ?_; (case hd => rfl); (case hg => rfl); (case hr => first | (go_simp; done) | (go_simp; rfl)); intro gb226 hg w7 hbox hb; have n0_ := Aside0.mk (below_step (by repeat (first | (with_reducible first | exact HB.out | apply below_alloc | apply pw_below_drewN | apply below_drew1) | exact HB.out)) hb); have n1_ := Aside0.mk (hbox); have n2_ := Aside0.mk ((by rw [hg]; exact (below_size (by repeat (first | (with_reducible first | exact HB.out | apply below_alloc | apply pw_below_drewN | apply below_drew1) | exact HB.out))) : w.heap.size ≤ gb226)); have n3_ := Aside0.mk ((by rw [hg]; exact (below_size (by repeat (first | (with_reducible first | exact HB.out | apply below_alloc | apply pw_below_drewN | apply below_drew1) | exact HB.out))) : w.heap.size ≤ gb226)); clear HB; have HB := n0_; have BK226 := n1_; have GW226 := n2_; have GE226 := n3_; clear n0_ n1_ n2_ n3_; clear hb hbox hg) | ((with_reducible refine gate_dst (N := 3) rfl ?_); refine box_event ?hg (N := 3) ?hd (cs := #[.int .i64 a1_0, .int .i64 a1_1, .int .i64 a1_2, .int .i64 a1_3]) (t := 57) ?hr ?_; (case hd => rfl); (case hg => rfl); (case hr => first | (go_simp; done) | (go_simp; rfl)); intro gb227 hg w8 hbox hb; have n0_ := Aside0.mk (blk_below (g := gb226) (o := .cells #[.int .i64 a0_0, .int .i64 a0_1, .int .i64 a0_2, .int .i64 a0_3] 57 (0, 0)) (by (with_reducible repeat (first | refine blk_drewN ?_ _ | refine blk_drew ?_ | refine blk_alloc ?_ _)); exact BK226.out) hb); have n1_ := Aside0.mk (below_step (by repeat (first | (with_reducible first | exact HB.out | apply below_alloc | apply pw_below_drewN | apply below_drew1 | refine below_set ?_ GE226.out) | exact HB.out)) hb); have n2_ := Aside0.mk (hbox); have n3_ := Aside0.mk ((by rw [hg]; exact (below_size (by repeat (first | (with_reducible first | exact HB.out | apply below_alloc | apply pw_below_drewN | apply below_drew1 | refine below_set ?_ GE226.out) | exact HB.out))) : w.heap.size ≤ gb227)); have n4_ := Aside0.mk ((by rw [hg]; exact (below_size (by repeat (first | (with_reducible first | exact HB.out | apply below_alloc | apply pw_below_drewN | apply below_drew1 | refine below_set ?_ GE226.out) | exact HB.out))) : w.heap.size ≤ gb227)); have n5_ := Aside0.mk ((by rw [hg]; exact Nat.ne_of_lt (blk_lt (g := gb226) (o := .cells #[.int .i64 a0_0, .int .i64 a0_1, .int .i64 a0_2, .int .i64 a0_3] 57 (0, 0)) (by (with_reducible repeat (first | refine blk_drewN ?_ _ | refine blk_drew ?_ | refine blk_alloc ?_ _)); exact BK226.out)) : gb226 ≠ gb227)); have n6_ := Aside0.mk ((by rw [hg]; exact Nat.ne_of_gt (blk_lt (g := gb226) (o := .cells #[.int .i64 a0_0, .int .i64 a0_1, .int .i64 a0_2, .int .i64 a0_3] 57 (0, 0)) (by (with_reducible repeat (first | refine blk_drewN ?_ _ | refine blk_drew ?_ | refine blk_alloc ?_ _)); exact BK226.out)) : gb227 ≠ gb226)); clear BK226; clear HB; have BK226 := n0_; have HB := n1_; have BK227 := n2_; have GW227 := n3_; have GE227 := n4_; have NB226_227 := n5_; have NB227_226 := n6_; clear n0_ n1_ n2_ n3_ n4_ n5_ n6_; clear hb hbox hg; have hnb9 := NB226_227.out; have hnc9 := NB227_226.out; have hcz10_0 : w8.cell? ⟨gb226, 0, none⟩ = some (.int .i64 a0_0) := (blk_cell BK226.out 0).trans rfl; have hcz10_1 : w8.cell? ⟨gb226, 1, none⟩ = some (.int .i64 a0_1) := (blk_cell BK226.out 1).trans rfl; have hcz10_2 : w8.cell? ⟨gb226, 2, none⟩ = some (.int .i64 a0_2) := (blk_cell BK226.out 2).trans rfl; have hcz10_3 : w8.cell? ⟨gb226, 3, none⟩ = some (.int .i64 a0_3) := (blk_cell BK226.out 3).trans rfl; have hfz10_0 := blk_frozen BK226.out 0; have hfz10_1 := blk_frozen BK226.out 1; have hfz10_2 := blk_frozen BK226.out 2; have hfz10_3 := blk_frozen BK226.out 3; have hcz11_0 : w8.cell? ⟨gb227, 0, none⟩ = some (.int .i64 a1_0) := (blk_cell BK227.out 0).trans rfl; have hcz11_1 : w8.cell? ⟨gb227, 1, none⟩ = some (.int .i64 a1_1) := (blk_cell BK227.out 1).trans rfl; have hcz11_2 : w8.cell? ⟨gb227, 2, none⟩ = some (.int .i64 a1_2) := (blk_cell BK227.out 2).trans rfl; have hcz11_3 : w8.cell? ⟨gb227, 3, none⟩ = some (.int .i64 a1_3) := (blk_cell BK227.out 3).trans rfl; have hfz11_0 := blk_frozen BK227.out 0; have hfz11_1 := blk_frozen BK227.out 1; have hfz11_2 := blk_frozen BK227.out 2; have hfz11_3 := blk_frozen BK227.out 3)); try go_wp2_with (first | ((with_reducible refine gate_dst (N := 2) rfl ?_); refine box_event ?hg (N := 2) ?hd (cs := #[.int .i64 a0_0, .int .i64 a0_1, .int .i64 a0_2, .int .i64 a0_3]) (t := 57) ?hr ?_; (case hd => rfl); (case hg => rfl); (case hr => first | (go_simp; done) | (go_simp; rfl)); intro gb226 hg w7 hbox hb; have n0_ := Aside0.mk (below_step (by repeat (first | (with_reducible first | exact HB.out | apply below_alloc | apply pw_below_drewN | apply below_drew1) | exact HB.out)) hb); have n1_ := Aside0.mk (hbox); have n2_ := Aside0.mk ((by rw [hg]; exact (below_size (by repeat (first | (with_reducible first | exact HB.out | apply below_alloc | apply pw_below_drewN | apply below_drew1) | exact HB.out))) : w.heap.size ≤ gb226)); have n3_ := Aside0.mk ((by rw [hg]; exact (below_size (by repeat (first | (with_reducible first | exact HB.out | apply below_alloc | apply pw_below_drewN | apply below_drew1) | exact HB.out))) : w.heap.size ≤ gb226)); clear HB; have HB := n0_; have BK226 := n1_; have GW226 := n2_; have GE226 := n3_; clear n0_ n1_ n2_ n3_; clear hb hbox hg) | ((with_reducible refine gate_dst (N := 3) rfl ?_); refine box_event ?hg (N := 3) ?hd (cs := #[.int .i64 a1_0, .int .i64 a1_1, .int .i64 a1_2, .int .i64 a1_3]) (t := 57) ?hr ?_; (case hd => rfl); (case hg => rfl); (case hr => first | (go_simp; done) | (go_simp; rfl)); intro gb227 hg w8 hbox hb; have n0_ := Aside0.mk (blk_below (g := gb226) (o := .cells #[.int .i64 a0_0, .int .i64 a0_1, .int .i64 a0_2, .int .i64 a0_3] 57 (0, 0)) (by (with_reducible repeat (first | refine blk_drewN ?_ _ | refine blk_drew ?_ | refine blk_alloc ?_ _)); exact BK226.out) hb); have n1_ := Aside0.mk (below_step (by repeat (first | (with_reducible first | exact HB.out | apply below_alloc | apply pw_below_drewN | apply below_drew1 | refine below_set ?_ GE226.out) | exact HB.out)) hb); have n2_ := Aside0.mk (hbox); have n3_ := Aside0.mk ((by rw [hg]; exact (below_size (by repeat (first | (with_reducible first | exact HB.out | apply below_alloc | apply pw_below_drewN | apply below_drew1 | refine below_set ?_ GE226.out) | exact HB.out))) : w.heap.size ≤ gb227)); have n4_ := Aside0.mk ((by rw [hg]; exact (below_size (by repeat (first | (with_reducible first | exact HB.out | apply below_alloc | apply pw_below_drewN | apply below_drew1 | refine below_set ?_ GE226.out) | exact HB.out))) : w.heap.size ≤ gb227)); have n5_ := Aside0.mk ((by rw [hg]; exact Nat.ne_of_lt (blk_lt (g := gb226) (o := .cells #[.int .i64 a0_0, .int .i64 a0_1, .int .i64 a0_2, .int .i64 a0_3] 57 (0, 0)) (by (with_reducible repeat (first | refine blk_drewN ?_ _ | refine blk_drew ?_ | refine blk_alloc ?_ _)); exact BK226.out)) : gb226 ≠ gb227)); have n6_ := Aside0.mk ((by rw [hg]; exact Nat.ne_of_gt (blk_lt (g := gb226) (o := .cells #[.int .i64 a0_0, .int .i64 a0_1, .int .i64 a0_2, .int .i64 a0_3] 57 (0, 0)) (by (with_reducible repeat (first | refine blk_drewN ?_ _ | refine blk_drew ?_ | refine blk_alloc ?_ _)); exact BK226.out)) : gb227 ≠ gb226)); clear BK226; clear HB; have BK226 := n0_; have HB := n1_; have BK227 := n2_; have GW227 := n3_; have GE227 := n4_; have NB226_227 := n5_; have NB227_226 := n6_; clear n0_ n1_ n2_ n3_ n4_ n5_ n6_; clear hb hbox hg; have hnb9 := NB226_227.out; have hnc9 := NB227_226.out; have hcz10_0 : w8.cell? ⟨gb226, 0, none⟩ = some (.int .i64 a0_0) := (blk_cell BK226.out 0).trans rfl; have hcz10_1 : w8.cell? ⟨gb226, 1, none⟩ = some (.int .i64 a0_1) := (blk_cell BK226.out 1).trans rfl; have hcz10_2 : w8.cell? ⟨gb226, 2, none⟩ = some (.int .i64 a0_2) := (blk_cell BK226.out 2).trans rfl; have hcz10_3 : w8.cell? ⟨gb226, 3, none⟩ = some (.int .i64 a0_3) := (blk_cell BK226.out 3).trans rfl; have hfz10_0 := blk_frozen BK226.out 0; have hfz10_1 := blk_frozen BK226.out 1; have hfz10_2 := blk_frozen BK226.out 2; have hfz10_3 := blk_frozen BK226.out 3; have hcz11_0 : w8.cell? ⟨gb227, 0, none⟩ = some (.int .i64 a1_0) := (blk_cell BK227.out 0).trans rfl; have hcz11_1 : w8.cell? ⟨gb227, 1, none⟩ = some (.int .i64 a1_1) := (blk_cell BK227.out 1).trans rfl; have hcz11_2 : w8.cell? ⟨gb227, 2, none⟩ = some (.int .i64 a1_2) := (blk_cell BK227.out 2).trans rfl; have hcz11_3 : w8.cell? ⟨gb227, 3, none⟩ = some (.int .i64 a1_3) := (blk_cell BK227.out 3).trans rfl; have hfz11_0 := blk_frozen BK227.out 0; have hfz11_1 := blk_frozen BK227.out 1; have hfz11_2 := blk_frozen BK227.out 2; have hfz11_3 := blk_frozen BK227.out 3)))
      go_ret2
      exact ⟨by first | rfl | (simp [errW_none, errW_some] <;> rfl) | (simp only [← hji3, ← hji4]; first | rfl | (simp [errW_none, errW_some] <;> rfl)) | (simp [*, errW_none, errW_some] <;> rfl), by repeat (first | (with_reducible first | exact HB.out | apply below_alloc | apply pw_below_drewN | apply below_drew1 | refine below_set ?_ GE226.out | refine below_set ?_ GE227.out) | exact HB.out)⟩
    · rw [if_neg c6] at H
      have c6b0 : decide ((ji4) ≤ (ji3)) = false := decide_eq_false c6
      clear c6
      simp only [Option.some.injEq, Prod.mk.injEq] at H
      obtain ⟨rfl, rfl⟩ := H
      go_enter Tryd.func91, Tryd.ntmps91
      go_wp2_with (first | ((with_reducible refine gate_dst (N := 2) rfl ?_); refine box_event ?hg (N := 2) ?hd (cs := #[.int .i64 a0_0, .int .i64 a0_1, .int .i64 a0_2, .int .i64 a0_3]) (t := 57) ?hr ?_; (case hd => rfl); (case hg => rfl); (case hr => first | (go_simp; done) | (go_simp; rfl)); intro gb226 hg w12 hbox hb; have n0_ := Aside0.mk (below_step (by repeat (first | (with_reducible first | exact HB.out | apply below_alloc | apply pw_below_drewN | apply below_drew1) | exact HB.out)) hb); have n1_ := Aside0.mk (hbox); have n2_ := Aside0.mk ((by rw [hg]; exact (below_size (by repeat (first | (with_reducible first | exact HB.out | apply below_alloc | apply pw_below_drewN | apply below_drew1) | exact HB.out))) : w.heap.size ≤ gb226)); have n3_ := Aside0.mk ((by rw [hg]; exact (below_size (by repeat (first | (with_reducible first | exact HB.out | apply below_alloc | apply pw_below_drewN | apply below_drew1) | exact HB.out))) : w.heap.size ≤ gb226)); clear HB; have HB := n0_; have BK226 := n1_; have GW226 := n2_; have GE226 := n3_; clear n0_ n1_ n2_ n3_; clear hb hbox hg) | ((with_reducible refine gate_dst (N := 3) rfl ?_); refine box_event ?hg (N := 3) ?hd (cs := #[.int .i64 a1_0, .int .i64 a1_1, .int .i64 a1_2, .int .i64 a1_3]) (t := 57) ?hr ?_; (case hd => rfl); (case hg => rfl); (case hr => first | (go_simp; done) | (go_simp; rfl)); intro gb227 hg w13 hbox hb; have n0_ := Aside0.mk (blk_below (g := gb226) (o := .cells #[.int .i64 a0_0, .int .i64 a0_1, .int .i64 a0_2, .int .i64 a0_3] 57 (0, 0)) (by (with_reducible repeat (first | refine blk_drewN ?_ _ | refine blk_drew ?_ | refine blk_alloc ?_ _)); exact BK226.out) hb); have n1_ := Aside0.mk (below_step (by repeat (first | (with_reducible first | exact HB.out | apply below_alloc | apply pw_below_drewN | apply below_drew1 | refine below_set ?_ GE226.out) | exact HB.out)) hb); have n2_ := Aside0.mk (hbox); have n3_ := Aside0.mk ((by rw [hg]; exact (below_size (by repeat (first | (with_reducible first | exact HB.out | apply below_alloc | apply pw_below_drewN | apply below_drew1 | refine below_set ?_ GE226.out) | exact HB.out))) : w.heap.size ≤ gb227)); have n4_ := Aside0.mk ((by rw [hg]; exact (below_size (by repeat (first | (with_reducible first | exact HB.out | apply below_alloc | apply pw_below_drewN | apply below_drew1 | refine below_set ?_ GE226.out) | exact HB.out))) : w.heap.size ≤ gb227)); have n5_ := Aside0.mk ((by rw [hg]; exact Nat.ne_of_lt (blk_lt (g := gb226) (o := .cells #[.int .i64 a0_0, .int .i64 a0_1, .int .i64 a0_2, .int .i64 a0_3] 57 (0, 0)) (by (with_reducible repeat (first | refine blk_drewN ?_ _ | refine blk_drew ?_ | refine blk_alloc ?_ _)); exact BK226.out)) : gb226 ≠ gb227)); have n6_ := Aside0.mk ((by rw [hg]; exact Nat.ne_of_gt (blk_lt (g := gb226) (o := .cells #[.int .i64 a0_0, .int .i64 a0_1, .int .i64 a0_2, .int .i64 a0_3] 57 (0, 0)) (by (with_reducible repeat (first | refine blk_drewN ?_ _ | refine blk_drew ?_ | refine blk_alloc ?_ _)); exact BK226.out)) : gb227 ≠ gb226)); clear BK226; clear HB; have BK226 := n0_; have HB := n1_; have BK227 := n2_; have GW227 := n3_; have GE227 := n4_; have NB226_227 := n5_; have NB227_226 := n6_; clear n0_ n1_ n2_ n3_ n4_ n5_ n6_; clear hb hbox hg; have hnb14 := NB226_227.out; have hnc14 := NB227_226.out; have hcz15_0 : w13.cell? ⟨gb226, 0, none⟩ = some (.int .i64 a0_0) := (blk_cell BK226.out 0).trans rfl; have hcz15_1 : w13.cell? ⟨gb226, 1, none⟩ = some (.int .i64 a0_1) := (blk_cell BK226.out 1).trans rfl; have hcz15_2 : w13.cell? ⟨gb226, 2, none⟩ = some (.int .i64 a0_2) := (blk_cell BK226.out 2).trans rfl; have hcz15_3 : w13.cell? ⟨gb226, 3, none⟩ = some (.int .i64 a0_3) := (blk_cell BK226.out 3).trans rfl; have hfz15_0 := blk_frozen BK226.out 0; have hfz15_1 := blk_frozen BK226.out 1; have hfz15_2 := blk_frozen BK226.out 2; have hfz15_3 := blk_frozen BK226.out 3; have hcz16_0 : w13.cell? ⟨gb227, 0, none⟩ = some (.int .i64 a1_0) := (blk_cell BK227.out 0).trans rfl; have hcz16_1 : w13.cell? ⟨gb227, 1, none⟩ = some (.int .i64 a1_1) := (blk_cell BK227.out 1).trans rfl; have hcz16_2 : w13.cell? ⟨gb227, 2, none⟩ = some (.int .i64 a1_2) := (blk_cell BK227.out 2).trans rfl; have hcz16_3 : w13.cell? ⟨gb227, 3, none⟩ = some (.int .i64 a1_3) := (blk_cell BK227.out 3).trans rfl; have hfz16_0 := blk_frozen BK227.out 0; have hfz16_1 := blk_frozen BK227.out 1; have hfz16_2 := blk_frozen BK227.out 2; have hfz16_3 := blk_frozen BK227.out 3))
      repeat (go_quiet (first | ((with_reducible refine gate_dst (N := 2) rfl ?_); refine box_event ?hg (N := 2) ?hd (cs := #[.int .i64 a0_0, .int .i64 a0_1, .int .i64 a0_2, .int .i64 a0_3]) (t := 57) ?hr ?_; (case hd => rfl); (case hg => rfl); (case hr => first | (go_simp; done) | (go_simp; rfl)); intro gb226 hg w12 hbox hb; have n0_ := Aside0.mk (below_step (by repeat (first | (with_reducible first | exact HB.out | apply below_alloc | apply pw_below_drewN | apply below_drew1) | exact HB.out)) hb); have n1_ := Aside0.mk (hbox); have n2_ := Aside0.mk ((by rw [hg]; exact (below_size (by repeat (first | (with_reducible first | exact HB.out | apply below_alloc | apply pw_below_drewN | apply below_drew1) | exact HB.out))) : w.heap.size ≤ gb226)); have n3_ := Aside0.mk ((by rw [hg]; exact (below_size (by repeat (first | (with_reducible first | exact HB.out | apply below_alloc | apply pw_below_drewN | apply below_drew1) | exact HB.out))) : w.heap.size ≤ gb226)); clear HB; have HB := n0_; have BK226 := n1_; have GW226 := n2_; have GE226 := n3_; clear n0_ n1_ n2_ n3_; clear hb hbox hg) | ((with_reducible refine gate_dst (N := 3) rfl ?_); refine box_event ?hg (N := 3) ?hd (cs := #[.int .i64 a1_0, .int .i64 a1_1, .int .i64 a1_2, .int .i64 a1_3]) (t := 57) ?hr ?_; (case hd => rfl); (case hg => rfl); (case hr => first | (go_simp; done) | (go_simp; rfl)); intro gb227 hg w13 hbox hb; have n0_ := Aside0.mk (blk_below (g := gb226) (o := .cells #[.int .i64 a0_0, .int .i64 a0_1, .int .i64 a0_2, .int .i64 a0_3] 57 (0, 0)) (by (with_reducible repeat (first | refine blk_drewN ?_ _ | refine blk_drew ?_ | refine blk_alloc ?_ _)); exact BK226.out) hb); have n1_ := Aside0.mk (below_step (by repeat (first | (with_reducible first | exact HB.out | apply below_alloc | apply pw_below_drewN | apply below_drew1 | refine below_set ?_ GE226.out) | exact HB.out)) hb); have n2_ := Aside0.mk (hbox); have n3_ := Aside0.mk ((by rw [hg]; exact (below_size (by repeat (first | (with_reducible first | exact HB.out | apply below_alloc | apply pw_below_drewN | apply below_drew1 | refine below_set ?_ GE226.out) | exact HB.out))) : w.heap.size ≤ gb227)); have n4_ := Aside0.mk ((by rw [hg]; exact (below_size (by repeat (first | (with_reducible first | exact HB.out | apply below_alloc | apply pw_below_drewN | apply below_drew1 | refine below_set ?_ GE226.out) | exact HB.out))) : w.heap.size ≤ gb227)); have n5_ := Aside0.mk ((by rw [hg]; exact Nat.ne_of_lt (blk_lt (g := gb226) (o := .cells #[.int .i64 a0_0, .int .i64 a0_1, .int .i64 a0_2, .int .i64 a0_3] 57 (0, 0)) (by (with_reducible repeat (first | refine blk_drewN ?_ _ | refine blk_drew ?_ | refine blk_alloc ?_ _)); exact BK226.out)) : gb226 ≠ gb227)); have n6_ := Aside0.mk ((by rw [hg]; exact Nat.ne_of_gt (blk_lt (g := gb226) (o := .cells #[.int .i64 a0_0, .int .i64 a0_1, .int .i64 a0_2, .int .i64 a0_3] 57 (0, 0)) (by (with_reducible repeat (first | refine blk_drewN ?_ _ | refine blk_drew ?_ | refine blk_alloc ?_ _)); exact BK226.out)) : gb227 ≠ gb226)); clear BK226; clear HB; have BK226 := n0_; have HB := n1_; have BK227 := n2_; have GW227 := n3_; have GE227 := n4_; have NB226_227 := n5_; have NB227_226 := n6_; clear n0_ n1_ n2_ n3_ n4_ n5_ n6_; clear hb hbox hg; have hnb14 := NB226_227.out; have hnc14 := NB227_226.out; have hcz15_0 : w13.cell? ⟨gb226, 0, none⟩ = some (.int .i64 a0_0) := (blk_cell BK226.out 0).trans rfl; have hcz15_1 : w13.cell? ⟨gb226, 1, none⟩ = some (.int .i64 a0_1) := (blk_cell BK226.out 1).trans rfl; have hcz15_2 : w13.cell? ⟨gb226, 2, none⟩ = some (.int .i64 a0_2) := (blk_cell BK226.out 2).trans rfl; have hcz15_3 : w13.cell? ⟨gb226, 3, none⟩ = some (.int .i64 a0_3) := (blk_cell BK226.out 3).trans rfl; have hfz15_0 := blk_frozen BK226.out 0; have hfz15_1 := blk_frozen BK226.out 1; have hfz15_2 := blk_frozen BK226.out 2; have hfz15_3 := blk_frozen BK226.out 3; have hcz16_0 : w13.cell? ⟨gb227, 0, none⟩ = some (.int .i64 a1_0) := (blk_cell BK227.out 0).trans rfl; have hcz16_1 : w13.cell? ⟨gb227, 1, none⟩ = some (.int .i64 a1_1) := (blk_cell BK227.out 1).trans rfl; have hcz16_2 : w13.cell? ⟨gb227, 2, none⟩ = some (.int .i64 a1_2) := (blk_cell BK227.out 2).trans rfl; have hcz16_3 : w13.cell? ⟨gb227, 3, none⟩ = some (.int .i64 a1_3) := (blk_cell BK227.out 3).trans rfl; have hfz16_0 := blk_frozen BK227.out 0; have hfz16_1 := blk_frozen BK227.out 1; have hfz16_2 := blk_frozen BK227.out 2; have hfz16_3 := blk_frozen BK227.out 3)); try go_wp2_with (first | ((with_reducible refine gate_dst (N := 2) rfl ?_); refine box_event ?hg (N := 2) ?hd (cs := #[.int .i64 a0_0, .int .i64 a0_1, .int .i64 a0_2, .int .i64 a0_3]) (t := 57) ?hr ?_; (case hd => rfl); (case hg => rfl); (case hr => first | (go_simp; done) | (go_simp; rfl)); intro gb226 hg w12 hbox hb; have n0_ := Aside0.mk (below_step (by repeat (first | (with_reducible first | exact HB.out | apply below_alloc | apply pw_below_drewN | apply below_drew1) | exact HB.out)) hb); have n1_ := Aside0.mk (hbox); have n2_ := Aside0.mk ((by rw [hg]; exact (below_size (by repeat (first | (with_reducible first | exact HB.out | apply below_alloc | apply pw_below_drewN | apply below_drew1) | exact HB.out))) : w.heap.size ≤ gb226)); have n3_ := Aside0.mk ((by rw [hg]; exact (below_size (by repeat (first | (with_reducible first | exact HB.out | apply below_alloc | apply pw_below_drewN | apply below_drew1) | exact HB.out))) : w.heap.size ≤ gb226)); clear HB; have HB := n0_; have BK226 := n1_; have GW226 := n2_; have GE226 := n3_; clear n0_ n1_ n2_ n3_; clear hb hbox hg) | ((with_reducible refine gate_dst (N := 3) rfl ?_); refine box_event ?hg (N := 3) ?hd (cs := #[.int .i64 a1_0, .int .i64 a1_1, .int .i64 a1_2, .int .i64 a1_3]) (t := 57) ?hr ?_; (case hd => rfl); (case hg => rfl); (case hr => first | (go_simp; done) | (go_simp; rfl)); intro gb227 hg w13 hbox hb; have n0_ := Aside0.mk (blk_below (g := gb226) (o := .cells #[.int .i64 a0_0, .int .i64 a0_1, .int .i64 a0_2, .int .i64 a0_3] 57 (0, 0)) (by (with_reducible repeat (first | refine blk_drewN ?_ _ | refine blk_drew ?_ | refine blk_alloc ?_ _)); exact BK226.out) hb); have n1_ := Aside0.mk (below_step (by repeat (first | (with_reducible first | exact HB.out | apply below_alloc | apply pw_below_drewN | apply below_drew1 | refine below_set ?_ GE226.out) | exact HB.out)) hb); have n2_ := Aside0.mk (hbox); have n3_ := Aside0.mk ((by rw [hg]; exact (below_size (by repeat (first | (with_reducible first | exact HB.out | apply below_alloc | apply pw_below_drewN | apply below_drew1 | refine below_set ?_ GE226.out) | exact HB.out))) : w.heap.size ≤ gb227)); have n4_ := Aside0.mk ((by rw [hg]; exact (below_size (by repeat (first | (with_reducible first | exact HB.out | apply below_alloc | apply pw_below_drewN | apply below_drew1 | refine below_set ?_ GE226.out) | exact HB.out))) : w.heap.size ≤ gb227)); have n5_ := Aside0.mk ((by rw [hg]; exact Nat.ne_of_lt (blk_lt (g := gb226) (o := .cells #[.int .i64 a0_0, .int .i64 a0_1, .int .i64 a0_2, .int .i64 a0_3] 57 (0, 0)) (by (with_reducible repeat (first | refine blk_drewN ?_ _ | refine blk_drew ?_ | refine blk_alloc ?_ _)); exact BK226.out)) : gb226 ≠ gb227)); have n6_ := Aside0.mk ((by rw [hg]; exact Nat.ne_of_gt (blk_lt (g := gb226) (o := .cells #[.int .i64 a0_0, .int .i64 a0_1, .int .i64 a0_2, .int .i64 a0_3] 57 (0, 0)) (by (with_reducible repeat (first | refine blk_drewN ?_ _ | refine blk_drew ?_ | refine blk_alloc ?_ _)); exact BK226.out)) : gb227 ≠ gb226)); clear BK226; clear HB; have BK226 := n0_; have HB := n1_; have BK227 := n2_; have GW227 := n3_; have GE227 := n4_; have NB226_227 := n5_; have NB227_226 := n6_; clear n0_ n1_ n2_ n3_ n4_ n5_ n6_; clear hb hbox hg; have hnb14 := NB226_227.out; have hnc14 := NB227_226.out; have hcz15_0 : w13.cell? ⟨gb226, 0, none⟩ = some (.int .i64 a0_0) := (blk_cell BK226.out 0).trans rfl; have hcz15_1 : w13.cell? ⟨gb226, 1, none⟩ = some (.int .i64 a0_1) := (blk_cell BK226.out 1).trans rfl; have hcz15_2 : w13.cell? ⟨gb226, 2, none⟩ = some (.int .i64 a0_2) := (blk_cell BK226.out 2).trans rfl; have hcz15_3 : w13.cell? ⟨gb226, 3, none⟩ = some (.int .i64 a0_3) := (blk_cell BK226.out 3).trans rfl; have hfz15_0 := blk_frozen BK226.out 0; have hfz15_1 := blk_frozen BK226.out 1; have hfz15_2 := blk_frozen BK226.out 2; have hfz15_3 := blk_frozen BK226.out 3; have hcz16_0 : w13.cell? ⟨gb227, 0, none⟩ = some (.int .i64 a1_0) := (blk_cell BK227.out 0).trans rfl; have hcz16_1 : w13.cell? ⟨gb227, 1, none⟩ = some (.int .i64 a1_1) := (blk_cell BK227.out 1).trans rfl; have hcz16_2 : w13.cell? ⟨gb227, 2, none⟩ = some (.int .i64 a1_2) := (blk_cell BK227.out 2).trans rfl; have hcz16_3 : w13.cell? ⟨gb227, 3, none⟩ = some (.int .i64 a1_3) := (blk_cell BK227.out 3).trans rfl; have hfz16_0 := blk_frozen BK227.out 0; have hfz16_1 := blk_frozen BK227.out 1; have hfz16_2 := blk_frozen BK227.out 2; have hfz16_3 := blk_frozen BK227.out 3)))
      go_ret2
      exact ⟨by first | rfl | (simp [errW_none, errW_some] <;> rfl) | (simp only [← hji3, ← hji4]; first | rfl | (simp [errW_none, errW_some] <;> rfl)) | (simp [*, errW_none, errW_some] <;> rfl), by repeat (first | (with_reducible first | exact HB.out | apply below_alloc | apply pw_below_drewN | apply below_drew1 | refine below_set ?_ GE226.out | refine below_set ?_ GE227.out) | exact HB.out)⟩
  · rw [if_neg c5] at H
    have c5b0 : (a0_0 == a1_0) = false := beq_eq_false_iff_ne.mpr c5
    have c5b1 : (a0_0 != a1_0) = true := bne_iff_ne.mpr c5
    simp only [Option.some.injEq, Prod.mk.injEq] at H
    obtain ⟨rfl, rfl⟩ := H
    go_enter Tryd.func91, Tryd.ntmps91
    go_wp2_with (first | ((with_reducible refine gate_dst (N := 2) rfl ?_); refine box_event ?hg (N := 2) ?hd (cs := #[.int .i64 a0_0, .int .i64 a0_1, .int .i64 a0_2, .int .i64 a0_3]) (t := 57) ?hr ?_; (case hd => rfl); (case hg => rfl); (case hr => first | (go_simp; done) | (go_simp; rfl)); intro gb226 hg w17 hbox hb; have n0_ := Aside0.mk (below_step (by repeat (first | (with_reducible first | exact HB.out | apply below_alloc | apply pw_below_drewN | apply below_drew1) | exact HB.out)) hb); have n1_ := Aside0.mk (hbox); have n2_ := Aside0.mk ((by rw [hg]; exact (below_size (by repeat (first | (with_reducible first | exact HB.out | apply below_alloc | apply pw_below_drewN | apply below_drew1) | exact HB.out))) : w.heap.size ≤ gb226)); have n3_ := Aside0.mk ((by rw [hg]; exact (below_size (by repeat (first | (with_reducible first | exact HB.out | apply below_alloc | apply pw_below_drewN | apply below_drew1) | exact HB.out))) : w.heap.size ≤ gb226)); clear HB; have HB := n0_; have BK226 := n1_; have GW226 := n2_; have GE226 := n3_; clear n0_ n1_ n2_ n3_; clear hb hbox hg) | ((with_reducible refine gate_dst (N := 3) rfl ?_); refine box_event ?hg (N := 3) ?hd (cs := #[.int .i64 a1_0, .int .i64 a1_1, .int .i64 a1_2, .int .i64 a1_3]) (t := 57) ?hr ?_; (case hd => rfl); (case hg => rfl); (case hr => first | (go_simp; done) | (go_simp; rfl)); intro gb227 hg w18 hbox hb; have n0_ := Aside0.mk (blk_below (g := gb226) (o := .cells #[.int .i64 a0_0, .int .i64 a0_1, .int .i64 a0_2, .int .i64 a0_3] 57 (0, 0)) (by (with_reducible repeat (first | refine blk_drewN ?_ _ | refine blk_drew ?_ | refine blk_alloc ?_ _)); exact BK226.out) hb); have n1_ := Aside0.mk (below_step (by repeat (first | (with_reducible first | exact HB.out | apply below_alloc | apply pw_below_drewN | apply below_drew1 | refine below_set ?_ GE226.out) | exact HB.out)) hb); have n2_ := Aside0.mk (hbox); have n3_ := Aside0.mk ((by rw [hg]; exact (below_size (by repeat (first | (with_reducible first | exact HB.out | apply below_alloc | apply pw_below_drewN | apply below_drew1 | refine below_set ?_ GE226.out) | exact HB.out))) : w.heap.size ≤ gb227)); have n4_ := Aside0.mk ((by rw [hg]; exact (below_size (by repeat (first | (with_reducible first | exact HB.out | apply below_alloc | apply pw_below_drewN | apply below_drew1 | refine below_set ?_ GE226.out) | exact HB.out))) : w.heap.size ≤ gb227)); have n5_ := Aside0.mk ((by rw [hg]; exact Nat.ne_of_lt (blk_lt (g := gb226) (o := .cells #[.int .i64 a0_0, .int .i64 a0_1, .int .i64 a0_2, .int .i64 a0_3] 57 (0, 0)) (by (with_reducible repeat (first | refine blk_drewN ?_ _ | refine blk_drew ?_ | refine blk_alloc ?_ _)); exact BK226.out)) : gb226 ≠ gb227)); have n6_ := Aside0.mk ((by rw [hg]; exact Nat.ne_of_gt (blk_lt (g := gb226) (o := .cells #[.int .i64 a0_0, .int .i64 a0_1, .int .i64 a0_2, .int .i64 a0_3] 57 (0, 0)) (by (with_reducible repeat (first | refine blk_drewN ?_ _ | refine blk_drew ?_ | refine blk_alloc ?_ _)); exact BK226.out)) : gb227 ≠ gb226)); clear BK226; clear HB; have BK226 := n0_; have HB := n1_; have BK227 := n2_; have GW227 := n3_; have GE227 := n4_; have NB226_227 := n5_; have NB227_226 := n6_; clear n0_ n1_ n2_ n3_ n4_ n5_ n6_; clear hb hbox hg; have hnb19 := NB226_227.out; have hnc19 := NB227_226.out; have hcz20_0 : w18.cell? ⟨gb226, 0, none⟩ = some (.int .i64 a0_0) := (blk_cell BK226.out 0).trans rfl; have hcz20_1 : w18.cell? ⟨gb226, 1, none⟩ = some (.int .i64 a0_1) := (blk_cell BK226.out 1).trans rfl; have hcz20_2 : w18.cell? ⟨gb226, 2, none⟩ = some (.int .i64 a0_2) := (blk_cell BK226.out 2).trans rfl; have hcz20_3 : w18.cell? ⟨gb226, 3, none⟩ = some (.int .i64 a0_3) := (blk_cell BK226.out 3).trans rfl; have hfz20_0 := blk_frozen BK226.out 0; have hfz20_1 := blk_frozen BK226.out 1; have hfz20_2 := blk_frozen BK226.out 2; have hfz20_3 := blk_frozen BK226.out 3; have hcz21_0 : w18.cell? ⟨gb227, 0, none⟩ = some (.int .i64 a1_0) := (blk_cell BK227.out 0).trans rfl; have hcz21_1 : w18.cell? ⟨gb227, 1, none⟩ = some (.int .i64 a1_1) := (blk_cell BK227.out 1).trans rfl; have hcz21_2 : w18.cell? ⟨gb227, 2, none⟩ = some (.int .i64 a1_2) := (blk_cell BK227.out 2).trans rfl; have hcz21_3 : w18.cell? ⟨gb227, 3, none⟩ = some (.int .i64 a1_3) := (blk_cell BK227.out 3).trans rfl; have hfz21_0 := blk_frozen BK227.out 0; have hfz21_1 := blk_frozen BK227.out 1; have hfz21_2 := blk_frozen BK227.out 2; have hfz21_3 := blk_frozen BK227.out 3))
    repeat (go_quiet (first | ((with_reducible refine gate_dst (N := 2) rfl ?_); refine box_event ?hg (N := 2) ?hd (cs := #[.int .i64 a0_0, .int .i64 a0_1, .int .i64 a0_2, .int .i64 a0_3]) (t := 57) ?hr ?_; (case hd => rfl); (case hg => rfl); (case hr => first | (go_simp; done) | (go_simp; rfl)); intro gb226 hg w17 hbox hb; have n0_ := Aside0.mk (below_step (by repeat (first | (with_reducible first | exact HB.out | apply below_alloc | apply pw_below_drewN | apply below_drew1) | exact HB.out)) hb); have n1_ := Aside0.mk (hbox); have n2_ := Aside0.mk ((by rw [hg]; exact (below_size (by repeat (first | (with_reducible first | exact HB.out | apply below_alloc | apply pw_below_drewN | apply below_drew1) | exact HB.out))) : w.heap.size ≤ gb226)); have n3_ := Aside0.mk ((by rw [hg]; exact (below_size (by repeat (first | (with_reducible first | exact HB.out | apply below_alloc | apply pw_below_drewN | apply below_drew1) | exact HB.out))) : w.heap.size ≤ gb226)); clear HB; have HB := n0_; have BK226 := n1_; have GW226 := n2_; have GE226 := n3_; clear n0_ n1_ n2_ n3_; clear hb hbox hg) | ((with_reducible refine gate_dst (N := 3) rfl ?_); refine box_event ?hg (N := 3) ?hd (cs := #[.int .i64 a1_0, .int .i64 a1_1, .int .i64 a1_2, .int .i64 a1_3]) (t := 57) ?hr ?_; (case hd => rfl); (case hg => rfl); (case hr => first | (go_simp; done) | (go_simp; rfl)); intro gb227 hg w18 hbox hb; have n0_ := Aside0.mk (blk_below (g := gb226) (o := .cells #[.int .i64 a0_0, .int .i64 a0_1, .int .i64 a0_2, .int .i64 a0_3] 57 (0, 0)) (by (with_reducible repeat (first | refine blk_drewN ?_ _ | refine blk_drew ?_ | refine blk_alloc ?_ _)); exact BK226.out) hb); have n1_ := Aside0.mk (below_step (by repeat (first | (with_reducible first | exact HB.out | apply below_alloc | apply pw_below_drewN | apply below_drew1 | refine below_set ?_ GE226.out) | exact HB.out)) hb); have n2_ := Aside0.mk (hbox); have n3_ := Aside0.mk ((by rw [hg]; exact (below_size (by repeat (first | (with_reducible first | exact HB.out | apply below_alloc | apply pw_below_drewN | apply below_drew1 | refine below_set ?_ GE226.out) | exact HB.out))) : w.heap.size ≤ gb227)); have n4_ := Aside0.mk ((by rw [hg]; exact (below_size (by repeat (first | (with_reducible first | exact HB.out | apply below_alloc | apply pw_below_drewN | apply below_drew1 | refine below_set ?_ GE226.out) | exact HB.out))) : w.heap.size ≤ gb227)); have n5_ := Aside0.mk ((by rw [hg]; exact Nat.ne_of_lt (blk_lt (g := gb226) (o := .cells #[.int .i64 a0_0, .int .i64 a0_1, .int .i64 a0_2, .int .i64 a0_3] 57 (0, 0)) (by (with_reducible repeat (first | refine blk_drewN ?_ _ | refine blk_drew ?_ | refine blk_alloc ?_ _)); exact BK226.out)) : gb226 ≠ gb227)); have n6_ := Aside0.mk ((by rw [hg]; exact Nat.ne_of_gt (blk_lt (g := gb226) (o := .cells #[.int .i64 a0_0, .int .i64 a0_1, .int .i64 a0_2, .int .i64 a0_3] 57 (0, 0)) (by (with_reducible repeat (first | refine blk_drewN ?_ _ | refine blk_drew ?_ | refine blk_alloc ?_ _)); exact BK226.out)) : gb227 ≠ gb226)); clear BK226; clear HB; have BK226 := n0_; have HB := n1_; have BK227 := n2_; have GW227 := n3_; have GE227 := n4_; have NB226_227 := n5_; have NB227_226 := n6_; clear n0_ n1_ n2_ n3_ n4_ n5_ n6_; clear hb hbox hg; have hnb19 := NB226_227.out; have hnc19 := NB227_226.out; have hcz20_0 : w18.cell? ⟨gb226, 0, none⟩ = some (.int .i64 a0_0) := (blk_cell BK226.out 0).trans rfl; have hcz20_1 : w18.cell? ⟨gb226, 1, none⟩ = some (.int .i64 a0_1) := (blk_cell BK226.out 1).trans rfl; have hcz20_2 : w18.cell? ⟨gb226, 2, none⟩ = some (.int .i64 a0_2) := (blk_cell BK226.out 2).trans rfl; have hcz20_3 : w18.cell? ⟨gb226, 3, none⟩ = some (.int .i64 a0_3) := (blk_cell BK226.out 3).trans rfl; have hfz20_0 := blk_frozen BK226.out 0; have hfz20_1 := blk_frozen BK226.out 1; have hfz20_2 := blk_frozen BK226.out 2; have hfz20_3 := blk_frozen BK226.out 3; have hcz21_0 : w18.cell? ⟨gb227, 0, none⟩ = some (.int .i64 a1_0) := (blk_cell BK227.out 0).trans rfl; have hcz21_1 : w18.cell? ⟨gb227, 1, none⟩ = some (.int .i64 a1_1) := (blk_cell BK227.out 1).trans rfl; have hcz21_2 : w18.cell? ⟨gb227, 2, none⟩ = some (.int .i64 a1_2) := (blk_cell BK227.out 2).trans rfl; have hcz21_3 : w18.cell? ⟨gb227, 3, none⟩ = some (.int .i64 a1_3) := (blk_cell BK227.out 3).trans rfl; have hfz21_0 := blk_frozen BK227.out 0; have hfz21_1 := blk_frozen BK227.out 1; have hfz21_2 := blk_frozen BK227.out 2; have hfz21_3 := blk_frozen BK227.out 3)); try go_wp2_with (first | ((with_reducible refine gate_dst (N := 2) rfl ?_); refine box_event ?hg (N := 2) ?hd (cs := #[.int .i64 a0_0, .int .i64 a0_1, .int .i64 a0_2, .int .i64 a0_3]) (t := 57) ?hr ?_; (case hd => rfl); (case hg => rfl); (case hr => first | (go_simp; done) | (go_simp; rfl)); intro gb226 hg w17 hbox hb; have n0_ := Aside0.mk (below_step (by repeat (first | (with_reducible first | exact HB.out | apply below_alloc | apply pw_below_drewN | apply below_drew1) | exact HB.out)) hb); have n1_ := Aside0.mk (hbox); have n2_ := Aside0.mk ((by rw [hg]; exact (below_size (by repeat (first | (with_reducible first | exact HB.out | apply below_alloc | apply pw_below_drewN | apply below_drew1) | exact HB.out))) : w.heap.size ≤ gb226)); have n3_ := Aside0.mk ((by rw [hg]; exact (below_size (by repeat (first | (with_reducible first | exact HB.out | apply below_alloc | apply pw_below_drewN | apply below_drew1) | exact HB.out))) : w.heap.size ≤ gb226)); clear HB; have HB := n0_; have BK226 := n1_; have GW226 := n2_; have GE226 := n3_; clear n0_ n1_ n2_ n3_; clear hb hbox hg) | ((with_reducible refine gate_dst (N := 3) rfl ?_); refine box_event ?hg (N := 3) ?hd (cs := #[.int .i64 a1_0, .int .i64 a1_1, .int .i64 a1_2, .int .i64 a1_3]) (t := 57) ?hr ?_; (case hd => rfl); (case hg => rfl); (case hr => first | (go_simp; done) | (go_simp; rfl)); intro gb227 hg w18 hbox hb; have n0_ := Aside0.mk (blk_below (g := gb226) (o := .cells #[.int .i64 a0_0, .int .i64 a0_1, .int .i64 a0_2, .int .i64 a0_3] 57 (0, 0)) (by (with_reducible repeat (first | refine blk_drewN ?_ _ | refine blk_drew ?_ | refine blk_alloc ?_ _)); exact BK226.out) hb); have n1_ := Aside0.mk (below_step (by repeat (first | (with_reducible first | exact HB.out | apply below_alloc | apply pw_below_drewN | apply below_drew1 | refine below_set ?_ GE226.out) | exact HB.out)) hb); have n2_ := Aside0.mk (hbox); have n3_ := Aside0.mk ((by rw [hg]; exact (below_size (by repeat (first | (with_reducible first | exact HB.out | apply below_alloc | apply pw_below_drewN | apply below_drew1 | refine below_set ?_ GE226.out) | exact HB.out))) : w.heap.size ≤ gb227)); have n4_ := Aside0.mk ((by rw [hg]; exact (below_size (by repeat (first | (with_reducible first | exact HB.out | apply below_alloc | apply pw_below_drewN | apply below_drew1 | refine below_set ?_ GE226.out) | exact HB.out))) : w.heap.size ≤ gb227)); have n5_ := Aside0.mk ((by rw [hg]; exact Nat.ne_of_lt (blk_lt (g := gb226) (o := .cells #[.int .i64 a0_0, .int .i64 a0_1, .int .i64 a0_2, .int .i64 a0_3] 57 (0, 0)) (by (with_reducible repeat (first | refine blk_drewN ?_ _ | refine blk_drew ?_ | refine blk_alloc ?_ _)); exact BK226.out)) : gb226 ≠ gb227)); have n6_ := Aside0.mk ((by rw [hg]; exact Nat.ne_of_gt (blk_lt (g := gb226) (o := .cells #[.int .i64 a0_0, .int .i64 a0_1, .int .i64 a0_2, .int .i64 a0_3] 57 (0, 0)) (by (with_reducible repeat (first | refine blk_drewN ?_ _ | refine blk_drew ?_ | refine blk_alloc ?_ _)); exact BK226.out)) : gb227 ≠ gb226)); clear BK226; clear HB; have BK226 := n0_; have HB := n1_; have BK227 := n2_; have GW227 := n3_; have GE227 := n4_; have NB226_227 := n5_; have NB227_226 := n6_; clear n0_ n1_ n2_ n3_ n4_ n5_ n6_; clear hb hbox hg; have hnb19 := NB226_227.out; have hnc19 := NB227_226.out; have hcz20_0 : w18.cell? ⟨gb226, 0, none⟩ = some (.int .i64 a0_0) := (blk_cell BK226.out 0).trans rfl; have hcz20_1 : w18.cell? ⟨gb226, 1, none⟩ = some (.int .i64 a0_1) := (blk_cell BK226.out 1).trans rfl; have hcz20_2 : w18.cell? ⟨gb226, 2, none⟩ = some (.int .i64 a0_2) := (blk_cell BK226.out 2).trans rfl; have hcz20_3 : w18.cell? ⟨gb226, 3, none⟩ = some (.int .i64 a0_3) := (blk_cell BK226.out 3).trans rfl; have hfz20_0 := blk_frozen BK226.out 0; have hfz20_1 := blk_frozen BK226.out 1; have hfz20_2 := blk_frozen BK226.out 2; have hfz20_3 := blk_frozen BK226.out 3; have hcz21_0 : w18.cell? ⟨gb227, 0, none⟩ = some (.int .i64 a1_0) := (blk_cell BK227.out 0).trans rfl; have hcz21_1 : w18.cell? ⟨gb227, 1, none⟩ = some (.int .i64 a1_1) := (blk_cell BK227.out 1).trans rfl; have hcz21_2 : w18.cell? ⟨gb227, 2, none⟩ = some (.int .i64 a1_2) := (blk_cell BK227.out 2).trans rfl; have hcz21_3 : w18.cell? ⟨gb227, 3, none⟩ = some (.int .i64 a1_3) := (blk_cell BK227.out 3).trans rfl; have hfz21_0 := blk_frozen BK227.out 0; have hfz21_1 := blk_frozen BK227.out 1; have hfz21_2 := blk_frozen BK227.out 2; have hfz21_3 := blk_frozen BK227.out 3)))
    go_ret2
    exact ⟨by first | rfl | (simp [errW_none, errW_some] <;> rfl) | (simp only [← hji3, ← hji4]; first | rfl | (simp [errW_none, errW_some] <;> rfl)) | (simp [*, errW_none, errW_some] <;> rfl), by repeat (first | (with_reducible first | exact HB.out | apply below_alloc | apply pw_below_drewN | apply below_drew1 | refine below_set ?_ GE226.out | refine below_set ?_ GE227.out) | exact HB.out)⟩

end Go.Proofs.YtpbboooeahmgpaaDoor.P


namespace Go.Proofs.YtpbboooeahmgpaaDoor.P
open Go.RowKit Go.Proofs.YtpbboooeahmgpaaDoorW.PrintWords Go.Proofs.YtpbboooeahmgpaaDoorW.PrintLast Go.Proofs.YtpbboooeahmgpaaDoorW.PrintMore
attribute [local go_sem] max2_int min2_int max_two min_two max_three min_three max_four min_four   -- for this text's walks alone
set_option linter.unusedVariables false
set_option linter.unusedSimpArgs false

def impl_areShared.f (a0_0 : Int) (a0_1 : Int) (a0_2 : Int) (a0_3 : Int) (a1_0 : Int) (a1_1 : Int) (a1_2 : Int) (a1_3 : Int) : Option (Bool) := (impl_common.f a0_0 a0_1 a0_2 a0_3 a1_0 a1_1 a1_2 a1_3).bind fun bt230 => (some (decide (bt230.1 > 0)))
set_option maxHeartbeats 8000000 in
set_option maxRecDepth 100000 in
theorem impl_areShared.calls (a0_0 : Int) (a0_1 : Int) (a0_2 : Int) (a0_3 : Int) (a1_0 : Int) (a1_1 : Int) (a1_2 : Int) (a1_3 : Int) (r : Bool) (w : World) (h : impl_areShared.f a0_0 a0_1 a0_2 a0_3 a1_0 a1_1 a1_2 a1_3 = some r) :
    Calls Tryd.prog 64 #[.agg #[.int .i64 a0_0, .int .i64 a0_1, .int .i64 a0_2, .int .i64 a0_3], .agg #[.int .i64 a1_0, .int .i64 a1_1, .int .i64 a1_2, .int .i64 a1_3]] w fun e w' => e = .returned (.bool r) ∧ Below w.heap.size w w' := by
  have hu57 := Tryd.underlying57
  have HB := Aside0.mk (Below.refl w.heap.size w)
  have H : ((impl_common.f a0_0 a0_1 a0_2 a0_3 a1_0 a1_1 a1_2 a1_3).bind fun bt230 => (some (decide (bt230.1 > 0)))) = some r := h
  clear h
  replace H := Option.bind_eq_some_iff.mp H
  obtain ⟨⟨t230, t231⟩, A30, H⟩ := H
  replace H : (some (decide (t230 > 0))) = some r := H
  have A3 := Aside0.mk A30
  clear A30
  obtain rfl := Option.some.inj H
  go_enter Tryd.func64, Tryd.ntmps64
  go_wp2_with (first | ((with_reducible refine gate_dst (N := 2) rfl ?_); refine box_event ?hg (N := 2) ?hd (cs := #[.int .i64 a0_0, .int .i64 a0_1, .int .i64 a0_2, .int .i64 a0_3]) (t := 57) ?hr ?_; (case hd => rfl); (case hg => rfl); (case hr => first | (go_simp; done) | (go_simp; rfl)); intro gb228 hg w4 hbox hb; have n0_ := Aside0.mk (below_step (by repeat (first | (with_reducible first | exact HB.out | apply below_alloc | apply pw_below_drewN | apply below_drew1) | exact HB.out)) hb); have n1_ := Aside0.mk (hbox); have n2_ := Aside0.mk ((by rw [hg]; exact (below_size (by repeat (first | (with_reducible first | exact HB.out | apply below_alloc | apply pw_below_drewN | apply below_drew1) | exact HB.out))) : w.heap.size ≤ gb228)); have n3_ := Aside0.mk ((by rw [hg]; exact (below_size (by repeat (first | (with_reducible first | exact HB.out | apply below_alloc | apply pw_below_drewN | apply below_drew1) | exact HB.out))) : w.heap.size ≤ gb228)); clear HB; have HB := n0_; have BK228 := n1_; have GW228 := n2_; have GE228 := n3_; clear n0_ n1_ n2_ n3_; clear hb hbox hg) | ((with_reducible refine gate_dst (N := 3) rfl ?_); refine box_event ?hg (N := 3) ?hd (cs := #[.int .i64 a1_0, .int .i64 a1_1, .int .i64 a1_2, .int .i64 a1_3]) (t := 57) ?hr ?_; (case hd => rfl); (case hg => rfl); (case hr => first | (go_simp; done) | (go_simp; rfl)); intro gb229 hg w5 hbox hb; have n0_ := Aside0.mk (blk_below (g := gb228) (o := .cells #[.int .i64 a0_0, .int .i64 a0_1, .int .i64 a0_2, .int .i64 a0_3] 57 (0, 0)) (by (with_reducible repeat (first | refine blk_drewN ?_ _ | refine blk_drew ?_ | refine blk_alloc ?_ _)); exact BK228.out) hb); have n1_ := Aside0.mk (below_step (by repeat (first | (with_reducible first | exact HB.out | apply below_alloc | apply pw_below_drewN | apply below_drew1 | refine below_set ?_ GE228.out) | exact HB.out)) hb); have n2_ := Aside0.mk (hbox); have n3_ := Aside0.mk ((by rw [hg]; exact (below_size (by repeat (first | (with_reducible first | exact HB.out | apply below_alloc | apply pw_below_drewN | apply below_drew1 | refine below_set ?_ GE228.out) | exact HB.out))) : w.heap.size ≤ gb229)); have n4_ := Aside0.mk ((by rw [hg]; exact (below_size (by repeat (first | (with_reducible first | exact HB.out | apply below_alloc | apply pw_below_drewN | apply below_drew1 | refine below_set ?_ GE228.out) | exact HB.out))) : w.heap.size ≤ gb229)); have n5_ := Aside0.mk ((by rw [hg]; exact Nat.ne_of_lt (blk_lt (g := gb228) (o := .cells #[.int .i64 a0_0, .int .i64 a0_1, .int .i64 a0_2, .int .i64 a0_3] 57 (0, 0)) (by (with_reducible repeat (first | refine blk_drewN ?_ _ | refine blk_drew ?_ | refine blk_alloc ?_ _)); exact BK228.out)) : gb228 ≠ gb229)); have n6_ := Aside0.mk ((by rw [hg]; exact Nat.ne_of_gt (blk_lt (g := gb228) (o := .cells #[.int .i64 a0_0, .int .i64 a0_1, .int .i64 a0_2, .int .i64 a0_3] 57 (0, 0)) (by (with_reducible repeat (first | refine blk_drewN ?_ _ | refine blk_drew ?_ | refine blk_alloc ?_ _)); exact BK228.out)) : gb229 ≠ gb228)); clear BK228; clear HB; have BK228 := n0_; have HB := n1_; have BK229 := n2_; have GW229 := n3_; have GE229 := n4_; have NB228_229 := n5_; have NB229_228 := n6_; clear n0_ n1_ n2_ n3_ n4_ n5_ n6_; clear hb hbox hg; have hnb6 := NB228_229.out; have hnc6 := NB229_228.out; have hcz7_0 : w5.cell? ⟨gb228, 0, none⟩ = some (.int .i64 a0_0) := (blk_cell BK228.out 0).trans rfl; have hcz7_1 : w5.cell? ⟨gb228, 1, none⟩ = some (.int .i64 a0_1) := (blk_cell BK228.out 1).trans rfl; have hcz7_2 : w5.cell? ⟨gb228, 2, none⟩ = some (.int .i64 a0_2) := (blk_cell BK228.out 2).trans rfl; have hcz7_3 : w5.cell? ⟨gb228, 3, none⟩ = some (.int .i64 a0_3) := (blk_cell BK228.out 3).trans rfl; have hfz7_0 := blk_frozen BK228.out 0; have hfz7_1 := blk_frozen BK228.out 1; have hfz7_2 := blk_frozen BK228.out 2; have hfz7_3 := blk_frozen BK228.out 3; have hcz8_0 : w5.cell? ⟨gb229, 0, none⟩ = some (.int .i64 a1_0) := (blk_cell BK229.out 0).trans rfl; have hcz8_1 : w5.cell? ⟨gb229, 1, none⟩ = some (.int .i64 a1_1) := (blk_cell BK229.out 1).trans rfl; have hcz8_2 : w5.cell? ⟨gb229, 2, none⟩ = some (.int .i64 a1_2) := (blk_cell BK229.out 2).trans rfl; have hcz8_3 : w5.cell? ⟨gb229, 3, none⟩ = some (.int .i64 a1_3) := (blk_cell BK229.out 3).trans rfl; have hfz8_0 := blk_frozen BK229.out 0; have hfz8_1 := blk_frozen BK229.out 1; have hfz8_2 := blk_frozen BK229.out 2; have hfz8_3 := blk_frozen BK229.out 3) | ((with_reducible refine gate_callee (f := 91) rfl ?_); refine goesL_ (some 10) rfl rfl Tryd.func91 (by kernel_rfl) rfl #[.agg #[.int .i64 a0_0, .int .i64 a0_1, .int .i64 a0_2, .int .i64 a0_3], .agg #[.int .i64 a1_0, .int .i64 a1_1, .int .i64 a1_2, .int .i64 a1_3]] rfl (by (try simp only [List.map_toArray, List.map_cons, List.map_nil]); first | done | rfl | (simp only [List.length_drop, List.length_take]; rfl)) ?_; (with_reducible refine (impl_common.calls a0_0 a0_1 a0_2 a0_3 a1_0 a1_1 a1_2 a1_3 t230 t231 _ A3.out).mono ?_); rintro e w9 ⟨rfl, hb⟩; refine ⟨_, rfl, ?_⟩; have n0_ := Aside0.mk (blk_below (g := gb228) (o := .cells #[.int .i64 a0_0, .int .i64 a0_1, .int .i64 a0_2, .int .i64 a0_3] 57 (0, 0)) (by (with_reducible repeat (first | refine blk_drewN ?_ _ | refine blk_drew ?_ | refine blk_alloc ?_ _)); exact BK228.out) hb); have n1_ := Aside0.mk (blk_below (g := gb229) (o := .cells #[.int .i64 a1_0, .int .i64 a1_1, .int .i64 a1_2, .int .i64 a1_3] 57 (0, 0)) (by (with_reducible repeat (first | refine blk_drewN ?_ _ | refine blk_drew ?_ | refine blk_alloc ?_ _)); exact BK229.out) hb); have n2_ := Aside0.mk (below_step (by repeat (first | (with_reducible first | exact HB.out | apply below_alloc | apply pw_below_drewN | apply below_drew1 | refine below_set ?_ GE228.out | refine below_set ?_ GE229.out) | exact HB.out)) hb); clear BK228; clear BK229; clear HB; have BK228 := n0_; have BK229 := n1_; have HB := n2_; clear n0_ n1_ n2_; (try clear hb); (try clear hb2); (try clear hk); (try clear hi)))
  go_ret
  exact ⟨by first | rfl | (simp [errW_none, errW_some] <;> rfl) | (simp [*, errW_none, errW_some] <;> rfl), by repeat (first | (with_reducible first | exact HB.out | apply below_alloc | apply pw_below_drewN | apply below_drew1 | refine below_set ?_ GE228.out | refine below_set ?_ GE229.out) | exact HB.out)⟩

end Go.Proofs.YtpbboooeahmgpaaDoor.P


namespace Go.Proofs.YtpbboooeahmgpaaDoor.P
open Go.RowKit Go.Proofs.YtpbboooeahmgpaaDoorW.PrintWords Go.Proofs.YtpbboooeahmgpaaDoorW.PrintLast Go.Proofs.YtpbboooeahmgpaaDoorW.PrintMore
attribute [local go_sem] max2_int min2_int max_two min_two max_three min_three max_four min_four   -- for this text's walks alone
set_option linter.unusedVariables false
set_option linter.unusedSimpArgs false

def impl_inConflict.f (a0_0 : Int) (a0_1 : Int) (a0_2 : Int) (a0_3 : Int) (a0_4 : Bool) (a0_5 : Int) (a0_6 : Int) (a1_0 : Int) (a1_1 : Int) (a1_2 : Int) (a1_3 : Int) (a1_4 : Bool) (a1_5 : Int) (a1_6 : Int) : Option (Bool) := if a0_4 = true then ((impl_areShared.f a0_0 a0_1 a0_2 a0_3 a1_0 a1_1 a1_2 a1_3).bind fun t234 => (if t234 = true then (some (decide ((mx a0_5 a1_5) < (mn a0_6 a1_6)))) else (some false))) else (if a1_4 = true then ((impl_areShared.f a0_0 a0_1 a0_2 a0_3 a1_0 a1_1 a1_2 a1_3).bind fun t235 => (if t235 = true then (some (decide ((mx a0_5 a1_5) < (mn a0_6 a1_6)))) else (some false))) else (some false))
set_option maxHeartbeats 8000000 in
set_option maxRecDepth 100000 in
theorem impl_inConflict.calls (a0_0 : Int) (a0_1 : Int) (a0_2 : Int) (a0_3 : Int) (a0_4 : Bool) (a0_5 : Int) (a0_6 : Int) (a1_0 : Int) (a1_1 : Int) (a1_2 : Int) (a1_3 : Int) (a1_4 : Bool) (a1_5 : Int) (a1_6 : Int) (r : Bool) (w : World) (h : impl_inConflict.f a0_0 a0_1 a0_2 a0_3 a0_4 a0_5 a0_6 a1_0 a1_1 a1_2 a1_3 a1_4 a1_5 a1_6 = some r) :
    Calls Tryd.prog 61 #[.agg #[.int .i64 a0_0, .int .i64 a0_1, .int .i64 a0_2, .int .i64 a0_3, .bool a0_4, .int .i64 a0_5, .int .i64 a0_6], .agg #[.int .i64 a1_0, .int .i64 a1_1, .int .i64 a1_2, .int .i64 a1_3, .bool a1_4, .int .i64 a1_5, .int .i64 a1_6]] w fun e w' => e = .returned (.bool r) ∧ Below w.heap.size w w' := by
  have hu59 := Tryd.underlying59
  have hu57 := Tryd.underlying57
  have HB := Aside0.mk (Below.refl w.heap.size w)
  have H : (if a0_4 = true then ((impl_areShared.f a0_0 a0_1 a0_2 a0_3 a1_0 a1_1 a1_2 a1_3).bind fun t234 => (if t234 = true then (some (decide ((mx a0_5 a1_5) < (mn a0_6 a1_6)))) else (some false))) else (if a1_4 = true then ((impl_areShared.f a0_0 a0_1 a0_2 a0_3 a1_0 a1_1 a1_2 a1_3).bind fun t235 => (if t235 = true then (some (decide ((mx a0_5 a1_5) < (mn a0_6 a1_6)))) else (some false))) else (some false))) = some r := h
  clear h
  by_cases c3 : a0_4 = true
  · subst c3
    have H1 : ((impl_areShared.f a0_0 a0_1 a0_2 a0_3 a1_0 a1_1 a1_2 a1_3).bind fun t234 => (if t234 = true then (some (decide ((mx a0_5 a1_5) < (mn a0_6 a1_6)))) else (some false))) = some r := by rw [if_pos rfl] at H; exact H
    clear H
    have H := H1
    clear H1
    replace H := Option.bind_eq_some_iff.mp H
    obtain ⟨t234, A40, H⟩ := H
    replace H : (if t234 = true then (some (decide ((mx a0_5 a1_5) < (mn a0_6 a1_6)))) else (some false)) = some r := H
    have A4 := Aside0.mk A40
    clear A40
    by_cases c5 : t234 = true
    · subst c5
      have H1 : (some (decide ((mx a0_5 a1_5) < (mn a0_6 a1_6)))) = some r := by rw [if_pos rfl] at H; exact H
      clear H
      have H := H1
      clear H1
      obtain ⟨ji6, hji6⟩ : ∃ j_ : Int, (mx a0_5 a1_5) = j_ := ⟨_, rfl⟩
      replace H : (some (decide ((ji6) < (mn a0_6 a1_6)))) = some r := by first | (rw [hji6] at H; exact H) | (simp only [hji6] at H ⊢; exact H)
      (try rw [hji6] at A4)
      have hji6_ : (if a0_5 < a1_5 then a1_5 else a0_5) = ji6 := hji6
      obtain ⟨ji7, hji7⟩ : ∃ j_ : Int, (mn a0_6 a1_6) = j_ := ⟨_, rfl⟩
      replace H : (some (decide ((ji6) < (ji7)))) = some r := by first | (rw [hji7] at H; exact H) | (simp only [hji7] at H ⊢; exact H)
      (try rw [hji7] at A4)
      have hji7_ : (if a1_6 < a0_6 then a1_6 else a0_6) = ji7 := hji7
      obtain rfl := Option.some.inj H
      go_enter Tryd.func61, Tryd.ntmps61
      go_wp2_with (first | ((with_reducible refine gate_dst (N := 2) rfl ?_); (try (refine gate_guard (by rfl) ?_; dsimp only)); refine box_event ?hg (N := 2) ?hd (cs := #[.int .i64 a0_0, .int .i64 a0_1, .int .i64 a0_2, .int .i64 a0_3, .bool true, .int .i64 a0_5, .int .i64 a0_6]) (t := 59) ?hr ?_; (case hd => rfl); (case hg => rfl); (case hr => first | (go_simp; done) | (go_simp; rfl)); intro gb232 hg w8 hbox hb; have n0_ := Aside0.mk (below_step (by repeat (first | (with_reducible first | exact HB.out | apply below_alloc | apply pw_below_drewN | apply below_drew1) | exact HB.out)) hb); have n1_ := Aside0.mk (hbox); have n2_ := Aside0.mk ((by rw [hg]; exact (below_size (by repeat (first | (with_reducible first | exact HB.out | apply below_alloc | apply pw_below_drewN | apply below_drew1) | exact HB.out))) : w.heap.size ≤ gb232)); have n3_ := Aside0.mk ((by rw [hg]; exact (below_size (by repeat (first | (with_reducible first | exact HB.out | apply below_alloc | apply pw_below_drewN | apply below_drew1) | exact HB.out))) : w.heap.size ≤ gb232)); clear HB; have HB := n0_; have BK232 := n1_; have GW232 := n2_; have GE232 := n3_; clear n0_ n1_ n2_ n3_; clear hb hbox hg) | ((with_reducible refine gate_dst (N := 3) rfl ?_); (try (refine gate_guard (by rfl) ?_; dsimp only)); refine box_event ?hg (N := 3) ?hd (cs := #[.int .i64 a1_0, .int .i64 a1_1, .int .i64 a1_2, .int .i64 a1_3, .bool a1_4, .int .i64 a1_5, .int .i64 a1_6]) (t := 59) ?hr ?_; (case hd => rfl); (case hg => rfl); (case hr => first | (go_simp; done) | (go_simp; rfl)); intro gb233 hg w9 hbox hb; have n0_ := Aside0.mk (blk_below (g := gb232) (o := .cells #[.int .i64 a0_0, .int .i64 a0_1, .int .i64 a0_2, .int .i64 a0_3, .bool true, .int .i64 a0_5, .int .i64 a0_6] 59 (0, 0)) (by (with_reducible repeat (first | refine blk_drewN ?_ _ | refine blk_drew ?_ | refine blk_alloc ?_ _)); exact BK232.out) hb); have n1_ := Aside0.mk (below_step (by repeat (first | (with_reducible first | exact HB.out | apply below_alloc | apply pw_below_drewN | apply below_drew1 | refine below_set ?_ GE232.out) | exact HB.out)) hb); have n2_ := Aside0.mk (hbox); have n3_ := Aside0.mk ((by rw [hg]; exact (below_size (by repeat (first | (with_reducible first | exact HB.out | apply below_alloc | apply pw_below_drewN | apply below_drew1 | refine below_set ?_ GE232.out) | exact HB.out))) : w.heap.size ≤ gb233)); have n4_ := Aside0.mk ((by rw [hg]; exact (below_size (by repeat (first | (with_reducible first | exact HB.out | apply below_alloc | apply pw_below_drewN | apply below_drew1 | refine below_set ?_ GE232.out) | exact HB.out))) : w.heap.size ≤ gb233)); have n5_ := Aside0.mk ((by rw [hg]; exact Nat.ne_of_lt (blk_lt (g := gb232) (o := .cells #[.int .i64 a0_0, .int .i64 a0_1, .int .i64 a0_2, .int .i64 a0_3, .bool true, .int .i64 a0_5, .int .i64 a0_6] 59 (0, 0)) (by (with_reducible repeat (first | refine blk_drewN ?_ _ | refine blk_drew ?_ | refine blk_alloc ?_ _)); exact BK232.out)) : gb232 ≠ gb233)); have n6_ := Aside0.mk ((by rw [hg]; exact Nat.ne_of_gt (blk_lt (g := gb232) (o := .cells #[.int .i64 a0_0, .int .i64 a0_1, .int .i64 a0_2, .int .i64 a0_3, .bool true, .int .i64 a0_5, .int .i64 a0_6] 59 (0, 0)) (by (with_reducible repeat (first | refine blk_drewN ?_ _ | refine blk_drew ?_ | refine blk_alloc ?_ _)); exact BK232.out)) : gb233 ≠ gb232)); clear BK232; clear HB; have BK232 := n0_; have HB := n1_; have BK233 := n2_; have GW233 := n3_; have GE233 := n4_; have NB232_233 := n5_; have NB233_232 := n6_; clear n0_ n1_ n2_ n3_ n4_ n5_ n6_; clear hb hbox hg; have hnb10 := NB232_233.out; have hnc10 := NB233_232.out; have hcz11_0 : w9.cell? ⟨gb232, 0, none⟩ = some (.int .i64 a0_0) := (blk_cell BK232.out 0).trans rfl; have hcz11_1 : w9.cell? ⟨gb232, 1, none⟩ = some (.int .i64 a0_1) := (blk_cell BK232.out 1).trans rfl; have hcz11_2 : w9.cell? ⟨gb232, 2, none⟩ = some (.int .i64 a0_2) := (blk_cell BK232.out 2).trans rfl; have hcz11_3 : w9.cell? ⟨gb232, 3, none⟩ = some (.int .i64 a0_3) := (blk_cell BK232.out 3).trans rfl; have hcz11_4 : w9.cell? ⟨gb232, 4, none⟩ = some (.bool true) := (blk_cell BK232.out 4).trans rfl; have hcz11_5 : w9.cell? ⟨gb232, 5, none⟩ = some (.int .i64 a0_5) := (blk_cell BK232.out 5).trans rfl; have hcz11_6 : w9.cell? ⟨gb232, 6, none⟩ = some (.int .i64 a0_6) := (blk_cell BK232.out 6).trans rfl; have hfz11_0 := blk_frozen BK232.out 0; have hfz11_1 := blk_frozen BK232.out 1; have hfz11_2 := blk_frozen BK232.out 2; have hfz11_3 := blk_frozen BK232.out 3; have hfz11_4 := blk_frozen BK232.out 4; have hfz11_5 := blk_frozen BK232.out 5; have hfz11_6 := blk_frozen BK232.out 6; have hcz12_0 : w9.cell? ⟨gb233, 0, none⟩ = some (.int .i64 a1_0) := (blk_cell BK233.out 0).trans rfl; have hcz12_1 : w9.cell? ⟨gb233, 1, none⟩ = some (.int .i64 a1_1) := (blk_cell BK233.out 1).trans rfl; have hcz12_2 : w9.cell? ⟨gb233, 2, none⟩ = some (.int .i64 a1_2) := (blk_cell BK233.out 2).trans rfl; have hcz12_3 : w9.cell? ⟨gb233, 3, none⟩ = some (.int .i64 a1_3) := (blk_cell BK233.out 3).trans rfl; have hcz12_4 : w9.cell? ⟨gb233, 4, none⟩ = some (.bool a1_4) := (blk_cell BK233.out 4).trans rfl; have hcz12_5 : w9.cell? ⟨gb233, 5, none⟩ = some (.int .i64 a1_5) := (blk_cell BK233.out 5).trans rfl; have hcz12_6 : w9.cell? ⟨gb233, 6, none⟩ = some (.int .i64 a1_6) := (blk_cell BK233.out 6).trans rfl; have hfz12_0 := blk_frozen BK233.out 0; have hfz12_1 := blk_frozen BK233.out 1; have hfz12_2 := blk_frozen BK233.out 2; have hfz12_3 := blk_frozen BK233.out 3; have hfz12_4 := blk_frozen BK233.out 4; have hfz12_5 := blk_frozen BK233.out 5; have hfz12_6 := blk_frozen BK233.out 6) | (go_at_call 64; (with_reducible refine (impl_areShared.calls a0_0 a0_1 a0_2 a0_3 a1_0 a1_1 a1_2 a1_3 true _ A4.out).mono ?_); rintro e w13 ⟨rfl, hb⟩; have n0_ := Aside0.mk (blk_below (g := gb232) (o := .cells #[.int .i64 a0_0, .int .i64 a0_1, .int .i64 a0_2, .int .i64 a0_3, .bool true, .int .i64 a0_5, .int .i64 a0_6] 59 (0, 0)) (by (with_reducible repeat (first | refine blk_drewN ?_ _ | refine blk_drew ?_ | refine blk_alloc ?_ _)); exact BK232.out) hb); have n1_ := Aside0.mk (blk_below (g := gb233) (o := .cells #[.int .i64 a1_0, .int .i64 a1_1, .int .i64 a1_2, .int .i64 a1_3, .bool a1_4, .int .i64 a1_5, .int .i64 a1_6] 59 (0, 0)) (by (with_reducible repeat (first | refine blk_drewN ?_ _ | refine blk_drew ?_ | refine blk_alloc ?_ _)); exact BK233.out) hb); have n2_ := Aside0.mk (below_step (by repeat (first | (with_reducible first | exact HB.out | apply below_alloc | apply pw_below_drewN | apply below_drew1 | refine below_set ?_ GE232.out | refine below_set ?_ GE233.out) | exact HB.out)) hb); clear BK232; clear BK233; clear HB; have BK232 := n0_; have BK233 := n1_; have HB := n2_; clear n0_ n1_ n2_; (try clear hb); (try clear hb2); (try clear hk); (try clear hi); have hcz14_0 : w13.cell? ⟨gb232, 0, none⟩ = some (.int .i64 a0_0) := (blk_cell BK232.out 0).trans rfl; have hcz14_1 : w13.cell? ⟨gb232, 1, none⟩ = some (.int .i64 a0_1) := (blk_cell BK232.out 1).trans rfl; have hcz14_2 : w13.cell? ⟨gb232, 2, none⟩ = some (.int .i64 a0_2) := (blk_cell BK232.out 2).trans rfl; have hcz14_3 : w13.cell? ⟨gb232, 3, none⟩ = some (.int .i64 a0_3) := (blk_cell BK232.out 3).trans rfl; have hcz14_4 : w13.cell? ⟨gb232, 4, none⟩ = some (.bool true) := (blk_cell BK232.out 4).trans rfl; have hcz14_5 : w13.cell? ⟨gb232, 5, none⟩ = some (.int .i64 a0_5) := (blk_cell BK232.out 5).trans rfl; have hcz14_6 : w13.cell? ⟨gb232, 6, none⟩ = some (.int .i64 a0_6) := (blk_cell BK232.out 6).trans rfl; have hfz14_0 := blk_frozen BK232.out 0; have hfz14_1 := blk_frozen BK232.out 1; have hfz14_2 := blk_frozen BK232.out 2; have hfz14_3 := blk_frozen BK232.out 3; have hfz14_4 := blk_frozen BK232.out 4; have hfz14_5 := blk_frozen BK232.out 5; have hfz14_6 := blk_frozen BK232.out 6; have hcz15_0 : w13.cell? ⟨gb233, 0, none⟩ = some (.int .i64 a1_0) := (blk_cell BK233.out 0).trans rfl; have hcz15_1 : w13.cell? ⟨gb233, 1, none⟩ = some (.int .i64 a1_1) := (blk_cell BK233.out 1).trans rfl; have hcz15_2 : w13.cell? ⟨gb233, 2, none⟩ = some (.int .i64 a1_2) := (blk_cell BK233.out 2).trans rfl; have hcz15_3 : w13.cell? ⟨gb233, 3, none⟩ = some (.int .i64 a1_3) := (blk_cell BK233.out 3).trans rfl; have hcz15_4 : w13.cell? ⟨gb233, 4, none⟩ = some (.bool a1_4) := (blk_cell BK233.out 4).trans rfl; have hcz15_5 : w13.cell? ⟨gb233, 5, none⟩ = some (.int .i64 a1_5) := (blk_cell BK233.out 5).trans rfl; have hcz15_6 : w13.cell? ⟨gb233, 6, none⟩ = some (.int .i64 a1_6) := (blk_cell BK233.out 6).trans rfl; have hfz15_0 := blk_frozen BK233.out 0; have hfz15_1 := blk_frozen BK233.out 1; have hfz15_2 := blk_frozen BK233.out 2; have hfz15_3 := blk_frozen BK233.out 3; have hfz15_4 := blk_frozen BK233.out 4; have hfz15_5 := blk_frozen BK233.out 5; have hfz15_6 := blk_frozen BK233.out 6))
      go_ret
      exact ⟨by first | rfl | (simp [errW_none, errW_some] <;> rfl) | (simp only [← hji6, ← hji7]; first | rfl | (simp [errW_none, errW_some] <;> rfl)) | (simp [*, errW_none, errW_some] <;> rfl), by repeat (first | (with_reducible first | exact HB.out | apply below_alloc | apply pw_below_drewN | apply below_drew1 | refine below_set ?_ GE232.out | refine below_set ?_ GE233.out) | exact HB.out)⟩
    · replace c5 := Bool.eq_false_iff.mpr c5
      subst c5
      have H1 : (some false) = some r := by rw [if_neg (show ¬ (false = true) by decide)] at H; exact H
      clear H
      have H := H1
      clear H1
      obtain rfl := Option.some.inj H
      go_enter Tryd.func61, Tryd.ntmps61
      go_wp2_with (first | ((with_reducible refine gate_dst (N := 2) rfl ?_); (try (refine gate_guard (by rfl) ?_; dsimp only)); refine box_event ?hg (N := 2) ?hd (cs := #[.int .i64 a0_0, .int .i64 a0_1, .int .i64 a0_2, .int .i64 a0_3, .bool true, .int .i64 a0_5, .int .i64 a0_6]) (t := 59) ?hr ?_; (case hd => rfl); (case hg => rfl); (case hr => first | (go_simp; done) | (go_simp; rfl)); intro gb232 hg w16 hbox hb; have n0_ := Aside0.mk (below_step (by repeat (first | (with_reducible first | exact HB.out | apply below_alloc | apply pw_below_drewN | apply below_drew1) | exact HB.out)) hb); have n1_ := Aside0.mk (hbox); have n2_ := Aside0.mk ((by rw [hg]; exact (below_size (by repeat (first | (with_reducible first | exact HB.out | apply below_alloc | apply pw_below_drewN | apply below_drew1) | exact HB.out))) : w.heap.size ≤ gb232)); have n3_ := Aside0.mk ((by rw [hg]; exact (below_size (by repeat (first | (with_reducible first | exact HB.out | apply below_alloc | apply pw_below_drewN | apply below_drew1) | exact HB.out))) : w.heap.size ≤ gb232)); clear HB; have HB := n0_; have BK232 := n1_; have GW232 := n2_; have GE232 := n3_; clear n0_ n1_ n2_ n3_; clear hb hbox hg) | ((with_reducible refine gate_dst (N := 3) rfl ?_); (try (refine gate_guard (by rfl) ?_; dsimp only)); refine box_event ?hg (N := 3) ?hd (cs := #[.int .i64 a1_0, .int .i64 a1_1, .int .i64 a1_2, .int .i64 a1_3, .bool a1_4, .int .i64 a1_5, .int .i64 a1_6]) (t := 59) ?hr ?_; (case hd => rfl); (case hg => rfl); (case hr => first | (go_simp; done) | (go_simp; rfl)); intro gb233 hg w17 hbox hb; have n0_ := Aside0.mk (blk_below (g := gb232) (o := .cells #[.int .i64 a0_0, .int .i64 a0_1, .int .i64 a0_2, .int .i64 a0_3, .bool true, .int .i64 a0_5, .int .i64 a0_6] 59 (0, 0)) (by (with_reducible repeat (first | refine blk_drewN ?_ _ | refine blk_drew ?_ | refine blk_alloc ?_ _)); exact BK232.out) hb); have n1_ := Aside0.mk (below_step (by repeat (first | (with_reducible first | exact HB.out | apply below_alloc | apply pw_below_drewN | apply below_drew1 | refine below_set ?_ GE232.out) | exact HB.out)) hb); have n2_ := Aside0.mk (hbox); have n3_ := Aside0.mk ((by rw [hg]; exact (below_size (by repeat (first | (with_reducible first | exact HB.out | apply below_alloc | apply pw_below_drewN | apply below_drew1 | refine below_set ?_ GE232.out) | exact HB.out))) : w.heap.size ≤ gb233)); have n4_ := Aside0.mk ((by rw [hg]; exact (below_size (by repeat (first | (with_reducible first | exact HB.out | apply below_alloc | apply pw_below_drewN | apply below_drew1 | refine below_set ?_ GE232.out) | exact HB.out))) : w.heap.size ≤ gb233)); have n5_ := Aside0.mk ((by rw [hg]; exact Nat.ne_of_lt (blk_lt (g := gb232) (o := .cells #[.int .i64 a0_0, .int .i64 a0_1, .int .i64 a0_2, .int .i64 a0_3, .bool true, .int .i64 a0_5, .int .i64 a0_6] 59 (0, 0)) (by (with_reducible repeat (first | refine blk_drewN ?_ _ | refine blk_drew ?_ | refine blk_alloc ?_ _)); exact BK232.out)) : gb232 ≠ gb233)); have n6_ := Aside0.mk ((by rw [hg]; exact Nat.ne_of_gt (blk_lt (g := gb232) (o := .cells #[.int .i64 a0_0, .int .i64 a0_1, .int .i64 a0_2, .int .i64 a0_3, .bool true, .int .i64 a0_5, .int .i64 a0_6] 59 (0, 0)) (by (with_reducible repeat (first | refine blk_drewN ?_ _ | refine blk_drew ?_ | refine blk_alloc ?_ _)); exact BK232.out)) : gb233 ≠ gb232)); clear BK232; clear HB; have BK232 := n0_; have HB := n1_; have BK233 := n2_; have GW233 := n3_; have GE233 := n4_; have NB232_233 := n5_; have NB233_232 := n6_; clear n0_ n1_ n2_ n3_ n4_ n5_ n6_; clear hb hbox hg; have hnb18 := NB232_233.out; have hnc18 := NB233_232.out; have hcz19_0 : w17.cell? ⟨gb232, 0, none⟩ = some (.int .i64 a0_0) := (blk_cell BK232.out 0).trans rfl; have hcz19_1 : w17.cell? ⟨gb232, 1, none⟩ = some (.int .i64 a0_1) := (blk_cell BK232.out 1).trans rfl; have hcz19_2 : w17.cell? ⟨gb232, 2, none⟩ = some (.int .i64 a0_2) := (blk_cell BK232.out 2).trans rfl; have hcz19_3 : w17.cell? ⟨gb232, 3, none⟩ = some (.int .i64 a0_3) := (blk_cell BK232.out 3).trans rfl; have hcz19_4 : w17.cell? ⟨gb232, 4, none⟩ = some (.bool true) := (blk_cell BK232.out 4).trans rfl; have hcz19_5 : w17.cell? ⟨gb232, 5, none⟩ = some (.int .i64 a0_5) := (blk_cell BK232.out 5).trans rfl; have hcz19_6 : w17.cell? ⟨gb232, 6, none⟩ = some (.int .i64 a0_6) := (blk_cell BK232.out 6).trans rfl; have hfz19_0 := blk_frozen BK232.out 0; have hfz19_1 := blk_frozen BK232.out 1; have hfz19_2 := blk_frozen BK232.out 2; have hfz19_3 := blk_frozen BK232.out 3; have hfz19_4 := blk_frozen BK232.out 4; have hfz19_5 := blk_frozen BK232.out 5; have hfz19_6 := blk_frozen BK232.out 6; have hcz20_0 : w17.cell? ⟨gb233, 0, none⟩ = some (.int .i64 a1_0) := (blk_cell BK233.out 0).trans rfl; have hcz20_1 : w17.cell? ⟨gb233, 1, none⟩ = some (.int .i64 a1_1) := (blk_cell BK233.out 1).trans rfl; have hcz20_2 : w17.cell? ⟨gb233, 2, none⟩ = some (.int .i64 a1_2) := (blk_cell BK233.out 2).trans rfl; have hcz20_3 : w17.cell? ⟨gb233, 3, none⟩ = some (.int .i64 a1_3) := (blk_cell BK233.out 3).trans rfl; have hcz20_4 : w17.cell? ⟨gb233, 4, none⟩ = some (.bool a1_4) := (blk_cell BK233.out 4).trans rfl; have hcz20_5 : w17.cell? ⟨gb233, 5, none⟩ = some (.int .i64 a1_5) := (blk_cell BK233.out 5).trans rfl; have hcz20_6 : w17.cell? ⟨gb233, 6, none⟩ = some (.int .i64 a1_6) := (blk_cell BK233.out 6).trans rfl; have hfz20_0 := blk_frozen BK233.out 0; have hfz20_1 := blk_frozen BK233.out 1; have hfz20_2 := blk_frozen BK233.out 2; have hfz20_3 := blk_frozen BK233.out 3; have hfz20_4 := blk_frozen BK233.out 4; have hfz20_5 := blk_frozen BK233.out 5; have hfz20_6 := blk_frozen BK233.out 6) | (go_at_call 64; (with_reducible refine (impl_areShared.calls a0_0 a0_1 a0_2 a0_3 a1_0 a1_1 a1_2 a1_3 false _ A4.out).mono ?_); rintro e w21 ⟨rfl, hb⟩; have n0_ := Aside0.mk (blk_below (g := gb232) (o := .cells #[.int .i64 a0_0, .int .i64 a0_1, .int .i64 a0_2, .int .i64 a0_3, .bool true, .int .i64 a0_5, .int .i64 a0_6] 59 (0, 0)) (by (with_reducible repeat (first | refine blk_drewN ?_ _ | refine blk_drew ?_ | refine blk_alloc ?_ _)); exact BK232.out) hb); have n1_ := Aside0.mk (blk_below (g := gb233) (o := .cells #[.int .i64 a1_0, .int .i64 a1_1, .int .i64 a1_2, .int .i64 a1_3, .bool a1_4, .int .i64 a1_5, .int .i64 a1_6] 59 (0, 0)) (by (with_reducible repeat (first | refine blk_drewN ?_ _ | refine blk_drew ?_ | refine blk_alloc ?_ _)); exact BK233.out) hb); have n2_ := Aside0.mk (below_step (by repeat (first | (with_reducible first | exact HB.out | apply below_alloc | apply pw_below_drewN | apply below_drew1 | refine below_set ?_ GE232.out | refine below_set ?_ GE233.out) | exact HB.out)) hb); clear BK232; clear BK233; clear HB; have BK232 := n0_; have BK233 := n1_; have HB := n2_; clear n0_ n1_ n2_; (try clear hb); (try clear hb2); (try clear hk); (try clear hi)))
      go_ret
      exact ⟨by first | rfl | (simp [errW_none, errW_some] <;> rfl) | (simp [*, errW_none, errW_some] <;> rfl), by repeat (first | (with_reducible first | exact HB.out | apply below_alloc | apply pw_below_drewN | apply below_drew1 | refine below_set ?_ GE232.out | refine below_set ?_ GE233.out) | exact HB.out)⟩
  · replace c3 := Bool.eq_false_iff.mpr c3
    subst c3
    have H1 : (if a1_4 = true then ((impl_areShared.f a0_0 a0_1 a0_2 a0_3 a1_0 a1_1 a1_2 a1_3).bind fun t235 => (if t235 = true then (some (decide ((mx a0_5 a1_5) < (mn a0_6 a1_6)))) else (some false))) else (some false)) = some r := by rw [if_neg (show ¬ (false = true) by decide)] at H; exact H
    clear H
    have H := H1
    clear H1
    by_cases c22 : a1_4 = true
    · subst c22
      have H1 : ((impl_areShared.f a0_0 a0_1 a0_2 a0_3 a1_0 a1_1 a1_2 a1_3).bind fun t235 => (if t235 = true then (some (decide ((mx a0_5 a1_5) < (mn a0_6 a1_6)))) else (some false))) = some r := by rw [if_pos rfl] at H; exact H
      clear H
      have H := H1
      clear H1
      replace H := Option.bind_eq_some_iff.mp H
      obtain ⟨t235, A230, H⟩ := H
      replace H : (if t235 = true then (some (decide ((mx a0_5 a1_5) < (mn a0_6 a1_6)))) else (some false)) = some r := H
      have A23 := Aside0.mk A230
      clear A230
      by_cases c24 : t235 = true
      · subst c24
        have H1 : (some (decide ((mx a0_5 a1_5) < (mn a0_6 a1_6)))) = some r := by rw [if_pos rfl] at H; exact H
        clear H
        have H := H1
        clear H1
        obtain ⟨ji25, hji25⟩ : ∃ j_ : Int, (mx a0_5 a1_5) = j_ := ⟨_, rfl⟩
        replace H : (some (decide ((ji25) < (mn a0_6 a1_6)))) = some r := by first | (rw [hji25] at H; exact H) | (simp only [hji25] at H ⊢; exact H)
        (try rw [hji25] at A23)
        have hji25_ : (if a0_5 < a1_5 then a1_5 else a0_5) = ji25 := hji25
        obtain ⟨ji26, hji26⟩ : ∃ j_ : Int, (mn a0_6 a1_6) = j_ := ⟨_, rfl⟩
        replace H : (some (decide ((ji25) < (ji26)))) = some r := by first | (rw [hji26] at H; exact H) | (simp only [hji26] at H ⊢; exact H)
        (try rw [hji26] at A23)
        have hji26_ : (if a1_6 < a0_6 then a1_6 else a0_6) = ji26 := hji26
        obtain rfl := Option.some.inj H
        go_enter Tryd.func61, Tryd.ntmps61
        go_wp2_with (first | ((with_reducible refine gate_dst (N := 2) rfl ?_); (try (refine gate_guard (by rfl) ?_; dsimp only)); refine box_event ?hg (N := 2) ?hd (cs := #[.int .i64 a0_0, .int .i64 a0_1, .int .i64 a0_2, .int .i64 a0_3, .bool false, .int .i64 a0_5, .int .i64 a0_6]) (t := 59) ?hr ?_; (case hd => rfl); (case hg => rfl); (case hr => first | (go_simp; done) | (go_simp; rfl)); intro gb232 hg w27 hbox hb; have n0_ := Aside0.mk (below_step (by repeat (first | (with_reducible first | exact HB.out | apply below_alloc | apply pw_below_drewN | apply below_drew1) | exact HB.out)) hb); have n1_ := Aside0.mk (hbox); have n2_ := Aside0.mk ((by rw [hg]; exact (below_size (by repeat (first | (with_reducible first | exact HB.out | apply below_alloc | apply pw_below_drewN | apply below_drew1) | exact HB.out))) : w.heap.size ≤ gb232)); have n3_ := Aside0.mk ((by rw [hg]; exact (below_size (by repeat (first | (with_reducible first | exact HB.out | apply below_alloc | apply pw_below_drewN | apply below_drew1) | exact HB.out))) : w.heap.size ≤ gb232)); clear HB; have HB := n0_; have BK232 := n1_; have GW232 := n2_; have GE232 := n3_; clear n0_ n1_ n2_ n3_; clear hb hbox hg) | ((with_reducible refine gate_dst (N := 3) rfl ?_); (try (refine gate_guard (by rfl) ?_; dsimp only)); refine box_event ?hg (N := 3) ?hd (cs := #[.int .i64 a1_0, .int .i64 a1_1, .int .i64 a1_2, .int .i64 a1_3, .bool true, .int .i64 a1_5, .int .i64 a1_6]) (t := 59) ?hr ?_; (case hd => rfl); (case hg => rfl); (case hr => first | (go_simp; done) | (go_simp; rfl)); intro gb233 hg w28 hbox hb; have n0_ := Aside0.mk (blk_below (g := gb232) (o := .cells #[.int .i64 a0_0, .int .i64 a0_1, .int .i64 a0_2, .int .i64 a0_3, .bool false, .int .i64 a0_5, .int .i64 a0_6] 59 (0, 0)) (by (with_reducible repeat (first | refine blk_drewN ?_ _ | refine blk_drew ?_ | refine blk_alloc ?_ _)); exact BK232.out) hb); have n1_ := Aside0.mk (below_step (by repeat (first | (with_reducible first | exact HB.out | apply below_alloc | apply pw_below_drewN | apply below_drew1 | refine below_set ?_ GE232.out) | exact HB.out)) hb); have n2_ := Aside0.mk (hbox); have n3_ := Aside0.mk ((by rw [hg]; exact (below_size (by repeat (first | (with_reducible first | exact HB.out | apply below_alloc | apply pw_below_drewN | apply below_drew1 | refine below_set ?_ GE232.out) | exact HB.out))) : w.heap.size ≤ gb233)); have n4_ := Aside0.mk ((by rw [hg]; exact (below_size (by repeat (first | (with_reducible first | exact HB.out | apply below_alloc | apply pw_below_drewN | apply below_drew1 | refine below_set ?_ GE232.out) | exact HB.out))) : w.heap.size ≤ gb233)); have n5_ := Aside0.mk ((by rw [hg]; exact Nat.ne_of_lt (blk_lt (g := gb232) (o := .cells #[.int .i64 a0_0, .int .i64 a0_1, .int .i64 a0_2, .int .i64 a0_3, .bool false, .int .i64 a0_5, .int .i64 a0_6] 59 (0, 0)) (by (with_reducible repeat (first | refine blk_drewN ?_ _ | refine blk_drew ?_ | refine blk_alloc ?_ _)); exact BK232.out)) : gb232 ≠ gb233)); have n6_ := Aside0.mk ((by rw [hg]; exact Nat.ne_of_gt (blk_lt (g := gb232) (o := .cells #[.int .i64 a0_0, .int .i64 a0_1, .int .i64 a0_2, .int .i64 a0_3, .bool false, .int .i64 a0_5, .int .i64 a0_6] 59 (0, 0)) (by (with_reducible repeat (first | refine blk_drewN ?_ _ | refine blk_drew ?_ | refine blk_alloc ?_ _)); exact BK232.out)) : gb233 ≠ gb232)); clear BK232; clear HB; have BK232 := n0_; have HB := n1_; have BK233 := n2_; have GW233 := n3_; have GE233 := n4_; have NB232_233 := n5_; have NB233_232 := n6_; clear n0_ n1_ n2_ n3_ n4_ n5_ n6_; clear hb hbox hg; have hnb29 := NB232_233.out; have hnc29 := NB233_232.out; have hcz30_0 : w28.cell? ⟨gb232, 0, none⟩ = some (.int .i64 a0_0) := (blk_cell BK232.out 0).trans rfl; have hcz30_1 : w28.cell? ⟨gb232, 1, none⟩ = some (.int .i64 a0_1) := (blk_cell BK232.out 1).trans rfl; have hcz30_2 : w28.cell? ⟨gb232, 2, none⟩ = some (.int .i64 a0_2) := (blk_cell BK232.out 2).trans rfl; have hcz30_3 : w28.cell? ⟨gb232, 3, none⟩ = some (.int .i64 a0_3) := (blk_cell BK232.out 3).trans rfl; have hcz30_4 : w28.cell? ⟨gb232, 4, none⟩ = some (.bool false) := (blk_cell BK232.out 4).trans rfl; have hcz30_5 : w28.cell? ⟨gb232, 5, none⟩ = some (.int .i64 a0_5) := (blk_cell BK232.out 5).trans rfl; have hcz30_6 : w28.cell? ⟨gb232, 6, none⟩ = some (.int .i64 a0_6) := (blk_cell BK232.out 6).trans rfl; have hfz30_0 := blk_frozen BK232.out 0; have hfz30_1 := blk_frozen BK232.out 1; have hfz30_2 := blk_frozen BK232.out 2; have hfz30_3 := blk_frozen BK232.out 3; have hfz30_4 := blk_frozen BK232.out 4; have hfz30_5 := blk_frozen BK232.out 5; have hfz30_6 := blk_frozen BK232.out 6; have hcz31_0 : w28.cell? ⟨gb233, 0, none⟩ = some (.int .i64 a1_0) := (blk_cell BK233.out 0).trans rfl; have hcz31_1 : w28.cell? ⟨gb233, 1, none⟩ = some (.int .i64 a1_1) := (blk_cell BK233.out 1).trans rfl; have hcz31_2 : w28.cell? ⟨gb233, 2, none⟩ = some (.int .i64 a1_2) := (blk_cell BK233.out 2).trans rfl; have hcz31_3 : w28.cell? ⟨gb233, 3, none⟩ = some (.int .i64 a1_3) := (blk_cell BK233.out 3).trans rfl; have hcz31_4 : w28.cell? ⟨gb233, 4, none⟩ = some (.bool true) := (blk_cell BK233.out 4).trans rfl; have hcz31_5 : w28.cell? ⟨gb233, 5, none⟩ = some (.int .i64 a1_5) := (blk_cell BK233.out 5).trans rfl; have hcz31_6 : w28.cell? ⟨gb233, 6, none⟩ = some (.int .i64 a1_6) := (blk_cell BK233.out 6).trans rfl; have hfz31_0 := blk_frozen BK233.out 0; have hfz31_1 := blk_frozen BK233.out 1; have hfz31_2 := blk_frozen BK233.out 2; have hfz31_3 := blk_frozen BK233.out 3; have hfz31_4 := blk_frozen BK233.out 4; have hfz31_5 := blk_frozen BK233.out 5; have hfz31_6 := blk_frozen BK233.out 6) | (go_at_call 64; (with_reducible refine (impl_areShared.calls a0_0 a0_1 a0_2 a0_3 a1_0 a1_1 a1_2 a1_3 true _ A23.out).mono ?_); rintro e w32 ⟨rfl, hb⟩; have n0_ := Aside0.mk (blk_below (g := gb232) (o := .cells #[.int .i64 a0_0, .int .i64 a0_1, .int .i64 a0_2, .int .i64 a0_3, .bool false, .int .i64 a0_5, .int .i64 a0_6] 59 (0, 0)) (by (with_reducible repeat (first | refine blk_drewN ?_ _ | refine blk_drew ?_ | refine blk_alloc ?_ _)); exact BK232.out) hb); have n1_ := Aside0.mk (blk_below (g := gb233) (o := .cells #[.int .i64 a1_0, .int .i64 a1_1, .int .i64 a1_2, .int .i64 a1_3, .bool true, .int .i64 a1_5, .int .i64 a1_6] 59 (0, 0)) (by (with_reducible repeat (first | refine blk_drewN ?_ _ | refine blk_drew ?_ | refine blk_alloc ?_ _)); exact BK233.out) hb); have n2_ := Aside0.mk (below_step (by repeat (first | (with_reducible first | exact HB.out | apply below_alloc | apply pw_below_drewN | apply below_drew1 | refine below_set ?_ GE232.out | refine below_set ?_ GE233.out) | exact HB.out)) hb); clear BK232; clear BK233; clear HB; have BK232 := n0_; have BK233 := n1_; have HB := n2_; clear n0_ n1_ n2_; (try clear hb); (try clear hb2); (try clear hk); (try clear hi); have hcz33_0 : w32.cell? ⟨gb232, 0, none⟩ = some (.int .i64 a0_0) := (blk_cell BK232.out 0).trans rfl; have hcz33_1 : w32.cell? ⟨gb232, 1, none⟩ = some (.int .i64 a0_1) := (blk_cell BK232.out 1).trans rfl; have hcz33_2 : w32.cell? ⟨gb232, 2, none⟩ = some (.int .i64 a0_2) := (blk_cell BK232.out 2).trans rfl; have hcz33_3 : w32.cell? ⟨gb232, 3, none⟩ = some (.int .i64 a0_3) := (blk_cell BK232.out 3).trans rfl; have hcz33_4 : w32.cell? ⟨gb232, 4, none⟩ = some (.bool false) := (blk_cell BK232.out 4).trans rfl; have hcz33_5 : w32.cell? ⟨gb232, 5, none⟩ = some (.int .i64 a0_5) := (blk_cell BK232.out 5).trans rfl; have hcz33_6 : w32.cell? ⟨gb232, 6, none⟩ = some (.int .i64 a0_6) := (blk_cell BK232.out 6).trans rfl; have hfz33_0 := blk_frozen BK232.out 0; have hfz33_1 := blk_frozen BK232.out 1; have hfz33_2 := blk_frozen BK232.out 2; have hfz33_3 := blk_frozen BK232.out 3; have hfz33_4 := blk_frozen BK232.out 4; have hfz33_5 := blk_frozen BK232.out 5; have hfz33_6 := blk_frozen BK232.out 6; have hcz34_0 : w32.cell? ⟨gb233, 0, none⟩ = some (.int .i64 a1_0) := (blk_cell BK233.out 0).trans rfl; have hcz34_1 : w32.cell? ⟨gb233, 1, none⟩ = some (.int .i64 a1_1) := (blk_cell BK233.out 1).trans rfl; have hcz34_2 : w32.cell? ⟨gb233, 2, none⟩ = some (.int .i64 a1_2) := (blk_cell BK233.out 2).trans rfl; have hcz34_3 : w32.cell? ⟨gb233, 3, none⟩ = some (.int .i64 a1_3) := (blk_cell BK233.out 3).trans rfl; have hcz34_4 : w32.cell? ⟨gb233, 4, none⟩ = some (.bool true) := (blk_cell BK233.out 4).trans rfl; have hcz34_5 : w32.cell? ⟨gb233, 5, none⟩ = some (.int .i64 a1_5) := (blk_cell BK233.out 5).trans rfl; have hcz34_6 : w32.cell? ⟨gb233, 6, none⟩ = some (.int .i64 a1_6) := (blk_cell BK233.out 6).trans rfl; have hfz34_0 := blk_frozen BK233.out 0; have hfz34_1 := blk_frozen BK233.out 1; have hfz34_2 := blk_frozen BK233.out 2; have hfz34_3 := blk_frozen BK233.out 3; have hfz34_4 := blk_frozen BK233.out 4; have hfz34_5 := blk_frozen BK233.out 5; have hfz34_6 := blk_frozen BK233.out 6))
        go_ret
        exact ⟨by first | rfl | (simp [errW_none, errW_some] <;> rfl) | (simp only [← hji25, ← hji26]; first | rfl | (simp [errW_none, errW_some] <;> rfl)) | (simp [*, errW_none, errW_some] <;> rfl), by repeat (first | (with_reducible first | exact HB.out | apply below_alloc | apply pw_below_drewN | apply below_drew1 | refine below_set ?_ GE232.out | refine below_set ?_ GE233.out) | exact HB.out)⟩
      · replace c24 := Bool.eq_false_iff.mpr c24
        subst c24
        have H1 : (some false) = some r := by rw [if_neg (show ¬ (false = true) by decide)] at H; exact H
        clear H
        have H := H1
        clear H1
        obtain rfl := Option.some.inj H
        go_enter Tryd.func61, Tryd.ntmps61
        go_wp2_with (first | ((with_reducible refine gate_dst (N := 2) rfl ?_); (try (refine gate_guard (by rfl) ?_; dsimp only)); refine box_event ?hg (N := 2) ?hd (cs := #[.int .i64 a0_0, .int .i64 a0_1, .int .i64 a0_2, .int .i64 a0_3, .bool false, .int .i64 a0_5, .int .i64 a0_6]) (t := 59) ?hr ?_; (case hd => rfl); (case hg => rfl); (case hr => first | (go_simp; done) | (go_simp; rfl)); intro gb232 hg w35 hbox hb; have n0_ := Aside0.mk (below_step (by repeat (first | (with_reducible first | exact HB.out | apply below_alloc | apply pw_below_drewN | apply below_drew1) | exact HB.out)) hb); have n1_ := Aside0.mk (hbox); have n2_ := Aside0.mk ((by rw [hg]; exact (below_size (by repeat (first | (with_reducible first | exact HB.out | apply below_alloc | apply pw_below_drewN | apply below_drew1) | exact HB.out))) : w.heap.size ≤ gb232)); have n3_ := Aside0.mk ((by rw [hg]; exact (below_size (by repeat (first | (with_reducible first | exact HB.out | apply below_alloc | apply pw_below_drewN | apply below_drew1) | exact HB.out))) : w.heap.size ≤ gb232)); clear HB; have HB := n0_; have BK232 := n1_; have GW232 := n2_; have GE232 := n3_; clear n0_ n1_ n2_ n3_; clear hb hbox hg) | ((with_reducible refine gate_dst (N := 3) rfl ?_); (try (refine gate_guard (by rfl) ?_; dsimp only)); refine box_event ?hg (N := 3) ?hd (cs := #[.int .i64 a1_0, .int .i64 a1_1, .int .i64 a1_2, .int .i64 a1_3, .bool true, .int .i64 a1_5, .int .i64 a1_6]) (t := 59) ?hr ?_; (case hd => rfl); (case hg => rfl); (case hr => first | (go_simp; done) | (go_simp; rfl)); intro gb233 hg w36 hbox hb; have n0_ := Aside0.mk (blk_below (g := gb232) (o := .cells #[.int .i64 a0_0, .int .i64 a0_1, .int .i64 a0_2, .int .i64 a0_3, .bool false, .int .i64 a0_5, .int .i64 a0_6] 59 (0, 0)) (by (with_reducible repeat (first | refine blk_drewN ?_ _ | refine blk_drew ?_ | refine blk_alloc ?_ _)); exact BK232.out) hb); have n1_ := Aside0.mk (below_step (by repeat (first | (with_reducible first | exact HB.out | apply below_alloc | apply pw_below_drewN | apply below_drew1 | refine below_set ?_ GE232.out) | exact HB.out)) hb); have n2_ := Aside0.mk (hbox); have n3_ := Aside0.mk ((by rw [hg]; exact (below_size (by repeat (first | (with_reducible first | exact HB.out | apply below_alloc | apply pw_below_drewN | apply below_drew1 | refine below_set ?_ GE232.out) | exact HB.out))) : w.heap.size ≤ gb233)); have n4_ := Aside0.mk ((by rw [hg]; exact (below_size (by repeat (first | (with_reducible first | exact HB.out | apply below_alloc | apply pw_below_drewN | apply below_drew1 | refine below_set ?_ GE232.out) | exact HB.out))) : w.heap.size ≤ gb233)); have n5_ := Aside0.mk ((by rw [hg]; exact Nat.ne_of_lt (blk_lt (g := gb232) (o := .cells #[.int .i64 a0_0, .int .i64 a0_1, .int .i64 a0_2, .int .i64 a0_3, .bool false, .int .i64 a0_5, .int .i64 a0_6] 59 (0, 0)) (by (with_reducible repeat (first | refine blk_drewN ?_ _ | refine blk_drew ?_ | refine blk_alloc ?_ _)); exact BK232.out)) : gb232 ≠ gb233)); have n6_ := Aside0.mk ((by rw [hg]; exact Nat.ne_of_gt (blk_lt (g := gb232) (o := .cells #[.int .i64 a0_0, .int .i64 a0_1, .int .i64 a0_2, .int .i64 a0_3, .bool false, .int .i64 a0_5, .int .i64 a0_6] 59 (0, 0)) (by (with_reducible repeat (first | refine blk_drewN ?_ _ | refine blk_drew ?_ | refine blk_alloc ?_ _)); exact BK232.out)) : gb233 ≠ gb232)); clear BK232; clear HB; have BK232 := n0_; have HB := n1_; have BK233 := n2_; have GW233 := n3_; have GE233 := n4_; have NB232_233 := n5_; have NB233_232 := n6_; clear n0_ n1_ n2_ n3_ n4_ n5_ n6_; clear hb hbox hg; have hnb37 := NB232_233.out; have hnc37 := NB233_232.out; have hcz38_0 : w36.cell? ⟨gb232, 0, none⟩ = some (.int .i64 a0_0) := (blk_cell BK232.out 0).trans rfl; have hcz38_1 : w36.cell? ⟨gb232, 1, none⟩ = some (.int .i64 a0_1) := (blk_cell BK232.out 1).trans rfl; have hcz38_2 : w36.cell? ⟨gb232, 2, none⟩ = some (.int .i64 a0_2) := (blk_cell BK232.out 2).trans rfl; have hcz38_3 : w36.cell? ⟨gb232, 3, none⟩ = some (.int .i64 a0_3) := (blk_cell BK232.out 3).trans rfl; have hcz38_4 : w36.cell? ⟨gb232, 4, none⟩ = some (.bool false) := (blk_cell BK232.out 4).trans rfl; have hcz38_5 : w36.cell? ⟨gb232, 5, none⟩ = some (.int .i64 a0_5) := (blk_cell BK232.out 5).trans rfl; have hcz38_6 : w36.cell? ⟨gb232, 6, none⟩ = some (.int .i64 a0_6) := (blk_cell BK232.out 6).trans rfl; have hfz38_0 := blk_frozen BK232.out 0; have hfz38_1 := blk_frozen BK232.out 1; have hfz38_2 := blk_frozen BK232.out 2; have hfz38_3 := blk_frozen BK232.out 3; have hfz38_4 := blk_frozen BK232.out 4; have hfz38_5 := blk_frozen BK232.out 5; have hfz38_6 := blk_frozen BK232.out 6; have hcz39_0 : w36.cell? ⟨gb233, 0, none⟩ = some (.int .i64 a1_0) := (blk_cell BK233.out 0).trans rfl; have hcz39_1 : w36.cell? ⟨gb233, 1, none⟩ = some (.int .i64 a1_1) := (blk_cell BK233.out 1).trans rfl; have hcz39_2 : w36.cell? ⟨gb233, 2, none⟩ = some (.int .i64 a1_2) := (blk_cell BK233.out 2).trans rfl; have hcz39_3 : w36.cell? ⟨gb233, 3, none⟩ = some (.int .i64 a1_3) := (blk_cell BK233.out 3).trans rfl; have hcz39_4 : w36.cell? ⟨gb233, 4, none⟩ = some (.bool true) := (blk_cell BK233.out 4).trans rfl; have hcz39_5 : w36.cell? ⟨gb233, 5, none⟩ = some (.int .i64 a1_5) := (blk_cell BK233.out 5).trans rfl; have hcz39_6 : w36.cell? ⟨gb233, 6, none⟩ = some (.int .i64 a1_6) := (blk_cell BK233.out 6).trans rfl; have hfz39_0 := blk_frozen BK233.out 0; have hfz39_1 := blk_frozen BK233.out 1; have hfz39_2 := blk_frozen BK233.out 2; have hfz39_3 := blk_frozen BK233.out 3; have hfz39_4 := blk_frozen BK233.out 4; have hfz39_5 := blk_frozen BK233.out 5; have hfz39_6 := blk_frozen BK233.out 6) | (go_at_call 64; (with_reducible refine (impl_areShared.calls a0_0 a0_1 a0_2 a0_3 a1_0 a1_1 a1_2 a1_3 false _ A23.out).mono ?_); rintro e w40 ⟨rfl, hb⟩; have n0_ := Aside0.mk (blk_below (g := gb232) (o := .cells #[.int .i64 a0_0, .int .i64 a0_1, .int .i64 a0_2, .int .i64 a0_3, .bool false, .int .i64 a0_5, .int .i64 a0_6] 59 (0, 0)) (by (with_reducible repeat (first | refine blk_drewN ?_ _ | refine blk_drew ?_ | refine blk_alloc ?_ _)); exact BK232.out) hb); have n1_ := Aside0.mk (blk_below (g := gb233) (o := .cells #[.int .i64 a1_0, .int .i64 a1_1, .int .i64 a1_2, .int .i64 a1_3, .bool true, .int .i64 a1_5, .int .i64 a1_6] 59 (0, 0)) (by (with_reducible repeat (first | refine blk_drewN ?_ _ | refine blk_drew ?_ | refine blk_alloc ?_ _)); exact BK233.out) hb); have n2_ := Aside0.mk (below_step (by repeat (first | (with_reducible first | exact HB.out | apply below_alloc | apply pw_below_drewN | apply below_drew1 | refine below_set ?_ GE232.out | refine below_set ?_ GE233.out) | exact HB.out)) hb); clear BK232; clear BK233; clear HB; have BK232 := n0_; have BK233 := n1_; have HB := n2_; clear n0_ n1_ n2_; (try clear hb); (try clear hb2); (try clear hk); (try clear hi)))
        go_ret
        exact ⟨by first | rfl | (simp [errW_none, errW_some] <;> rfl) | (simp [*, errW_none, errW_some] <;> rfl), by repeat (first | (with_reducible first | exact HB.out | apply below_alloc | apply pw_below_drewN | apply below_drew1 | refine below_set ?_ GE232.out | refine below_set ?_ GE233.out) | exact HB.out)⟩
    · replace c22 := Bool.eq_false_iff.mpr c22
      subst c22
      have H1 : (some false) = some r := by rw [if_neg (show ¬ (false = true) by decide)] at H; exact H
      clear H
      have H := H1
      clear H1
      obtain rfl := Option.some.inj H
      go_enter Tryd.func61, Tryd.ntmps61
      go_wp2_with (first | ((with_reducible refine gate_dst (N := 2) rfl ?_); (try (refine gate_guard (by rfl) ?_; dsimp only)); refine box_event ?hg (N := 2) ?hd (cs := #[.int .i64 a0_0, .int .i64 a0_1, .int .i64 a0_2, .int .i64 a0_3, .bool false, .int .i64 a0_5, .int .i64 a0_6]) (t := 59) ?hr ?_; (case hd => rfl); (case hg => rfl); (case hr => first | (go_simp; done) | (go_simp; rfl)); intro gb232 hg w41 hbox hb; have n0_ := Aside0.mk (below_step (by repeat (first | (with_reducible first | exact HB.out | apply below_alloc | apply pw_below_drewN | apply below_drew1) | exact HB.out)) hb); have n1_ := Aside0.mk (hbox); have n2_ := Aside0.mk ((by rw [hg]; exact (below_size (by repeat (first | (with_reducible first | exact HB.out | apply below_alloc | apply pw_below_drewN | apply below_drew1) | exact HB.out))) : w.heap.size ≤ gb232)); have n3_ := Aside0.mk ((by rw [hg]; exact (below_size (by repeat (first | (with_reducible first | exact HB.out | apply below_alloc | apply pw_below_drewN | apply below_drew1) | exact HB.out))) : w.heap.size ≤ gb232)); clear HB; have HB := n0_; have BK232 := n1_; have GW232 := n2_; have GE232 := n3_; clear n0_ n1_ n2_ n3_; clear hb hbox hg) | ((with_reducible refine gate_dst (N := 3) rfl ?_); (try (refine gate_guard (by rfl) ?_; dsimp only)); refine box_event ?hg (N := 3) ?hd (cs := #[.int .i64 a1_0, .int .i64 a1_1, .int .i64 a1_2, .int .i64 a1_3, .bool false, .int .i64 a1_5, .int .i64 a1_6]) (t := 59) ?hr ?_; (case hd => rfl); (case hg => rfl); (case hr => first | (go_simp; done) | (go_simp; rfl)); intro gb233 hg w42 hbox hb; have n0_ := Aside0.mk (blk_below (g := gb232) (o := .cells #[.int .i64 a0_0, .int .i64 a0_1, .int .i64 a0_2, .int .i64 a0_3, .bool false, .int .i64 a0_5, .int .i64 a0_6] 59 (0, 0)) (by (with_reducible repeat (first | refine blk_drewN ?_ _ | refine blk_drew ?_ | refine blk_alloc ?_ _)); exact BK232.out) hb); have n1_ := Aside0.mk (below_step (by repeat (first | (with_reducible first | exact HB.out | apply below_alloc | apply pw_below_drewN | apply below_drew1 | refine below_set ?_ GE232.out) | exact HB.out)) hb); have n2_ := Aside0.mk (hbox); have n3_ := Aside0.mk ((by rw [hg]; exact (below_size (by repeat (first | (with_reducible first | exact HB.out | apply below_alloc | apply pw_below_drewN | apply below_drew1 | refine below_set ?_ GE232.out) | exact HB.out))) : w.heap.size ≤ gb233)); have n4_ := Aside0.mk ((by rw [hg]; exact (below_size (by repeat (first | (with_reducible first | exact HB.out | apply below_alloc | apply pw_below_drewN | apply below_drew1 | refine below_set ?_ GE232.out) | exact HB.out))) : w.heap.size ≤ gb233)); have n5_ := Aside0.mk ((by rw [hg]; exact Nat.ne_of_lt (blk_lt (g := gb232) (o := .cells #[.int .i64 a0_0, .int .i64 a0_1, .int .i64 a0_2, .int .i64 a0_3, .bool false, .int .i64 a0_5, .int .i64 a0_6] 59 (0, 0)) (by (with_reducible repeat (first | refine blk_drewN ?_ _ | refine blk_drew ?_ | refine blk_alloc ?_ _)); exact BK232.out)) : gb232 ≠ gb233)); have n6_ := Aside0.mk ((by rw [hg]; exact Nat.ne_of_gt (blk_lt (g := gb232) (o := .cells #[.int .i64 a0_0, .int .i64 a0_1, .int .i64 a0_2, .int .i64 a0_3, .bool false, .int .i64 a0_5, .int .i64 a0_6] 59 (0, 0)) (by (with_reducible repeat (first | refine blk_drewN ?_ _ | refine blk_drew ?_ | refine blk_alloc ?_ _)); exact BK232.out)) : gb233 ≠ gb232)); clear BK232; clear HB; have BK232 := n0_; have HB := n1_; have BK233 := n2_; have GW233 := n3_; have GE233 := n4_; have NB232_233 := n5_; have NB233_232 := n6_; clear n0_ n1_ n2_ n3_ n4_ n5_ n6_; clear hb hbox hg; have hnb43 := NB232_233.out; have hnc43 := NB233_232.out; have hcz44_0 : w42.cell? ⟨gb232, 0, none⟩ = some (.int .i64 a0_0) := (blk_cell BK232.out 0).trans rfl; have hcz44_1 : w42.cell? ⟨gb232, 1, none⟩ = some (.int .i64 a0_1) := (blk_cell BK232.out 1).trans rfl; have hcz44_2 : w42.cell? ⟨gb232, 2, none⟩ = some (.int .i64 a0_2) := (blk_cell BK232.out 2).trans rfl; have hcz44_3 : w42.cell? ⟨gb232, 3, none⟩ = some (.int .i64 a0_3) := (blk_cell BK232.out 3).trans rfl; have hcz44_4 : w42.cell? ⟨gb232, 4, none⟩ = some (.bool false) := (blk_cell BK232.out 4).trans rfl; have hcz44_5 : w42.cell? ⟨gb232, 5, none⟩ = some (.int .i64 a0_5) := (blk_cell BK232.out 5).trans rfl; have hcz44_6 : w42.cell? ⟨gb232, 6, none⟩ = some (.int .i64 a0_6) := (blk_cell BK232.out 6).trans rfl; have hfz44_0 := blk_frozen BK232.out 0; have hfz44_1 := blk_frozen BK232.out 1; have hfz44_2 := blk_frozen BK232.out 2; have hfz44_3 := blk_frozen BK232.out 3; have hfz44_4 := blk_frozen BK232.out 4; have hfz44_5 := blk_frozen BK232.out 5; have hfz44_6 := blk_frozen BK232.out 6; have hcz45_0 : w42.cell? ⟨gb233, 0, none⟩ = some (.int .i64 a1_0) := (blk_cell BK233.out 0).trans rfl; have hcz45_1 : w42.cell? ⟨gb233, 1, none⟩ = some (.int .i64 a1_1) := (blk_cell BK233.out 1).trans rfl; have hcz45_2 : w42.cell? ⟨gb233, 2, none⟩ = some (.int .i64 a1_2) := (blk_cell BK233.out 2).trans rfl; have hcz45_3 : w42.cell? ⟨gb233, 3, none⟩ = some (.int .i64 a1_3) := (blk_cell BK233.out 3).trans rfl; have hcz45_4 : w42.cell? ⟨gb233, 4, none⟩ = some (.bool false) := (blk_cell BK233.out 4).trans rfl; have hcz45_5 : w42.cell? ⟨gb233, 5, none⟩ = some (.int .i64 a1_5) := (blk_cell BK233.out 5).trans rfl; have hcz45_6 : w42.cell? ⟨gb233, 6, none⟩ = some (.int .i64 a1_6) := (blk_cell BK233.out 6).trans rfl; have hfz45_0 := blk_frozen BK233.out 0; have hfz45_1 := blk_frozen BK233.out 1; have hfz45_2 := blk_frozen BK233.out 2; have hfz45_3 := blk_frozen BK233.out 3; have hfz45_4 := blk_frozen BK233.out 4; have hfz45_5 := blk_frozen BK233.out 5; have hfz45_6 := blk_frozen BK233.out 6))
      go_ret
      exact ⟨by first | rfl | (simp [errW_none, errW_some] <;> rfl) | (simp [*, errW_none, errW_some] <;> rfl), by repeat (first | (with_reducible first | exact HB.out | apply below_alloc | apply pw_below_drewN | apply below_drew1 | refine below_set ?_ GE232.out | refine below_set ?_ GE233.out) | exact HB.out)⟩

end Go.Proofs.YtpbboooeahmgpaaDoor.P


namespace Go.Proofs.YtpbboooeahmgpaaDoor.P
open Go.RowKit Go.Proofs.YtpbboooeahmgpaaDoorW.PrintWords Go.Proofs.YtpbboooeahmgpaaDoorW.PrintLast Go.Proofs.YtpbboooeahmgpaaDoorW.PrintMore
attribute [local go_sem] max2_int min2_int max_two min_two max_three min_three max_four min_four   -- for this text's walks alone
set_option linter.unusedVariables false
set_option linter.unusedSimpArgs false

mutual
def impl_conflicts.l0 : Nat → List (SimplLoan) → List (SA2int) → List (SimplLoan) → Int → Int → Option ((List (SA2int)))
  | 0, _, _, _, _, _ => none
  | k + 1, x0, x3, x8, x9, x10 => if x10 < x9 then (if 0 ≤ x10 then (if x10 < (x8.length : Int) then (impl_conflicts.l1 k x0 x3 x10 (wrap64 (x10 + 1)) x8 x9 x10 ((rd_TimplLoan x8 x10).f0.f0) ((rd_TimplLoan x8 x10).f0.f1) ((rd_TimplLoan x8 x10).f0.f2) ((rd_TimplLoan x8 x10).f0.f3) ((rd_TimplLoan x8 x10).f1) ((rd_TimplLoan x8 x10).f2) ((rd_TimplLoan x8 x10).f3)) else (none)) else (none)) else (some x3)
def impl_conflicts.l1 : Nat → List (SimplLoan) → List (SA2int) → Int → Int → List (SimplLoan) → Int → Int → Int → Int → Int → Int → Bool → Int → Int → Option ((List (SA2int)))
  | 0, _, _, _, _, _, _, _, _, _, _, _, _, _, _ => none
  | k + 1, x0, x3, x4, x6, x8, x9, x10, x241000, x241001, x241002, x241003, x241004, x241005, x241006 => if x6 < (x0.length : Int) then (if 0 ≤ x6 then ((impl_inConflict.f x241000 x241001 x241002 x241003 x241004 x241005 x241006 ((rd_TimplLoan x0 x6).f0.f0) ((rd_TimplLoan x0 x6).f0.f1) ((rd_TimplLoan x0 x6).f0.f2) ((rd_TimplLoan x0 x6).f0.f3) ((rd_TimplLoan x0 x6).f1) ((rd_TimplLoan x0 x6).f2) ((rd_TimplLoan x0 x6).f3)).bind fun t242 => (if t242 = true then (if x3.length < 8796093022208 then (impl_conflicts.l1 k x0 (x3 ++ [(⟨x4, x6⟩ : SA2int)]) x4 (wrap64 (x6 + 1)) x8 x9 x10 x241000 x241001 x241002 x241003 x241004 x241005 x241006) else (none)) else (impl_conflicts.l1 k x0 x3 x4 (wrap64 (x6 + 1)) x8 x9 x10 x241000 x241001 x241002 x241003 x241004 x241005 x241006))) else (none)) else (impl_conflicts.l0 k x0 x3 x8 x9 (wrap64 (x10 + 1)))
end
def impl_conflicts.f (k : Nat) (l0 : List (SimplLoan)) : Option ((List (SA2int))) := impl_conflicts.l0 k l0 (([] : List (SA2int))) l0 (l0.length : Int) 0
set_option maxHeartbeats 8000000 in
set_option maxRecDepth 100000 in
theorem impl_conflicts.calls (k : Nat) (A0 : Option Addr) (c0 : Nat) (l0 : List (SimplLoan)) (r : List (SA2int)) (w : World) (hr0 : Kd.C kimplLoan w A0 l0.length l0) (hc0 : l0.length ≤ c0) (h : impl_conflicts.f k l0 = some r) :
    Calls Tryd.prog 50 #[.slice A0 l0.length c0] w fun e w' => ∃ v0_ : Value, e = .returned (v0_) ∧ Kd.R kA2int 49 w' w.heap.size (fun _ => True) v0_ r ∧ Below w.heap.size w w' := by
  have hu59 := Tryd.underlying59
  have hu49 := Tryd.underlying49
  have HR0 := Aside0.mk hr0
  have HC0 := Aside0.mk hc0
  clear hr0 hc0
  have HB := Aside0.mk (Below.refl w.heap.size w)
  have H : (impl_conflicts.l0 k l0 (([] : List (SA2int))) l0 (l0.length : Int) 0) = some r := h
  clear h
  obtain ⟨y236, hy236⟩ : ∃ y_ : List (SA2int), y_ = (([] : List (SA2int))) := ⟨_, rfl⟩
  replace H : (impl_conflicts.l0 k l0 y236 l0 (l0.length : Int) 0) = some r := by first | (rw [hy236]; with_reducible exact H) | (have H2_ := (Option.bind_some _ _).symm.trans H; rw [hy236]; with_reducible exact H2_) | (have H2_ := (Option.bind_some _ _).symm.trans H; with_reducible exact H2_) | with_reducible exact H | (rw [hy236]; exact H) | exact H
  have Ny236 := Aside0.mk hy236
  clear hy236
  have H' := Aside0.mk H
  clear H
  go_enter Tryd.func50, Tryd.ntmps50
  go_wp2_with (first | ((with_reducible refine gate_dst (N := 7) rfl ?_); refine Kd.R_lit kA2int _ 49 ?hg (N := 7) ?hd (xs := ([] : List (SA2int))) (inner := []) (ok := fun _ => True) (okp := fun _ => True) ?hr ?hp (fun _ hk => hk) trivial (Below.refl _ _) (Nat.le_refl _) (by simp) ?_; (case hd => rfl); (case hg => rfl); (case hr => first | (go_simp; done) | (go_simp; rfl)); (case hp => exact (Reps.none _ _)); intro v237 w2 ho3 hb hg_ hnew_; clear hg_ hnew_; (first | rw [← Ny236.out] at ho3 | (simp only [Int.reduceToNat] at ho3; rw [← Ny236.out] at ho3)); have n0_ := Aside0.mk (Kd.R_lower ho3 (below_size (by repeat (first | (with_reducible first | exact HB.out | apply below_alloc | apply pw_below_drewN | apply below_drew1) | exact HB.out)))); have n1_ := Aside0.mk (below_step (by repeat (first | (with_reducible first | exact HB.out | apply below_alloc | apply pw_below_drewN | apply below_drew1) | exact HB.out)) hb); clear HB; have HO238 := n0_; have HB := n1_; clear n0_ n1_; clear hb ho3))
  go_loopg [3, 10] k (fun kq v3 v10 w' => ∃ (x3_1 : List (SA2int)) (x10_1 : Int), v10 = .int .i64 x10_1 ∧ Aside0 (impl_conflicts.l0 kq l0 x3_1 l0 (l0.length : Int) x10_1 = some r) ∧ Aside0 (kq ≤ k) ∧ Aside0 (Kd.R kA2int 49 w' w.heap.size (fun _ => True) v3 x3_1) ∧ Aside0 (Below w.heap.size w w'))
  case atStart => exact ⟨(y236), (0), (by first | rfl | (simp; done) | (simp [*]; done)), H', ⟨Nat.le_refl _⟩, ⟨by (with_reducible repeat (first | apply Kd.R_alloc | apply Kd.R_drewN | apply Kd.R_drew)); exact HO238.out⟩, ⟨by repeat (first | (with_reducible first | exact HB.out | apply below_alloc | apply pw_below_drewN | apply below_drew1) | exact HB.out)⟩⟩
  case round =>
    clear H'
    try clear p2
    obtain ⟨x3_1, x10_1, rfl, HA, HK1, HO_3, HB⟩ := hrel
    cases gk with
    | zero => exact absurd HA.out (by simp [impl_conflicts.l0])
    | succ k1 =>
      have H := HA.out
      clear HA
      simp only [impl_conflicts.l0] at H
      by_cases c4 : x10_1 < (l0.length : Int)
      · rw [if_pos c4] at H
        have c4b0 : decide (x10_1 < (l0.length : Int)) = true := decide_eq_true c4
        clear c4
        by_cases c5 : 0 ≤ x10_1
        · rw [if_pos c5] at H
          have c5b0 : decide (0 ≤ x10_1) = true := decide_eq_true c5
          clear c5
          by_cases c6 : x10_1 < (l0.length : Int)
          · rw [if_pos c6] at H
            have c6b0 : decide (x10_1 < (l0.length : Int)) = true := decide_eq_true c6
            clear c6
            have H' := Aside0.mk H
            clear H
            have p239 : 0 ≤ (x10_1 : Int) := of_decide_eq_true (by first | (with_reducible assumption) | assumption)
            have q239 : x10_1 < (l0.length : Int) := of_decide_eq_true (by first | (with_reducible assumption) | assumption)
            obtain ⟨ad239, e239, hx239_0, hx239_1, hx239_2, hx239_3, hx239_4, hx239_5, hx239_6⟩ := at_TimplLoan HR0.out x10_1 p239 q239
            cases e239
            replace hx239_0 := (HB.out.cell (World.block_lt_of_cell? w _ hx239_0)).trans hx239_0
            replace hx239_1 := (HB.out.cell (World.block_lt_of_cell? w _ hx239_1)).trans hx239_1
            replace hx239_2 := (HB.out.cell (World.block_lt_of_cell? w _ hx239_2)).trans hx239_2
            replace hx239_3 := (HB.out.cell (World.block_lt_of_cell? w _ hx239_3)).trans hx239_3
            replace hx239_4 := (HB.out.cell (World.block_lt_of_cell? w _ hx239_4)).trans hx239_4
            replace hx239_5 := (HB.out.cell (World.block_lt_of_cell? w _ hx239_5)).trans hx239_5
            replace hx239_6 := (HB.out.cell (World.block_lt_of_cell? w _ hx239_6)).trans hx239_6
            replace p239 := eq_true p239
            replace q239 := eq_true q239
            go_wp2_with (first | ((with_reducible refine gate_dst (N := 5) rfl ?_); refine box_event ?hg (N := 5) ?hd (cs := #[.int .i64 0, .int .i64 0, .int .i64 0, .int .i64 0, .bool false, .int .i64 0, .int .i64 0]) (t := 59) ?hr ?_; (case hd => rfl); (case hg => rfl); (case hr => first | (go_simp; done) | (go_simp; rfl)); intro gb240 hg w7 hbox hb; have n0_ := Aside0.mk (Kd.R_below (by (with_reducible repeat (first | apply Kd.R_alloc | apply Kd.R_drewN | apply Kd.R_drew)); exact HO_3.out) hb); have n1_ := Aside0.mk (below_step (by repeat (first | (with_reducible first | exact HB.out | apply below_alloc | apply pw_below_drewN | apply below_drew1) | exact HB.out)) hb); have n2_ := Aside0.mk (hbox); have n3_ := Aside0.mk ((by rw [hg]; exact (below_size (by repeat (first | (with_reducible first | exact HB.out | apply below_alloc | apply pw_below_drewN | apply below_drew1) | exact HB.out))) : w.heap.size ≤ gb240)); have n4_ := Aside0.mk ((by rw [hg]; exact (below_size (by repeat (first | (with_reducible first | exact HB.out | apply below_alloc | apply pw_below_drewN | apply below_drew1) | exact HB.out))) : w.heap.size ≤ gb240)); clear HO_3; clear HB; have HO_3 := n0_; have HB := n1_; have BK240 := n2_; have GW240 := n3_; have GE240 := n4_; clear n0_ n1_ n2_ n3_ n4_; clear hb hbox hg; have hcz8_0 : w7.cell? ⟨gb240, 0, none⟩ = some (.int .i64 0) := (blk_cell BK240.out 0).trans rfl; have hcz8_1 : w7.cell? ⟨gb240, 1, none⟩ = some (.int .i64 0) := (blk_cell BK240.out 1).trans rfl; have hcz8_2 : w7.cell? ⟨gb240, 2, none⟩ = some (.int .i64 0) := (blk_cell BK240.out 2).trans rfl; have hcz8_3 : w7.cell? ⟨gb240, 3, none⟩ = some (.int .i64 0) := (blk_cell BK240.out 3).trans rfl; have hcz8_4 : w7.cell? ⟨gb240, 4, none⟩ = some (.bool false) := (blk_cell BK240.out 4).trans rfl; have hcz8_5 : w7.cell? ⟨gb240, 5, none⟩ = some (.int .i64 0) := (blk_cell BK240.out 5).trans rfl; have hcz8_6 : w7.cell? ⟨gb240, 6, none⟩ = some (.int .i64 0) := (blk_cell BK240.out 6).trans rfl; have hfz8_0 := blk_frozen BK240.out 0; have hfz8_1 := blk_frozen BK240.out 1; have hfz8_2 := blk_frozen BK240.out 2; have hfz8_3 := blk_frozen BK240.out 3; have hfz8_4 := blk_frozen BK240.out 4; have hfz8_5 := blk_frozen BK240.out 5; have hfz8_6 := blk_frozen BK240.out 6))
            go_loopg [3, 6] k1 (fun kq v3 v6 w' => ∃ (x3_2 : List (SA2int)) (x6_2 : Int), v6 = .int .i64 x6_2 ∧ Aside0 (impl_conflicts.l1 kq l0 x3_2 x10_1 x6_2 l0 (l0.length : Int) x10_1 ((rd_TimplLoan l0 x10_1).f0.f0) ((rd_TimplLoan l0 x10_1).f0.f1) ((rd_TimplLoan l0 x10_1).f0.f2) ((rd_TimplLoan l0 x10_1).f0.f3) ((rd_TimplLoan l0 x10_1).f1) ((rd_TimplLoan l0 x10_1).f2) ((rd_TimplLoan l0 x10_1).f3) = some r) ∧ Aside0 (kq ≤ k1) ∧ Aside0 (Kd.R kA2int 49 w' w.heap.size (fun _ => True) v3 x3_2) ∧ Aside0 (w'.heap[gb240]? = some (.cells #[.int .i64 ((rd_TimplLoan l0 x10_1).f0.f0), .int .i64 ((rd_TimplLoan l0 x10_1).f0.f1), .int .i64 ((rd_TimplLoan l0 x10_1).f0.f2), .int .i64 ((rd_TimplLoan l0 x10_1).f0.f3), .bool ((rd_TimplLoan l0 x10_1).f1), .int .i64 ((rd_TimplLoan l0 x10_1).f2), .int .i64 ((rd_TimplLoan l0 x10_1).f3)] 59 (0, 0))) ∧ Aside0 (Below w.heap.size w w'))
            case atStart => exact ⟨(x3_1), (wrap64 (x10_1 + 1)), (by first | rfl | (simp; done) | (simp [*]; done)), H', ⟨Nat.le_refl _⟩, ⟨by (with_reducible repeat (first | apply Kd.R_alloc | apply Kd.R_drewN | apply Kd.R_drew)); exact Kd.R_mono (Kd.R_far (p := ⟨gb240, 6, none⟩) (Kd.R_far (p := ⟨gb240, 5, none⟩) (Kd.R_far (p := ⟨gb240, 4, none⟩) (Kd.R_far (p := ⟨gb240, 3, none⟩) (Kd.R_far (p := ⟨gb240, 2, none⟩) (Kd.R_far (p := ⟨gb240, 1, none⟩) (Kd.R_far (p := ⟨gb240, 0, none⟩) (Kd.R_types HO_3.out BK240.out (by decide)) (fun _ hk => hk.2) (.int .i64 ((rd_TimplLoan l0 x10_1).f0.f0))) (fun _ hk => hk.2) (.int .i64 ((rd_TimplLoan l0 x10_1).f0.f1))) (fun _ hk => hk.2) (.int .i64 ((rd_TimplLoan l0 x10_1).f0.f2))) (fun _ hk => hk.2) (.int .i64 ((rd_TimplLoan l0 x10_1).f0.f3))) (fun _ hk => hk.2) (.bool ((rd_TimplLoan l0 x10_1).f1))) (fun _ hk => hk.2) (.int .i64 ((rd_TimplLoan l0 x10_1).f2))) (fun _ hk => hk.2) (.int .i64 ((rd_TimplLoan l0 x10_1).f3))) (fun _ hk => trivial)⟩, ⟨by (with_reducible repeat (first | refine blk_drewN ?_ _ | refine blk_drew ?_ | refine blk_alloc ?_ _)); refine blk_put (cs := #[.int .i64 ((rd_TimplLoan l0 x10_1).f0.f0), .int .i64 ((rd_TimplLoan l0 x10_1).f0.f1), .int .i64 ((rd_TimplLoan l0 x10_1).f0.f2), .int .i64 ((rd_TimplLoan l0 x10_1).f0.f3), .bool ((rd_TimplLoan l0 x10_1).f1), .int .i64 ((rd_TimplLoan l0 x10_1).f2), .int .i64 0]) ?_ 6 _ rfl; (with_reducible repeat (first | refine blk_drewN ?_ _ | refine blk_drew ?_ | refine blk_alloc ?_ _)); refine blk_put (cs := #[.int .i64 ((rd_TimplLoan l0 x10_1).f0.f0), .int .i64 ((rd_TimplLoan l0 x10_1).f0.f1), .int .i64 ((rd_TimplLoan l0 x10_1).f0.f2), .int .i64 ((rd_TimplLoan l0 x10_1).f0.f3), .bool ((rd_TimplLoan l0 x10_1).f1), .int .i64 0, .int .i64 0]) ?_ 5 _ rfl; (with_reducible repeat (first | refine blk_drewN ?_ _ | refine blk_drew ?_ | refine blk_alloc ?_ _)); refine blk_put (cs := #[.int .i64 ((rd_TimplLoan l0 x10_1).f0.f0), .int .i64 ((rd_TimplLoan l0 x10_1).f0.f1), .int .i64 ((rd_TimplLoan l0 x10_1).f0.f2), .int .i64 ((rd_TimplLoan l0 x10_1).f0.f3), .bool false, .int .i64 0, .int .i64 0]) ?_ 4 _ rfl; (with_reducible repeat (first | refine blk_drewN ?_ _ | refine blk_drew ?_ | refine blk_alloc ?_ _)); refine blk_put (cs := #[.int .i64 ((rd_TimplLoan l0 x10_1).f0.f0), .int .i64 ((rd_TimplLoan l0 x10_1).f0.f1), .int .i64 ((rd_TimplLoan l0 x10_1).f0.f2), .int .i64 0, .bool false, .int .i64 0, .int .i64 0]) ?_ 3 _ rfl; (with_reducible repeat (first | refine blk_drewN ?_ _ | refine blk_drew ?_ | refine blk_alloc ?_ _)); refine blk_put (cs := #[.int .i64 ((rd_TimplLoan l0 x10_1).f0.f0), .int .i64 ((rd_TimplLoan l0 x10_1).f0.f1), .int .i64 0, .int .i64 0, .bool false, .int .i64 0, .int .i64 0]) ?_ 2 _ rfl; (with_reducible repeat (first | refine blk_drewN ?_ _ | refine blk_drew ?_ | refine blk_alloc ?_ _)); refine blk_put (cs := #[.int .i64 ((rd_TimplLoan l0 x10_1).f0.f0), .int .i64 0, .int .i64 0, .int .i64 0, .bool false, .int .i64 0, .int .i64 0]) ?_ 1 _ rfl; (with_reducible repeat (first | refine blk_drewN ?_ _ | refine blk_drew ?_ | refine blk_alloc ?_ _)); refine blk_put (cs := #[.int .i64 0, .int .i64 0, .int .i64 0, .int .i64 0, .bool false, .int .i64 0, .int .i64 0]) ?_ 0 _ rfl; (with_reducible repeat (first | refine blk_drewN ?_ _ | refine blk_drew ?_ | refine blk_alloc ?_ _)); exact BK240.out⟩, ⟨by repeat (first | (with_reducible first | exact HB.out | apply below_alloc | apply pw_below_drewN | apply below_drew1 | refine below_set ?_ GE240.out) | exact HB.out)⟩⟩
            case round =>
              clear H'
              try clear p2
              try clear q2
              try clear hx2
              try clear c4
              try clear c4b0
              try clear c5
              try clear c5b0
              try clear c6
              try clear c6b0
              try clear p6
              try clear hcz8_0
              try clear hcz8_1
              try clear hcz8_2
              try clear hcz8_3
              try clear hcz8_4
              try clear hcz8_5
              try clear hcz8_6
              try clear hfz8_0
              try clear hfz8_1
              try clear hfz8_2
              try clear hfz8_3
              try clear hfz8_4
              try clear hfz8_5
              try clear hfz8_6
              try clear hx239_0
              try clear hx239_1
              try clear hx239_2
              try clear hx239_3
              try clear hx239_4
              try clear hx239_5
              try clear hx239_6
              try clear p2
              try clear p239
              try clear q239
              obtain ⟨x3_2, x6_2, rfl, HA, HK2, HO_3, BK240, HB⟩ := hrel
              cases gk with
              | zero => exact absurd HA.out (by simp [impl_conflicts.l1])
              | succ k2 =>
                have H := HA.out
                clear HA
                simp only [impl_conflicts.l1] at H
                by_cases c9 : x6_2 < (l0.length : Int)
                · rw [if_pos c9] at H
                  have c9b0 : decide (x6_2 < (l0.length : Int)) = true := decide_eq_true c9
                  clear c9
                  by_cases c10 : 0 ≤ x6_2
                  · rw [if_pos c10] at H
                    have c10b0 : decide (0 ≤ x6_2) = true := decide_eq_true c10
                    clear c10
                    replace H := Option.bind_eq_some_iff.mp H
                    obtain ⟨t242, A110, H⟩ := H
                    replace H : (if t242 = true then (if x3_2.length < 8796093022208 then (impl_conflicts.l1 k2 l0 (x3_2 ++ [(⟨x10_1, x6_2⟩ : SA2int)]) x10_1 (wrap64 (x6_2 + 1)) l0 (l0.length : Int) x10_1 ((rd_TimplLoan l0 x10_1).f0.f0) ((rd_TimplLoan l0 x10_1).f0.f1) ((rd_TimplLoan l0 x10_1).f0.f2) ((rd_TimplLoan l0 x10_1).f0.f3) ((rd_TimplLoan l0 x10_1).f1) ((rd_TimplLoan l0 x10_1).f2) ((rd_TimplLoan l0 x10_1).f3)) else (none)) else (impl_conflicts.l1 k2 l0 x3_2 x10_1 (wrap64 (x6_2 + 1)) l0 (l0.length : Int) x10_1 ((rd_TimplLoan l0 x10_1).f0.f0) ((rd_TimplLoan l0 x10_1).f0.f1) ((rd_TimplLoan l0 x10_1).f0.f2) ((rd_TimplLoan l0 x10_1).f0.f3) ((rd_TimplLoan l0 x10_1).f1) ((rd_TimplLoan l0 x10_1).f2) ((rd_TimplLoan l0 x10_1).f3))) = some r := H
                    have A11 := Aside0.mk A110
                    clear A110
                    by_cases c12 : t242 = true
                    · subst c12
                      have H1 : (if x3_2.length < 8796093022208 then (impl_conflicts.l1 k2 l0 (x3_2 ++ [(⟨x10_1, x6_2⟩ : SA2int)]) x10_1 (wrap64 (x6_2 + 1)) l0 (l0.length : Int) x10_1 ((rd_TimplLoan l0 x10_1).f0.f0) ((rd_TimplLoan l0 x10_1).f0.f1) ((rd_TimplLoan l0 x10_1).f0.f2) ((rd_TimplLoan l0 x10_1).f0.f3) ((rd_TimplLoan l0 x10_1).f1) ((rd_TimplLoan l0 x10_1).f2) ((rd_TimplLoan l0 x10_1).f3)) else (none)) = some r := by rw [if_pos rfl] at H; exact H
                      clear H
                      have H := H1
                      clear H1
                      by_cases c13 : x3_2.length < 8796093022208
                      · rw [if_pos c13] at H
                        have LMc13 := Aside0.mk c13
                        clear c13
                        obtain ⟨y243, hy243⟩ : ∃ y_ : List (SA2int), y_ = (x3_2 ++ [(⟨x10_1, x6_2⟩ : SA2int)]) := ⟨_, rfl⟩
                        replace H : (impl_conflicts.l1 k2 l0 y243 x10_1 (wrap64 (x6_2 + 1)) l0 (l0.length : Int) x10_1 ((rd_TimplLoan l0 x10_1).f0.f0) ((rd_TimplLoan l0 x10_1).f0.f1) ((rd_TimplLoan l0 x10_1).f0.f2) ((rd_TimplLoan l0 x10_1).f0.f3) ((rd_TimplLoan l0 x10_1).f1) ((rd_TimplLoan l0 x10_1).f2) ((rd_TimplLoan l0 x10_1).f3)) = some r := by first | (rw [hy243]; with_reducible exact H) | (have H2_ := (Option.bind_some _ _).symm.trans H; rw [hy243]; with_reducible exact H2_) | (have H2_ := (Option.bind_some _ _).symm.trans H; with_reducible exact H2_) | with_reducible exact H | (rw [hy243]; exact H) | exact H
                        have Ny243 := Aside0.mk hy243
                        clear hy243
                        have H' := Aside0.mk H
                        clear H
                        try go_wp2
                        have n0_ := Aside0.mk (Kd.R_drew HO_3.out)
                        have n1_ := Aside0.mk (blk_drew BK240.out)
                        have n2_ := Aside0.mk (below_drew1 HB.out)
                        clear HO_3
                        clear BK240
                        clear HB
                        have HO_3 := n0_
                        have BK240 := n1_
                        have HB := n2_
                        clear n0_ n1_ n2_
                        have p241 : 0 ≤ (x6_2 : Int) := of_decide_eq_true (by first | (with_reducible assumption) | assumption)
                        have q241 : x6_2 < (l0.length : Int) := of_decide_eq_true (by first | (with_reducible assumption) | assumption)
                        obtain ⟨ad241, e241, hx241_0, hx241_1, hx241_2, hx241_3, hx241_4, hx241_5, hx241_6⟩ := at_TimplLoan HR0.out x6_2 p241 q241
                        have hw241_6 := hx241_6
                        have hw241_5 := hx241_5
                        have hw241_4 := hx241_4
                        have hw241_3 := hx241_3
                        have hw241_2 := hx241_2
                        have hw241_1 := hx241_1
                        have hw241_0 := hx241_0
                        obtain rfl : ad239 = ad241 := (by injection e241)
                        replace hx241_0 := (HB.out.cell (World.block_lt_of_cell? w _ hx241_0)).trans hx241_0
                        replace hx241_1 := (HB.out.cell (World.block_lt_of_cell? w _ hx241_1)).trans hx241_1
                        replace hx241_2 := (HB.out.cell (World.block_lt_of_cell? w _ hx241_2)).trans hx241_2
                        replace hx241_3 := (HB.out.cell (World.block_lt_of_cell? w _ hx241_3)).trans hx241_3
                        replace hx241_4 := (HB.out.cell (World.block_lt_of_cell? w _ hx241_4)).trans hx241_4
                        replace hx241_5 := (HB.out.cell (World.block_lt_of_cell? w _ hx241_5)).trans hx241_5
                        replace hx241_6 := (HB.out.cell (World.block_lt_of_cell? w _ hx241_6)).trans hx241_6
                        replace p241 := eq_true p241
                        replace q241 := eq_true q241
                        refine start_ (n := 6) (S := fun w' => w'.cell? ⟨gb240, 0, none⟩ = some (.int .i64 ((rd_TimplLoan l0 x10_1).f0.f0)) ∧ w'.cell? ⟨gb240, 1, none⟩ = some (.int .i64 ((rd_TimplLoan l0 x10_1).f0.f1)) ∧ w'.cell? ⟨gb240, 2, none⟩ = some (.int .i64 ((rd_TimplLoan l0 x10_1).f0.f2)) ∧ w'.cell? ⟨gb240, 3, none⟩ = some (.int .i64 ((rd_TimplLoan l0 x10_1).f0.f3)) ∧ w'.cell? ⟨gb240, 4, none⟩ = some (.bool ((rd_TimplLoan l0 x10_1).f1)) ∧ w'.cell? ⟨gb240, 5, none⟩ = some (.int .i64 ((rd_TimplLoan l0 x10_1).f2)) ∧ w'.cell? ⟨gb240, 6, none⟩ = some (.int .i64 ((rd_TimplLoan l0 x10_1).f3)) ∧ w'.cell? (ad239.add ((x6_2).toNat * 7)) = some (.int .i64 ((rd_TimplLoan l0 x6_2).f0.f0)) ∧ w'.cell? ⟨(ad239.add ((x6_2).toNat * 7)).block, (ad239.add ((x6_2).toNat * 7)).off + 1, none⟩ = some (.int .i64 ((rd_TimplLoan l0 x6_2).f0.f1)) ∧ w'.cell? ⟨(ad239.add ((x6_2).toNat * 7)).block, (ad239.add ((x6_2).toNat * 7)).off + 2, none⟩ = some (.int .i64 ((rd_TimplLoan l0 x6_2).f0.f2)) ∧ w'.cell? ⟨(ad239.add ((x6_2).toNat * 7)).block, (ad239.add ((x6_2).toNat * 7)).off + 3, none⟩ = some (.int .i64 ((rd_TimplLoan l0 x6_2).f0.f3)) ∧ w'.cell? ⟨(ad239.add ((x6_2).toNat * 7)).block, (ad239.add ((x6_2).toNat * 7)).off + 4, none⟩ = some (.bool ((rd_TimplLoan l0 x6_2).f1)) ∧ w'.cell? ⟨(ad239.add ((x6_2).toNat * 7)).block, (ad239.add ((x6_2).toNat * 7)).off + 5, none⟩ = some (.int .i64 ((rd_TimplLoan l0 x6_2).f2)) ∧ w'.cell? ⟨(ad239.add ((x6_2).toNat * 7)).block, (ad239.add ((x6_2).toNat * 7)).off + 6, none⟩ = some (.int .i64 ((rd_TimplLoan l0 x6_2).f3))) (ds := []) #[false, false, false, false, false, false] (by kernel_rfl) rfl rfl ⟨(blk_cell BK240.out 0).trans rfl, (blk_cell BK240.out 1).trans rfl, (blk_cell BK240.out 2).trans rfl, (blk_cell BK240.out 3).trans rfl, (blk_cell BK240.out 4).trans rfl, (blk_cell BK240.out 5).trans rfl, (blk_cell BK240.out 6).trans rfl, (by have h_ := ((HB.out.cell (World.block_lt_of_cell? w _ hw241_0)).trans hw241_0); first | exact h_ | (simp only [*] at h_; exact h_) | (simp [*]; done) | simpa [*] using h_), (by have h_ := ((HB.out.cell (World.block_lt_of_cell? w _ hw241_1)).trans hw241_1); first | exact h_ | (simp only [*] at h_; exact h_) | (simp [*]; done) | simpa [*] using h_), (by have h_ := ((HB.out.cell (World.block_lt_of_cell? w _ hw241_2)).trans hw241_2); first | exact h_ | (simp only [*] at h_; exact h_) | (simp [*]; done) | simpa [*] using h_), (by have h_ := ((HB.out.cell (World.block_lt_of_cell? w _ hw241_3)).trans hw241_3); first | exact h_ | (simp only [*] at h_; exact h_) | (simp [*]; done) | simpa [*] using h_), (by have h_ := ((HB.out.cell (World.block_lt_of_cell? w _ hw241_4)).trans hw241_4); first | exact h_ | (simp only [*] at h_; exact h_) | (simp [*]; done) | simpa [*] using h_), (by have h_ := ((HB.out.cell (World.block_lt_of_cell? w _ hw241_5)).trans hw241_5); first | exact h_ | (simp only [*] at h_; exact h_) | (simp [*]; done) | simpa [*] using h_), (by have h_ := ((HB.out.cell (World.block_lt_of_cell? w _ hw241_6)).trans hw241_6); first | exact h_ | (simp only [*] at h_; exact h_) | (simp [*]; done) | simpa [*] using h_)⟩ (fun hHeld => ?_)
                        generalize wr.drew = w14 at HO_3 BK240 HB hx241_0 hx241_1 hx241_2 hx241_3 hx241_4 hx241_5 hx241_6 hHeld ⊢
                        refine pure_ (i := 1) (N := some 24) (v := ?_) (a' := ?_) #[false, true, false, false, false, false] rfl rfl (by kernel_rfl) (fun _ _ _ h => h) (Or.inl ⟨by rfl, ?_⟩) ?_ ?_
                        rotate_left
                        · intro w'
                          go_simp
                          with_reducible rfl
                        rotate_left
                        · simp only [Act.put, List.setIfInBounds_toArray, List.set_cons_zero, List.set_cons_succ, i64_w, i32_w]
                          rfl
                        refine pure_ (i := 2) (N := some 25) (v := ?_) (a' := ?_) #[false, true, true, false, false, false] rfl rfl (by kernel_rfl) (fun _ _ _ h => h) (Or.inl ⟨by rfl, ?_⟩) ?_ ?_
                        rotate_left
                        · intro w'
                          go_simp
                          with_reducible rfl
                        rotate_left
                        · simp only [Act.put, List.setIfInBounds_toArray, List.set_cons_zero, List.set_cons_succ, i64_w, i32_w]
                          rfl
                        refine pure_ (i := 3) (N := some 26) (v := ?_) (a' := ?_) #[false, true, true, true, false, false] rfl rfl (by kernel_rfl) (fun _ _ _ h => h) (Or.inl ⟨by rfl, ?_⟩) ?_ ?_
                        rotate_left
                        · intro w'
                          go_simp
                          with_reducible rfl
                        rotate_left
                        · simp only [Act.put, List.setIfInBounds_toArray, List.set_cons_zero, List.set_cons_succ, i64_w, i32_w]
                          rfl
                        refine take_ (i := 0) (N := some 23) (v := ?_) (a' := ?_) #[true, true, true, true, false, false] rfl rfl (by kernel_rfl) (fun _ _ _ h => h) (Or.inl ⟨by rfl, ?_⟩) hHeld ?_ ?_
                        rotate_left
                        · rintro w' ⟨s0, s1, s2, s3, s4, s5, s6, s7, s8, s9, s10, s11, s12, s13⟩
                          go_simp
                          with_reducible rfl
                        rotate_left
                        · simp only [Act.put, List.setIfInBounds_toArray, List.set_cons_zero, List.set_cons_succ, i64_w, i32_w]
                          rfl
                        refine take_ (i := 4) (N := some 27) (v := ?_) (a' := ?_) #[true, true, true, true, true, false] rfl rfl (by kernel_rfl) (fun _ _ _ h => h) (Or.inl ⟨by rfl, ?_⟩) hHeld ?_ ?_
                        rotate_left
                        · rintro w' ⟨s0, s1, s2, s3, s4, s5, s6, s7, s8, s9, s10, s11, s12, s13⟩
                          go_simp
                          with_reducible rfl
                        rotate_left
                        · simp only [Act.put, List.setIfInBounds_toArray, List.set_cons_zero, List.set_cons_succ, i64_w, i32_w]
                          rfl
                        refine one_ (i := 5) (N := some 28) #[true, true, true, true, true, true] rfl rfl (by kernel_rfl) (by decide) (fun K hK => ?_)
                        refine goes_ Tryd.func61 (by kernel_rfl) rfl #[.agg #[.int .i64 ((rd_TimplLoan l0 x10_1).f0.f0), .int .i64 ((rd_TimplLoan l0 x10_1).f0.f1), .int .i64 ((rd_TimplLoan l0 x10_1).f0.f2), .int .i64 ((rd_TimplLoan l0 x10_1).f0.f3), .bool ((rd_TimplLoan l0 x10_1).f1), .int .i64 ((rd_TimplLoan l0 x10_1).f2), .int .i64 ((rd_TimplLoan l0 x10_1).f3)], .agg #[.int .i64 ((rd_TimplLoan l0 x6_2).f0.f0), .int .i64 ((rd_TimplLoan l0 x6_2).f0.f1), .int .i64 ((rd_TimplLoan l0 x6_2).f0.f2), .int .i64 ((rd_TimplLoan l0 x6_2).f0.f3), .bool ((rd_TimplLoan l0 x6_2).f1), .int .i64 ((rd_TimplLoan l0 x6_2).f2), .int .i64 ((rd_TimplLoan l0 x6_2).f3)]] (by rfl) rfl rfl (by (try simp only [List.map_toArray, List.map_cons, List.map_nil]); first | done | rfl | (simp only [List.length_drop, List.length_take]; rfl)) ?_
                        with_reducible refine (impl_inConflict.calls ((rd_TimplLoan l0 x10_1).f0.f0) ((rd_TimplLoan l0 x10_1).f0.f1) ((rd_TimplLoan l0 x10_1).f0.f2) ((rd_TimplLoan l0 x10_1).f0.f3) ((rd_TimplLoan l0 x10_1).f1) ((rd_TimplLoan l0 x10_1).f2) ((rd_TimplLoan l0 x10_1).f3) ((rd_TimplLoan l0 x6_2).f0.f0) ((rd_TimplLoan l0 x6_2).f0.f1) ((rd_TimplLoan l0 x6_2).f0.f2) ((rd_TimplLoan l0 x6_2).f0.f3) ((rd_TimplLoan l0 x6_2).f1) ((rd_TimplLoan l0 x6_2).f2) ((rd_TimplLoan l0 x6_2).f3) true _ A11.out).mono ?_
                        rintro e w15 ⟨rfl, hb⟩
                        refine ⟨_, rfl, ?_⟩
                        have n0_ := Aside0.mk (Kd.R_below (by (with_reducible repeat (first | apply Kd.R_alloc | apply Kd.R_drewN | apply Kd.R_drew)); exact HO_3.out) hb)
                        have n1_ := Aside0.mk (blk_below (g := gb240) (o := .cells #[.int .i64 ((rd_TimplLoan l0 x10_1).f0.f0), .int .i64 ((rd_TimplLoan l0 x10_1).f0.f1), .int .i64 ((rd_TimplLoan l0 x10_1).f0.f2), .int .i64 ((rd_TimplLoan l0 x10_1).f0.f3), .bool ((rd_TimplLoan l0 x10_1).f1), .int .i64 ((rd_TimplLoan l0 x10_1).f2), .int .i64 ((rd_TimplLoan l0 x10_1).f3)] 59 (0, 0)) (by (with_reducible repeat (first | refine blk_drewN ?_ _ | refine blk_drew ?_ | refine blk_alloc ?_ _)); exact BK240.out) hb)
                        have n2_ := Aside0.mk (below_step (by repeat (first | (with_reducible first | exact HB.out | apply below_alloc | apply pw_below_drewN | apply below_drew1 | refine below_set ?_ GE240.out) | exact HB.out)) hb)
                        clear HO_3
                        clear BK240
                        clear HB
                        have HO_3 := n0_
                        have BK240 := n1_
                        have HB := n2_
                        clear n0_ n1_ n2_
                        (try clear hb)
                        (try clear hb2)
                        (try clear hk)
                        (try clear hi)
                        refine hK.out _ _ ⟨(blk_cell BK240.out 0).trans rfl, (blk_cell BK240.out 1).trans rfl, (blk_cell BK240.out 2).trans rfl, (blk_cell BK240.out 3).trans rfl, (blk_cell BK240.out 4).trans rfl, (blk_cell BK240.out 5).trans rfl, (blk_cell BK240.out 6).trans rfl, (by have h_ := ((HB.out.cell (World.block_lt_of_cell? w _ hw241_0)).trans hw241_0); first | exact h_ | (simp only [*] at h_; exact h_) | (simp [*]; done) | simpa [*] using h_), (by have h_ := ((HB.out.cell (World.block_lt_of_cell? w _ hw241_1)).trans hw241_1); first | exact h_ | (simp only [*] at h_; exact h_) | (simp [*]; done) | simpa [*] using h_), (by have h_ := ((HB.out.cell (World.block_lt_of_cell? w _ hw241_2)).trans hw241_2); first | exact h_ | (simp only [*] at h_; exact h_) | (simp [*]; done) | simpa [*] using h_), (by have h_ := ((HB.out.cell (World.block_lt_of_cell? w _ hw241_3)).trans hw241_3); first | exact h_ | (simp only [*] at h_; exact h_) | (simp [*]; done) | simpa [*] using h_), (by have h_ := ((HB.out.cell (World.block_lt_of_cell? w _ hw241_4)).trans hw241_4); first | exact h_ | (simp only [*] at h_; exact h_) | (simp [*]; done) | simpa [*] using h_), (by have h_ := ((HB.out.cell (World.block_lt_of_cell? w _ hw241_5)).trans hw241_5); first | exact h_ | (simp only [*] at h_; exact h_) | (simp [*]; done) | simpa [*] using h_), (by have h_ := ((HB.out.cell (World.block_lt_of_cell? w _ hw241_6)).trans hw241_6); first | exact h_ | (simp only [*] at h_; exact h_) | (simp [*]; done) | simpa [*] using h_)⟩ (fun hHeld => ?_)
                        clear hK K
                        refine norm_ (a' := ?_) ?_ ?_
                        rotate_left
                        · show Act.put _ (some 28) _ = _
                          simp only [Act.put, List.setIfInBounds_toArray, List.set_cons_zero, List.set_cons_succ, i64_w, i32_w]
                          rfl
                        refine done_ (by kernel_rfl) ?_
                        try go_wp2_with (first | ((with_reducible refine gate_builtin (b := .append) (xs := #[.tmp 29, .tmp 33]) rfl ?_); at_builtin; refine Kd.R_append kA2int (w0 := w) w.heap.size rfl (.tmp 29) (.tmp 33) 46 49 (.agg #[(.int .i64 0), (.int .i64 0)]) 16 rfl Tryd.underlying46 info49 rfl (by decide) (by omega) u3 x3_2 (⟨x10_1, x6_2⟩ : SA2int) [.int .i64 x10_1, .int .i64 x6_2] (fun _ => True) (fun _ => False) rfl rfl ?aP (fun _ hk => hk.elim) ?aF ?aO ?aB ?aS ?aL ?_; (case aP => exact kA2int_mkM _ _ _ (⟨x10_1, x6_2⟩ : SA2int)); (case aB => exact (by repeat (first | (with_reducible first | exact HB.out | apply below_alloc | apply pw_below_drewN | apply below_drew1 | refine below_set ?_ GE240.out) | exact HB.out))); (case aF => exact (fun _ _ => trivial)); (case aO => exact (by (with_reducible repeat (first | apply Kd.R_alloc | apply Kd.R_drewN | apply Kd.R_drew)); exact HO_3.out)); (case aS => exact (below_size (by repeat (first | (with_reducible first | exact HB.out | apply below_alloc | apply pw_below_drewN | apply below_drew1 | refine below_set ?_ GE240.out) | exact HB.out)))); (case aL => have := LMc13.out; omega); intro v244 w16 ho hb hg hat; rw [← Ny243.out] at ho; have n0_ := Aside0.mk (blk_grown (g := gb240) (o := .cells #[.int .i64 ((rd_TimplLoan l0 x10_1).f0.f0), .int .i64 ((rd_TimplLoan l0 x10_1).f0.f1), .int .i64 ((rd_TimplLoan l0 x10_1).f0.f2), .int .i64 ((rd_TimplLoan l0 x10_1).f0.f3), .bool ((rd_TimplLoan l0 x10_1).f1), .int .i64 ((rd_TimplLoan l0 x10_1).f2), .int .i64 ((rd_TimplLoan l0 x10_1).f3)] 59 (0, 0)) (by (with_reducible repeat (first | refine blk_drewN ?_ _ | refine blk_drew ?_ | refine blk_alloc ?_ _)); exact BK240.out) hg (Kd.R_ne HO_3.out BK240.out (by decide))); have n1_ := Aside0.mk (hb); have n2_ := Aside0.mk (ho); clear BK240; clear HB; clear HO_3; have BK240 := n0_; have HB := n1_; have HO245 := n2_; clear n0_ n1_ n2_; clear ho hb hg hat))
                        go_roundg k2
                        case measure => have := HK1.out; have := HK2.out; omega
                        case rel => exact ⟨(y243), (wrap64 (x6_2 + 1)), (by first | rfl | (simp; done) | (simp [*]; done)), H', ⟨by have := HK1.out; have := HK2.out; omega⟩, ⟨by (with_reducible repeat (first | apply Kd.R_alloc | apply Kd.R_drewN | apply Kd.R_drew)); exact HO245.out⟩, ⟨by (with_reducible repeat (first | refine blk_drewN ?_ _ | refine blk_drew ?_ | refine blk_alloc ?_ _)); exact BK240.out⟩, ⟨by repeat (first | (with_reducible first | exact HB.out | apply below_alloc | apply pw_below_drewN | apply below_drew1 | refine below_set ?_ GE240.out) | exact HB.out)⟩⟩
                      · rw [if_neg c13] at H
                        exact absurd H (by simp)
                    · replace c12 := Bool.eq_false_iff.mpr c12
                      subst c12
                      have H1 : (impl_conflicts.l1 k2 l0 x3_2 x10_1 (wrap64 (x6_2 + 1)) l0 (l0.length : Int) x10_1 ((rd_TimplLoan l0 x10_1).f0.f0) ((rd_TimplLoan l0 x10_1).f0.f1) ((rd_TimplLoan l0 x10_1).f0.f2) ((rd_TimplLoan l0 x10_1).f0.f3) ((rd_TimplLoan l0 x10_1).f1) ((rd_TimplLoan l0 x10_1).f2) ((rd_TimplLoan l0 x10_1).f3)) = some r := by rw [if_neg (show ¬ (false = true) by decide)] at H; exact H
                      clear H
                      have H := H1
                      clear H1
                      have H' := Aside0.mk H
                      clear H
                      try go_wp2
                      have n0_ := Aside0.mk (Kd.R_drew HO_3.out)
                      have n1_ := Aside0.mk (blk_drew BK240.out)
                      have n2_ := Aside0.mk (below_drew1 HB.out)
                      clear HO_3
                      clear BK240
                      clear HB
                      have HO_3 := n0_
                      have BK240 := n1_
                      have HB := n2_
                      clear n0_ n1_ n2_
                      have p241 : 0 ≤ (x6_2 : Int) := of_decide_eq_true (by first | (with_reducible assumption) | assumption)
                      have q241 : x6_2 < (l0.length : Int) := of_decide_eq_true (by first | (with_reducible assumption) | assumption)
                      obtain ⟨ad241, e241, hx241_0, hx241_1, hx241_2, hx241_3, hx241_4, hx241_5, hx241_6⟩ := at_TimplLoan HR0.out x6_2 p241 q241
                      have hw241_6 := hx241_6
                      have hw241_5 := hx241_5
                      have hw241_4 := hx241_4
                      have hw241_3 := hx241_3
                      have hw241_2 := hx241_2
                      have hw241_1 := hx241_1
                      have hw241_0 := hx241_0
                      obtain rfl : ad239 = ad241 := (by injection e241)
                      replace hx241_0 := (HB.out.cell (World.block_lt_of_cell? w _ hx241_0)).trans hx241_0
                      replace hx241_1 := (HB.out.cell (World.block_lt_of_cell? w _ hx241_1)).trans hx241_1
                      replace hx241_2 := (HB.out.cell (World.block_lt_of_cell? w _ hx241_2)).trans hx241_2
                      replace hx241_3 := (HB.out.cell (World.block_lt_of_cell? w _ hx241_3)).trans hx241_3
                      replace hx241_4 := (HB.out.cell (World.block_lt_of_cell? w _ hx241_4)).trans hx241_4
                      replace hx241_5 := (HB.out.cell (World.block_lt_of_cell? w _ hx241_5)).trans hx241_5
                      replace hx241_6 := (HB.out.cell (World.block_lt_of_cell? w _ hx241_6)).trans hx241_6
                      replace p241 := eq_true p241
                      replace q241 := eq_true q241
                      refine start_ (n := 6) (S := fun w' => w'.cell? ⟨gb240, 0, none⟩ = some (.int .i64 ((rd_TimplLoan l0 x10_1).f0.f0)) ∧ w'.cell? ⟨gb240, 1, none⟩ = some (.int .i64 ((rd_TimplLoan l0 x10_1).f0.f1)) ∧ w'.cell? ⟨gb240, 2, none⟩ = some (.int .i64 ((rd_TimplLoan l0 x10_1).f0.f2)) ∧ w'.cell? ⟨gb240, 3, none⟩ = some (.int .i64 ((rd_TimplLoan l0 x10_1).f0.f3)) ∧ w'.cell? ⟨gb240, 4, none⟩ = some (.bool ((rd_TimplLoan l0 x10_1).f1)) ∧ w'.cell? ⟨gb240, 5, none⟩ = some (.int .i64 ((rd_TimplLoan l0 x10_1).f2)) ∧ w'.cell? ⟨gb240, 6, none⟩ = some (.int .i64 ((rd_TimplLoan l0 x10_1).f3)) ∧ w'.cell? (ad239.add ((x6_2).toNat * 7)) = some (.int .i64 ((rd_TimplLoan l0 x6_2).f0.f0)) ∧ w'.cell? ⟨(ad239.add ((x6_2).toNat * 7)).block, (ad239.add ((x6_2).toNat * 7)).off + 1, none⟩ = some (.int .i64 ((rd_TimplLoan l0 x6_2).f0.f1)) ∧ w'.cell? ⟨(ad239.add ((x6_2).toNat * 7)).block, (ad239.add ((x6_2).toNat * 7)).off + 2, none⟩ = some (.int .i64 ((rd_TimplLoan l0 x6_2).f0.f2)) ∧ w'.cell? ⟨(ad239.add ((x6_2).toNat * 7)).block, (ad239.add ((x6_2).toNat * 7)).off + 3, none⟩ = some (.int .i64 ((rd_TimplLoan l0 x6_2).f0.f3)) ∧ w'.cell? ⟨(ad239.add ((x6_2).toNat * 7)).block, (ad239.add ((x6_2).toNat * 7)).off + 4, none⟩ = some (.bool ((rd_TimplLoan l0 x6_2).f1)) ∧ w'.cell? ⟨(ad239.add ((x6_2).toNat * 7)).block, (ad239.add ((x6_2).toNat * 7)).off + 5, none⟩ = some (.int .i64 ((rd_TimplLoan l0 x6_2).f2)) ∧ w'.cell? ⟨(ad239.add ((x6_2).toNat * 7)).block, (ad239.add ((x6_2).toNat * 7)).off + 6, none⟩ = some (.int .i64 ((rd_TimplLoan l0 x6_2).f3))) (ds := []) #[false, false, false, false, false, false] (by kernel_rfl) rfl rfl ⟨(blk_cell BK240.out 0).trans rfl, (blk_cell BK240.out 1).trans rfl, (blk_cell BK240.out 2).trans rfl, (blk_cell BK240.out 3).trans rfl, (blk_cell BK240.out 4).trans rfl, (blk_cell BK240.out 5).trans rfl, (blk_cell BK240.out 6).trans rfl, (by have h_ := ((HB.out.cell (World.block_lt_of_cell? w _ hw241_0)).trans hw241_0); first | exact h_ | (simp only [*] at h_; exact h_) | (simp [*]; done) | simpa [*] using h_), (by have h_ := ((HB.out.cell (World.block_lt_of_cell? w _ hw241_1)).trans hw241_1); first | exact h_ | (simp only [*] at h_; exact h_) | (simp [*]; done) | simpa [*] using h_), (by have h_ := ((HB.out.cell (World.block_lt_of_cell? w _ hw241_2)).trans hw241_2); first | exact h_ | (simp only [*] at h_; exact h_) | (simp [*]; done) | simpa [*] using h_), (by have h_ := ((HB.out.cell (World.block_lt_of_cell? w _ hw241_3)).trans hw241_3); first | exact h_ | (simp only [*] at h_; exact h_) | (simp [*]; done) | simpa [*] using h_), (by have h_ := ((HB.out.cell (World.block_lt_of_cell? w _ hw241_4)).trans hw241_4); first | exact h_ | (simp only [*] at h_; exact h_) | (simp [*]; done) | simpa [*] using h_), (by have h_ := ((HB.out.cell (World.block_lt_of_cell? w _ hw241_5)).trans hw241_5); first | exact h_ | (simp only [*] at h_; exact h_) | (simp [*]; done) | simpa [*] using h_), (by have h_ := ((HB.out.cell (World.block_lt_of_cell? w _ hw241_6)).trans hw241_6); first | exact h_ | (simp only [*] at h_; exact h_) | (simp [*]; done) | simpa [*] using h_)⟩ (fun hHeld => ?_)
                      generalize wr.drew = w17 at HO_3 BK240 HB hx241_0 hx241_1 hx241_2 hx241_3 hx241_4 hx241_5 hx241_6 hHeld ⊢
                      refine pure_ (i := 1) (N := some 24) (v := ?_) (a' := ?_) #[false, true, false, false, false, false] rfl rfl (by kernel_rfl) (fun _ _ _ h => h) (Or.inl ⟨by rfl, ?_⟩) ?_ ?_
                      rotate_left
                      · intro w'
                        go_simp
                        with_reducible rfl
                      rotate_left
                      · simp only [Act.put, List.setIfInBounds_toArray, List.set_cons_zero, List.set_cons_succ, i64_w, i32_w]
                        rfl
                      refine pure_ (i := 2) (N := some 25) (v := ?_) (a' := ?_) #[false, true, true, false, false, false] rfl rfl (by kernel_rfl) (fun _ _ _ h => h) (Or.inl ⟨by rfl, ?_⟩) ?_ ?_
                      rotate_left
                      · intro w'
                        go_simp
                        with_reducible rfl
                      rotate_left
                      · simp only [Act.put, List.setIfInBounds_toArray, List.set_cons_zero, List.set_cons_succ, i64_w, i32_w]
                        rfl
                      refine pure_ (i := 3) (N := some 26) (v := ?_) (a' := ?_) #[false, true, true, true, false, false] rfl rfl (by kernel_rfl) (fun _ _ _ h => h) (Or.inl ⟨by rfl, ?_⟩) ?_ ?_
                      rotate_left
                      · intro w'
                        go_simp
                        with_reducible rfl
                      rotate_left
                      · simp only [Act.put, List.setIfInBounds_toArray, List.set_cons_zero, List.set_cons_succ, i64_w, i32_w]
                        rfl
                      refine take_ (i := 0) (N := some 23) (v := ?_) (a' := ?_) #[true, true, true, true, false, false] rfl rfl (by kernel_rfl) (fun _ _ _ h => h) (Or.inl ⟨by rfl, ?_⟩) hHeld ?_ ?_
                      rotate_left
                      · rintro w' ⟨s0, s1, s2, s3, s4, s5, s6, s7, s8, s9, s10, s11, s12, s13⟩
                        go_simp
                        with_reducible rfl
                      rotate_left
                      · simp only [Act.put, List.setIfInBounds_toArray, List.set_cons_zero, List.set_cons_succ, i64_w, i32_w]
                        rfl
                      refine take_ (i := 4) (N := some 27) (v := ?_) (a' := ?_) #[true, true, true, true, true, false] rfl rfl (by kernel_rfl) (fun _ _ _ h => h) (Or.inl ⟨by rfl, ?_⟩) hHeld ?_ ?_
                      rotate_left
                      · rintro w' ⟨s0, s1, s2, s3, s4, s5, s6, s7, s8, s9, s10, s11, s12, s13⟩
                        go_simp
                        with_reducible rfl
                      rotate_left
                      · simp only [Act.put, List.setIfInBounds_toArray, List.set_cons_zero, List.set_cons_succ, i64_w, i32_w]
                        rfl
                      refine one_ (i := 5) (N := some 28) #[true, true, true, true, true, true] rfl rfl (by kernel_rfl) (by decide) (fun K hK => ?_)
                      refine goes_ Tryd.func61 (by kernel_rfl) rfl #[.agg #[.int .i64 ((rd_TimplLoan l0 x10_1).f0.f0), .int .i64 ((rd_TimplLoan l0 x10_1).f0.f1), .int .i64 ((rd_TimplLoan l0 x10_1).f0.f2), .int .i64 ((rd_TimplLoan l0 x10_1).f0.f3), .bool ((rd_TimplLoan l0 x10_1).f1), .int .i64 ((rd_TimplLoan l0 x10_1).f2), .int .i64 ((rd_TimplLoan l0 x10_1).f3)], .agg #[.int .i64 ((rd_TimplLoan l0 x6_2).f0.f0), .int .i64 ((rd_TimplLoan l0 x6_2).f0.f1), .int .i64 ((rd_TimplLoan l0 x6_2).f0.f2), .int .i64 ((rd_TimplLoan l0 x6_2).f0.f3), .bool ((rd_TimplLoan l0 x6_2).f1), .int .i64 ((rd_TimplLoan l0 x6_2).f2), .int .i64 ((rd_TimplLoan l0 x6_2).f3)]] (by rfl) rfl rfl (by (try simp only [List.map_toArray, List.map_cons, List.map_nil]); first | done | rfl | (simp only [List.length_drop, List.length_take]; rfl)) ?_
                      with_reducible refine (impl_inConflict.calls ((rd_TimplLoan l0 x10_1).f0.f0) ((rd_TimplLoan l0 x10_1).f0.f1) ((rd_TimplLoan l0 x10_1).f0.f2) ((rd_TimplLoan l0 x10_1).f0.f3) ((rd_TimplLoan l0 x10_1).f1) ((rd_TimplLoan l0 x10_1).f2) ((rd_TimplLoan l0 x10_1).f3) ((rd_TimplLoan l0 x6_2).f0.f0) ((rd_TimplLoan l0 x6_2).f0.f1) ((rd_TimplLoan l0 x6_2).f0.f2) ((rd_TimplLoan l0 x6_2).f0.f3) ((rd_TimplLoan l0 x6_2).f1) ((rd_TimplLoan l0 x6_2).f2) ((rd_TimplLoan l0 x6_2).f3) false _ A11.out).mono ?_
                      rintro e w18 ⟨rfl, hb⟩
                      refine ⟨_, rfl, ?_⟩
                      have n0_ := Aside0.mk (Kd.R_below (by (with_reducible repeat (first | apply Kd.R_alloc | apply Kd.R_drewN | apply Kd.R_drew)); exact HO_3.out) hb)
                      have n1_ := Aside0.mk (blk_below (g := gb240) (o := .cells #[.int .i64 ((rd_TimplLoan l0 x10_1).f0.f0), .int .i64 ((rd_TimplLoan l0 x10_1).f0.f1), .int .i64 ((rd_TimplLoan l0 x10_1).f0.f2), .int .i64 ((rd_TimplLoan l0 x10_1).f0.f3), .bool ((rd_TimplLoan l0 x10_1).f1), .int .i64 ((rd_TimplLoan l0 x10_1).f2), .int .i64 ((rd_TimplLoan l0 x10_1).f3)] 59 (0, 0)) (by (with_reducible repeat (first | refine blk_drewN ?_ _ | refine blk_drew ?_ | refine blk_alloc ?_ _)); exact BK240.out) hb)
                      have n2_ := Aside0.mk (below_step (by repeat (first | (with_reducible first | exact HB.out | apply below_alloc | apply pw_below_drewN | apply below_drew1 | refine below_set ?_ GE240.out) | exact HB.out)) hb)
                      clear HO_3
                      clear BK240
                      clear HB
                      have HO_3 := n0_
                      have BK240 := n1_
                      have HB := n2_
                      clear n0_ n1_ n2_
                      (try clear hb)
                      (try clear hb2)
                      (try clear hk)
                      (try clear hi)
                      refine hK.out _ _ ⟨(blk_cell BK240.out 0).trans rfl, (blk_cell BK240.out 1).trans rfl, (blk_cell BK240.out 2).trans rfl, (blk_cell BK240.out 3).trans rfl, (blk_cell BK240.out 4).trans rfl, (blk_cell BK240.out 5).trans rfl, (blk_cell BK240.out 6).trans rfl, (by have h_ := ((HB.out.cell (World.block_lt_of_cell? w _ hw241_0)).trans hw241_0); first | exact h_ | (simp only [*] at h_; exact h_) | (simp [*]; done) | simpa [*] using h_), (by have h_ := ((HB.out.cell (World.block_lt_of_cell? w _ hw241_1)).trans hw241_1); first | exact h_ | (simp only [*] at h_; exact h_) | (simp [*]; done) | simpa [*] using h_), (by have h_ := ((HB.out.cell (World.block_lt_of_cell? w _ hw241_2)).trans hw241_2); first | exact h_ | (simp only [*] at h_; exact h_) | (simp [*]; done) | simpa [*] using h_), (by have h_ := ((HB.out.cell (World.block_lt_of_cell? w _ hw241_3)).trans hw241_3); first | exact h_ | (simp only [*] at h_; exact h_) | (simp [*]; done) | simpa [*] using h_), (by have h_ := ((HB.out.cell (World.block_lt_of_cell? w _ hw241_4)).trans hw241_4); first | exact h_ | (simp only [*] at h_; exact h_) | (simp [*]; done) | simpa [*] using h_), (by have h_ := ((HB.out.cell (World.block_lt_of_cell? w _ hw241_5)).trans hw241_5); first | exact h_ | (simp only [*] at h_; exact h_) | (simp [*]; done) | simpa [*] using h_), (by have h_ := ((HB.out.cell (World.block_lt_of_cell? w _ hw241_6)).trans hw241_6); first | exact h_ | (simp only [*] at h_; exact h_) | (simp [*]; done) | simpa [*] using h_)⟩ (fun hHeld => ?_)
                      clear hK K
                      refine norm_ (a' := ?_) ?_ ?_
                      rotate_left
                      · show Act.put _ (some 28) _ = _
                        simp only [Act.put, List.setIfInBounds_toArray, List.set_cons_zero, List.set_cons_succ, i64_w, i32_w]
                        rfl
                      refine done_ (by kernel_rfl) ?_
                      try go_wp2
                      go_roundg k2
                      case measure => have := HK1.out; have := HK2.out; omega
                      case rel => exact ⟨(x3_2), (wrap64 (x6_2 + 1)), (by first | rfl | (simp; done) | (simp [*]; done)), H', ⟨by have := HK1.out; have := HK2.out; omega⟩, ⟨by (with_reducible repeat (first | apply Kd.R_alloc | apply Kd.R_drewN | apply Kd.R_drew)); exact HO_3.out⟩, ⟨by (with_reducible repeat (first | refine blk_drewN ?_ _ | refine blk_drew ?_ | refine blk_alloc ?_ _)); exact BK240.out⟩, ⟨by repeat (first | (with_reducible first | exact HB.out | apply below_alloc | apply pw_below_drewN | apply below_drew1 | refine below_set ?_ GE240.out) | exact HB.out)⟩⟩
                  · rw [if_neg c10] at H
                    exact absurd H (by simp)
                · rw [if_neg c9] at H
                  have c9b0 : decide (x6_2 < (l0.length : Int)) = false := decide_eq_false c9
                  clear c9
                  have H' := Aside0.mk H
                  clear H
                  go_wp2
                  go_roundg k2
                  case measure => have := HK1.out; have := HK2.out; omega
                  case rel => exact ⟨(x3_2), (wrap64 (x10_1 + 1)), (by first | rfl | (simp; done) | (simp [*]; done)), H', ⟨by have := HK1.out; have := HK2.out; omega⟩, ⟨by (with_reducible repeat (first | apply Kd.R_alloc | apply Kd.R_drewN | apply Kd.R_drew)); exact HO_3.out⟩, ⟨by repeat (first | (with_reducible first | exact HB.out | apply below_alloc | apply pw_below_drewN | apply below_drew1 | refine below_set ?_ GE240.out) | exact HB.out)⟩⟩
          · rw [if_neg c6] at H
            exact absurd H (by simp)
        · rw [if_neg c5] at H
          exact absurd H (by simp)
      · rw [if_neg c4] at H
        have c4b0 : decide (x10_1 < (l0.length : Int)) = false := decide_eq_false c4
        clear c4
        obtain rfl := Option.some.inj H
        go_wp2
        go_ret
        exact ⟨_, by first | rfl | (simp [errW_none, errW_some] <;> rfl) | (simp [*, errW_none, errW_some] <;> rfl), by (with_reducible repeat (first | apply Kd.R_alloc | apply Kd.R_drewN | apply Kd.R_drew)); exact HO_3.out, by repeat (first | (with_reducible first | exact HB.out | apply below_alloc | apply pw_below_drewN | apply below_drew1) | exact HB.out)⟩

end Go.Proofs.YtpbboooeahmgpaaDoor.P


namespace Go.Proofs.YtpbboooeahmgpaaDoor.P
open Go.RowKit Go.Proofs.YtpbboooeahmgpaaDoorW.PrintWords Go.Proofs.YtpbboooeahmgpaaDoorW.PrintLast Go.Proofs.YtpbboooeahmgpaaDoorW.PrintMore
attribute [local go_sem] max2_int min2_int max_two min_two max_three min_three max_four min_four   -- for this text's walks alone
set_option linter.unusedVariables false
set_option linter.unusedSimpArgs false

def impl_areClean.f (k : Nat) (l0 : List (SimplLoan)) : Option (Bool) := (impl_conflicts.f k l0).bind fun t246 => (some ((t246.length : Int) == 0))
set_option maxHeartbeats 8000000 in
set_option maxRecDepth 100000 in
theorem impl_areClean.calls (k : Nat) (A0 : Option Addr) (c0 : Nat) (l0 : List (SimplLoan)) (r : Bool) (w : World) (hr0 : Kd.C kimplLoan w A0 l0.length l0) (hc0 : l0.length ≤ c0) (h : impl_areClean.f k l0 = some r) :
    Calls Tryd.prog 44 #[.slice A0 l0.length c0] w fun e w' => e = .returned (.bool r) ∧ Below w.heap.size w w' := by
  have HR0 := Aside0.mk hr0
  have HC0 := Aside0.mk hc0
  clear hr0 hc0
  have HB := Aside0.mk (Below.refl w.heap.size w)
  have H : ((impl_conflicts.f k l0).bind fun t246 => (some ((t246.length : Int) == 0))) = some r := h
  clear h
  replace H := Option.bind_eq_some_iff.mp H
  obtain ⟨t246, A20, H⟩ := H
  replace H : (some ((t246.length : Int) == 0)) = some r := H
  have A2 := Aside0.mk A20
  clear A20
  obtain rfl := Option.some.inj H
  go_enter Tryd.func44, Tryd.ntmps44
  go_wp2_with (first | ((with_reducible refine gate_callee (f := 50) rfl ?_); refine goesL_ (some 4) rfl rfl Tryd.func50 (by kernel_rfl) rfl #[.slice A0 l0.length c0] rfl (by (try simp only [List.map_toArray, List.map_cons, List.map_nil]); first | done | rfl | (simp only [List.length_drop, List.length_take]; rfl)) ?_; (with_reducible refine (impl_conflicts.calls k _ _ l0 t246 _ ?side1 ?side2 A2.out).mono ?_); (case side1 => repeat (first | exact HR0.out | (with_reducible refine Kd.C_alloc ?_ _) | (with_reducible refine Kd.C_drewN ?_ _) | (with_reducible refine Kd.C_drew ?_))); (case side2 => exact HC0.out); rintro e w3 ⟨v247, rfl, ho0, hb⟩; refine ⟨_, rfl, ?_⟩; have n0_ := Aside0.mk (Kd.R_lower ho0 (below_size (by repeat (first | (with_reducible first | exact HB.out | apply below_alloc | apply pw_below_drewN | apply below_drew1) | exact HB.out)))); have n1_ := Aside0.mk (below_step (by repeat (first | (with_reducible first | exact HB.out | apply below_alloc | apply pw_below_drewN | apply below_drew1) | exact HB.out)) hb); clear HB; have HO248 := n0_; have HB := n1_; clear n0_ n1_; (try clear hb); (try clear hb2); (try clear hk); (try clear hi); (try clear ho0); obtain ⟨Ao4, co4, eo4⟩ := Kd.R_slice HO248.out; subst eo4))
  go_ret
  exact ⟨by first | rfl | (simp [errW_none, errW_some] <;> rfl) | (simp [*, errW_none, errW_some] <;> rfl), by repeat (first | (with_reducible first | exact HB.out | apply below_alloc | apply pw_below_drewN | apply below_drew1) | exact HB.out)⟩

end Go.Proofs.YtpbboooeahmgpaaDoor.P


/- What the printed functions over loans come to. -/
namespace Go.Proofs.YtpbboooeahmgpaaDoor.P
open Go.RowKit Go.Proofs.YtpbboooeahmgpaaDoorW.PrintWords Go.Proofs.YtpbboooeahmgpaaDoorW.PrintMore
set_option linter.unusedVariables false
set_option linter.unusedSimpArgs false
def loanOf (x : SlawsLoan) : SimplLoan := ⟨⟨x.f0.f0, x.f0.f1, x.f0.f2, x.f0.f3⟩, x.f1, x.f2, x.f3⟩
theorem szLoanS_f (l : List SlawsLoan) (a : Int) (h0 : 0 ≤ a) (h1 : a ≤ 1048576) (hl : l.length ≤ 9223372036854775807) :
    laws_szLoanS.f l a = some (if (l.length : Int) ≤ a then a - l.length else -1) := by
  unfold laws_szLoanS.f
  rw [wrap_ok (by omega) (by omega)]
  by_cases h : (l.length : Int) ≤ a
  · rw [if_neg (by omega), if_pos h]
  · rw [if_pos (by omega), if_neg h]
theorem rdLL_mid (pre : List SlawsLoan) (x : SlawsLoan) (suf : List SlawsLoan) : rd_TlawsLoan (pre ++ x :: suf) (pre.length : Int) = x := by
  unfold rd_TlawsLoan
  simp
theorem rdL_mid (pre : List SimplLoan) (x : SimplLoan) (suf : List SimplLoan) : rd_TimplLoan (pre ++ x :: suf) (pre.length : Int) = x := by
  unfold rd_TimplLoan
  simp
theorem toLoan_f (a b c d : Int) (o : Bool) (e f : Int) : laws_toLoan.f a b c d o e f = some (a, b, c, d, o, e, f) := rfl
theorem toLoanS_ev (suf : List SlawsLoan) : ∀ (pre : List SlawsLoan) (zs : List SimplLoan), zs.length = suf.length → pre.length + suf.length ≤ 4611686018427387904 →
    Ev (fun k => laws_toLoanS.l0 k (pre ++ suf) (pre.map loanOf ++ zs) (pre.length : Int)) ((pre ++ suf).map loanOf) := by
  induction suf with
  | nil =>
    intro pre zs hz h2
    obtain rfl : zs = [] := List.eq_nil_of_length_eq_zero hz
    refine Ev.step (fun k => ?_) (Ev.now _)
    simp [laws_toLoanS.l0]
  | cons x suf ih =>
    intro pre zs hz h2
    obtain ⟨z, zs, rfl⟩ : ∃ z zs', zs = z :: zs' := by
      cases zs with
      | nil => simp at hz
      | cons z zs => exact ⟨z, zs, rfl⟩
    simp only [List.length_cons] at h2 hz
    refine Ev.step (f := fun k => laws_toLoanS.l0 k ((pre ++ [x]) ++ suf) ((pre ++ [x]).map loanOf ++ zs) ((pre ++ [x]).length : Int)) (fun k => ?_) ?_
    · simp only [laws_toLoanS.l0, toLoan_f, Option.bind_some]
      rw [if_pos (by simp; omega), if_pos (by omega), if_pos (by simp; omega), rdLL_mid, wrap_len (by omega)]
      have := set_mid (pre.map loanOf) z (loanOf x) zs
      rw [List.length_map] at this
      rw [Int.toNat_natCast, show (⟨⟨x.f0.f0, x.f0.f1, x.f0.f2, x.f0.f3⟩, x.f1, x.f2, x.f3⟩ : SimplLoan) = loanOf x from rfl, this]
      simp
    · have := ih (pre ++ [x]) zs (by omega) (by simp; omega)
      simpa using this
theorem toLoanS_f (l : List SlawsLoan) (h : l.length ≤ 1048576) : Ev (fun k => laws_toLoanS.f k l) (l.map loanOf) := by
  refine Ev.congr (fun k => ?_) (toLoanS_ev l [] (List.replicate l.length zimplLoan) (by simp) (by simp; omega))
  unfold laws_toLoanS.f
  rw [if_pos (by omega), if_pos (by simp; omega)]
  simp
theorem eqLoan_f (a b c d : Int) (o : Bool) (e f : Int) : laws_eqLoan.f a b c d o e f a b c d o e f = some true := if_pos ⟨⟨rfl, rfl, rfl, rfl⟩, rfl, rfl, rfl⟩
theorem eqLoanS_ev (suf : List SimplLoan) : ∀ (pre : List SimplLoan), pre.length + suf.length ≤ 9223372036854775807 → Ev (fun k => laws_eqLoanS.l0 k (pre ++ suf) (pre ++ suf) (pre.length : Int)) true := by
  induction suf with
  | nil =>
    intro pre h2
    refine Ev.step (fun k => ?_) (Ev.now _)
    simp [laws_eqLoanS.l0]
  | cons x suf ih =>
    intro pre h2
    simp only [List.length_cons] at h2
    refine Ev.step (f := fun k => laws_eqLoanS.l0 k ((pre ++ [x]) ++ suf) ((pre ++ [x]) ++ suf) ((pre ++ [x]).length : Int)) (fun k => ?_) (ih (pre ++ [x]) (by simp; omega))
    simp only [laws_eqLoanS.l0]
    rw [if_pos (by simp; omega), if_pos (by omega), if_pos (by simp; omega), eqLoan_f, Option.bind_some, if_pos rfl, wrap_len (by omega)]
    simp
theorem eqLoanS_f (l : List SimplLoan) (h : l.length ≤ 9223372036854775807) : Ev (fun k => laws_eqLoanS.f k l l) true := by
  refine Ev.congr (fun k => ?_) (eqLoanS_ev l [] (by simpa using h))
  unfold laws_eqLoanS.f
  rw [if_pos rfl]
  rfl
def wfL (x : SimplLoan) : Prop := -9223372036854775808 ≤ x.f0.f1 ∧ x.f0.f1 ≤ 9223372036854775807
theorem l10Loan_f (m : List (List Int)) (x : SimplLoan) (hm : okM m) (hs : wfL x) : Ev (fun k => spec_l10Loan.f k m x.f0.f0 x.f0.f1 x.f0.f2 x.f0.f3 x.f1 x.f2 x.f3) (memB m && loanB m x) := by
  refine Ev.bind (l2Window_f m x.f0.f0 x.f0.f1 x.f0.f2 x.f0.f3 hm.len hm.rows hs) ?_
  unfold loanB winW
  rw [l1In_f, l1In_f]
  cases memB m
  · exact Ev.now _
  · cases winB m x.f0.f0 x.f0.f1 x.f0.f2 x.f0.f3
    · exact Ev.now _
    · simp only [Bool.and_self, Bool.true_and, if_true, Option.bind_some]
      cases decide (0 ≤ x.f3 ∧ x.f3 ≤ 60)
      · exact Ev.now _
      · exact Ev.now _
def loansB (m : List (List Int)) (l : List SimplLoan) : Bool := memB m && l.all (loanB m) && decide (l.length ≤ 8)
theorem l10Loans_ev (m : List (List Int)) (hm : okM m) (suf : List SimplLoan) : ∀ (pre : List SimplLoan), pre.length ≤ 9 → pre.length + suf.length ≤ 9223372036854775807 → (∀ x ∈ suf, wfL x) →
    Ev (fun k => spec_l10Loans.l0 k (pre ++ suf) (pre.length : Int) m) (memB m && suf.all (loanB m) && decide ((pre ++ suf).length ≤ 8)) := by
  have fin : ∀ (l : List SimplLoan), Ev (fun k => (spec_l2Memory.f k m).bind fun t => if t = true then some (decide ((l.length : Int) ≤ 8)) else some false) (memB m && decide (l.length ≤ 8)) := by
    intro l
    refine Ev.bind (l2Memory_f m hm.len) ?_
    cases hb : memB m
    · exact Ev.now _
    · simp only [if_true, Bool.true_and]
      have : decide ((l.length : Int) ≤ 8) = decide (l.length ≤ 8) := by rw [decide_eq_decide]; omega
      rw [this]
      exact Ev.now _
  induction suf with
  | nil =>
    intro pre h1 h2 h3
    refine Ev.step (f := fun k => spec_l10Loans.j1 k (pre ++ []) (pre.length : Int) false m) (fun k => ?_) (Ev.step (f := fun k => (spec_l2Memory.f k m).bind fun t => if t = true then some (decide (((pre ++ [] : List SimplLoan).length : Int) ≤ 8)) else some false) (fun k => ?_) ?_)
    rotate_left
    · simp only [spec_l10Loans.j1, Bool.false_eq_true, if_false]
    · have := fin (pre ++ [])
      simpa using this
    · simp only [spec_l10Loans.l0]
      rw [if_neg (by simp)]
  | cons x suf ih =>
    intro pre h1 h2 h3
    simp only [List.length_cons] at h2
    by_cases h13 : pre.length ≤ 8
    · refine Ev.step (f := fun k => spec_l10Loans.j1 k (pre ++ x :: suf) (pre.length : Int) true m) (fun k => ?_) ?_
      · simp only [spec_l10Loans.l0]
        rw [if_pos (by simp; omega), decide_eq_true (by omega)]
      · refine Ev.step (f := fun k => (spec_l10Loan.f k m x.f0.f0 x.f0.f1 x.f0.f2 x.f0.f3 x.f1 x.f2 x.f3).bind fun t => if t = true then spec_l10Loans.l0 k ((pre ++ [x]) ++ suf) ((pre ++ [x]).length : Int) m else some false) (fun k => ?_) ?_
        · simp only [spec_l10Loans.j1]
          rw [if_pos trivial, if_pos (by omega), if_pos (by simp; omega), rdL_mid, wrap_len (by omega)]
          simp
        · refine Ev.bind (l10Loan_f m x hm (h3 x (by simp))) ?_
          cases hb : memB m
          · simp only [Bool.false_and, Bool.false_eq_true, if_false]
            exact Ev.now _
          · cases hw : loanB m x
            · simp only [Bool.and_false, Bool.false_eq_true, if_false]
              have : (x :: suf).all (loanB m) = false := by simp [hw]
              rw [this]
              exact Ev.now _
            · simp only [Bool.and_self, if_true]
              have := ih (pre ++ [x]) (by simp; omega) (by simp; omega) (fun y hy => h3 y (by simp [hy]))
              have e : (x :: suf).all (loanB m) = suf.all (loanB m) := by simp [hw]
              rw [e]
              simpa [hb] using this
    · refine Ev.step (f := fun k => spec_l10Loans.j1 k (pre ++ x :: suf) (pre.length : Int) false m) (fun k => ?_) (Ev.step (f := fun k => (spec_l2Memory.f k m).bind fun t => if t = true then some (decide (((pre ++ x :: suf : List SimplLoan).length : Int) ≤ 8)) else some false) (fun k => ?_) ?_)
      rotate_left
      · simp only [spec_l10Loans.j1, Bool.false_eq_true, if_false]
      · have := fin (pre ++ x :: suf)
        have hl : decide ((pre ++ x :: suf).length ≤ 8) = false := by simp; omega
        rw [hl] at this ⊢
        simpa using this
      · simp only [spec_l10Loans.l0]
        rw [if_pos (by simp; omega), decide_eq_false (by omega)]
theorem l10Loans_f (m : List (List Int)) (l : List SimplLoan) (hm : okM m) (hl : l.length ≤ 9223372036854775807) (h3 : ∀ x ∈ l, wfL x) : Ev (fun k => spec_l10Loans.f k m l) (loansB m l) := by
  have := l10Loans_ev m hm l [] (by simp) (by simpa using hl) h3
  simpa [spec_l10Loans.f, loansB] using this
theorem areLoans_f (m : List (List Int)) (l : List SimplLoan) : impl_areLoans.f m l = some (loansB m l) := by
  unfold impl_areLoans.f impl_areAnyLoans.f loansB
  rw [Option.bind_some]
  cases memB m && l.all (loanB m)
  · rfl
  · rw [if_pos rfl, Bool.true_and]
    congr 1
    rw [decide_eq_decide]
    omega
def rangeL (x : SimplLoan) : Prop := (0 ≤ x.f0.f1 ∧ x.f0.f1 ≤ 64) ∧ (0 ≤ x.f0.f2 ∧ x.f0.f2 ≤ 64) ∧ (0 ≤ x.f2 ∧ x.f2 ≤ 1000000) ∧ (0 ≤ x.f3 ∧ x.f3 ≤ 1000000)
theorem rangeL_of {m : List (List Int)} {x : SimplLoan} (hm : memB m = true) (h : loanB m x = true) : rangeL x := by
  unfold loanB winW winB at h
  simp only [Bool.and_eq_true, decide_eq_true_eq] at h
  obtain ⟨⟨h0, h1, h2, h3, h4, h5, h6, h7⟩, ⟨h8, h9⟩, h10, h11⟩ := h
  have hr : (rd_Lsu8 m x.f0.f0).length ≤ 64 := by
    unfold rd_Lsu8
    rw [List.getD_eq_getElem?_getD, List.getElem?_eq_getElem (show x.f0.f0.toNat < m.length by omega)]
    exact (memB_rows hm _ (List.getElem_mem _)).2
  unfold rangeL
  omega
def shareB (a b : SimplWindow) : Bool := decide (a.f0 = b.f0 ∧ mx a.f1 b.f1 < mn (a.f1 + a.f2) (b.f1 + b.f2))
def confB (a b : SimplLoan) : Bool := (a.f1 || b.f1) && (shareB a.f0 b.f0 && decide (mx a.f2 b.f2 < mn a.f3 b.f3))
theorem areShared_f (a b : SimplWindow) (ha : 0 ≤ a.f1 ∧ a.f1 ≤ 64) (ha2 : 0 ≤ a.f2 ∧ a.f2 ≤ 64) (hb : 0 ≤ b.f1 ∧ b.f1 ≤ 64) (hb2 : 0 ≤ b.f2 ∧ b.f2 ≤ 64) : impl_areShared.f a.f0 a.f1 a.f2 a.f3 b.f0 b.f1 b.f2 b.f3 = some (shareB a b) := by
  unfold impl_areShared.f impl_common.f shareB
  rw [wrap_ok (by omega) (by omega), wrap_ok (x := b.f1 + b.f2) (by omega) (by omega)]
  by_cases h : a.f0 = b.f0
  · rw [if_pos h]
    by_cases h2 : mx a.f1 b.f1 ≥ mn (a.f1 + a.f2) (b.f1 + b.f2)
    · rw [if_pos h2, Option.bind_some]
      congr 1
      rw [decide_eq_decide]
      omega
    · rw [if_neg h2, Option.bind_some]
      congr 1
      rw [decide_eq_decide]
      have h3 : mn (a.f1 + a.f2) (b.f1 + b.f2) ≤ 128 := by unfold mn; split <;> omega
      have h4 : 0 ≤ mx a.f1 b.f1 := by unfold mx; split <;> omega
      simp only [wrap_ok (x := mn (a.f1 + a.f2) (b.f1 + b.f2) - mx a.f1 b.f1) (by omega) (by omega)]
      omega
  · rw [if_neg h, Option.bind_some]
    congr 1
    rw [decide_eq_decide]
    omega
theorem inConflict_f (a b : SimplLoan) (ha : rangeL a) (hb : rangeL b) : impl_inConflict.f a.f0.f0 a.f0.f1 a.f0.f2 a.f0.f3 a.f1 a.f2 a.f3 b.f0.f0 b.f0.f1 b.f0.f2 b.f0.f3 b.f1 b.f2 b.f3 = some (confB a b) := by
  unfold impl_inConflict.f confB
  rw [areShared_f a.f0 b.f0 ha.1 ha.2.1 hb.1 hb.2.1, Option.bind_some]
  cases a.f1 <;> cases b.f1 <;> cases shareB a.f0 b.f0 <;> simp
theorem l1Most_f (a b : Int) : spec_l1Most.f a b = some (mx a b) := by
  unfold spec_l1Most.f mx
  by_cases h : a > b
  · rw [if_pos h, if_neg (by omega)]
  · rw [if_neg h]
    by_cases h2 : a < b
    · rw [if_pos h2]
    · rw [if_neg h2, show a = b by omega]
theorem l1Least_f (a b : Int) : spec_l1Least.f a b = some (mn a b) := by
  unfold spec_l1Least.f mn
  by_cases h : a < b
  · rw [if_pos h, if_neg (by omega)]
  · rw [if_neg h]
    by_cases h2 : b < a
    · rw [if_pos h2]
    · rw [if_neg h2, show a = b by omega]
theorem l2Overlap_f (a b : SimplWindow) (ha : 0 ≤ a.f1 ∧ a.f1 ≤ 64) (ha2 : 0 ≤ a.f2 ∧ a.f2 ≤ 64) (hb : 0 ≤ b.f1 ∧ b.f1 ≤ 64) (hb2 : 0 ≤ b.f2 ∧ b.f2 ≤ 64) : ∃ n, spec_l2Overlap.f a.f0 a.f1 a.f2 a.f3 b.f0 b.f1 b.f2 b.f3 = some n ∧ (n = 0 ↔ shareB a b = false) := by
  unfold spec_l2Overlap.f shareB
  rw [wrap_ok (by omega) (by omega), wrap_ok (x := b.f1 + b.f2) (by omega) (by omega)]
  by_cases h : a.f0 = b.f0
  · rw [if_pos h]
    simp only [l1Least_f, l1Most_f, Option.bind_some]
    have h3 : mn (a.f1 + a.f2) (b.f1 + b.f2) ≤ 128 ∧ 0 ≤ mn (a.f1 + a.f2) (b.f1 + b.f2) := by unfold mn; split <;> omega
    have h4 : 0 ≤ mx a.f1 b.f1 ∧ mx a.f1 b.f1 ≤ 64 := by unfold mx; split <;> omega
    rw [wrap_ok (by omega) (by omega)]
    refine ⟨_, rfl, ?_⟩
    rw [decide_eq_false_iff_not]
    generalize mn (a.f1 + a.f2) (b.f1 + b.f2) = x at *
    generalize mx a.f1 b.f1 = y at *
    unfold mx
    split <;> omega
  · rw [if_neg h]
    exact ⟨_, rfl, by simp [h]⟩
theorem l10Clash_f (a b : SimplLoan) (ha : rangeL a) (hb : rangeL b) : spec_l10Clash.f a.f0.f0 a.f0.f1 a.f0.f2 a.f0.f3 a.f1 a.f2 a.f3 b.f0.f0 b.f0.f1 b.f0.f2 b.f0.f3 b.f1 b.f2 b.f3 = some (if confB a b = true then mx a.f2 b.f2 else -1) := by
  unfold spec_l10Clash.f confB
  obtain ⟨n, hn, hs⟩ := l2Overlap_f a.f0 b.f0 ha.1 ha.2.1 hb.1 hb.2.1
  rw [hn, l1Most_f, l1Least_f]
  simp only [Option.bind_some]
  have e : (if n = 0 then some (-1 : Int) else if mx a.f2 b.f2 ≥ mn a.f3 b.f3 then some (-1) else some (mx a.f2 b.f2)) = some (if (shareB a.f0 b.f0 && decide (mx a.f2 b.f2 < mn a.f3 b.f3)) = true then mx a.f2 b.f2 else -1) := by
    cases hsh : shareB a.f0 b.f0
    · rw [if_pos (hs.2 hsh)]
      simp
    · rw [if_neg (fun h => by rw [hs.1 h] at hsh; cases hsh)]
      by_cases h : mx a.f2 b.f2 ≥ mn a.f3 b.f3
      · rw [if_pos h, decide_eq_false (by omega)]
        simp
      · rw [if_neg h, decide_eq_true (by omega)]
        simp
  cases a.f1
  · cases b.f1
    · simp
    · simpa using e
  · simpa using e
theorem mx_nonneg {a b : SimplLoan} (ha : rangeL a) : 0 ≤ mx a.f2 b.f2 := by have := ha.2.2.1; unfold mx; split <;> omega
theorem clash_ge {a b : SimplLoan} (ha : rangeL a) : ((if confB a b = true then mx a.f2 b.f2 else -1) ≥ 0) ↔ confB a b = true := by
  have := mx_nonneg (b := b) ha
  split
  · rename_i h; simp [h]; omega
  · rename_i h; simp [h]
def rowP (a : SimplLoan) (i : Nat) : Nat → List SimplLoan → List SA2int
  | _, [] => []
  | k, b :: r => if confB a b = true then ⟨(i : Int), (k : Int)⟩ :: rowP a i (k + 1) r else rowP a i (k + 1) r
def prs : Nat → List SimplLoan → List SA2int
  | _, [] => []
  | i, a :: r => rowP a i (i + 1) r ++ prs (i + 1) r
theorem rowP_length (a : SimplLoan) (i : Nat) (l : List SimplLoan) : ∀ k, (rowP a i k l).length ≤ l.length := by
  induction l with
  | nil => intro k; simp [rowP]
  | cons b r ih =>
    intro k
    unfold rowP
    have := ih (k + 1)
    split <;> simp <;> omega
theorem conflicts_in (a : SimplLoan) (ha : rangeL a) (i : Nat) (ls : List SimplLoan) (hr : ∀ x ∈ ls, rangeL x) (hn : ls.length ≤ 1000000) (R : List SA2int) (suf : List SimplLoan) : ∀ (pre : List SimplLoan) (acc : List SA2int), ls = pre ++ suf → acc.length + suf.length ≤ 1000000000000 →
    Ev (fun k => impl_conflicts.l0 k ls (acc ++ rowP a i pre.length suf) ls (ls.length : Int) (wrap64 ((i : Int) + 1))) R →
    Ev (fun k => impl_conflicts.l1 k ls acc (i : Int) (pre.length : Int) ls (ls.length : Int) (i : Int) a.f0.f0 a.f0.f1 a.f0.f2 a.f0.f3 a.f1 a.f2 a.f3) R := by
  induction suf with
  | nil =>
    intro pre acc hl hb h
    refine Ev.step (fun k => ?_) h
    simp only [impl_conflicts.l1]
    rw [if_neg (by rw [hl]; simp)]
    simp [rowP]
  | cons b suf ih =>
    intro pre acc hl hb h
    simp only [List.length_cons] at hb
    have hlen : pre.length + suf.length + 1 ≤ 1000000 := by rw [hl] at hn; simp at hn; omega
    have hl2 : ls = (pre ++ [b]) ++ suf := by rw [hl]; simp
    have hbm : rangeL b := hr b (by rw [hl]; simp)
    have hrd : rd_TimplLoan ls (pre.length : Int) = b := by rw [hl]; exact rdL_mid pre b suf
    have hw : wrap64 ((pre.length : Int) + 1) = ((pre ++ [b]).length : Int) := by rw [wrap_len (by omega)]; simp
    cases hc : confB a b
    · refine Ev.step (fun k => ?_) (ih (pre ++ [b]) acc hl2 (by omega) ?_)
      · simp only [impl_conflicts.l1]
        rw [if_pos (by rw [hl]; simp; omega), if_pos (by omega), hrd, inConflict_f a b ha hbm, hc, Option.bind_some, if_neg (by decide), hw]
      · simpa [rowP, hc] using h
    · refine Ev.step (fun k => ?_) (ih (pre ++ [b]) (acc ++ [⟨(i : Int), (pre.length : Int)⟩]) hl2 (by simp; omega) ?_)
      · simp only [impl_conflicts.l1]
        rw [if_pos (by rw [hl]; simp; omega), if_pos (by omega), hrd, inConflict_f a b ha hbm, hc, Option.bind_some, if_pos rfl, if_pos (by omega), hw]
      · simpa [rowP, hc] using h
theorem conflicts_out (ls : List SimplLoan) (hr : ∀ x ∈ ls, rangeL x) (hn : ls.length ≤ 1000000) (suf : List SimplLoan) : ∀ (pre : List SimplLoan) (acc : List SA2int), ls = pre ++ suf → acc.length + suf.length * 1000000 ≤ 1000000000000 →
    Ev (fun k => impl_conflicts.l0 k ls acc ls (ls.length : Int) (pre.length : Int)) (acc ++ prs pre.length suf) := by
  induction suf with
  | nil =>
    intro pre acc hl hb
    refine Ev.step (fun k => ?_) (Ev.now _)
    simp only [impl_conflicts.l0]
    rw [if_neg (by rw [hl]; simp)]
    simp [prs]
  | cons a suf ih =>
    intro pre acc hl hb
    simp only [List.length_cons] at hb
    have hlen : pre.length + suf.length + 1 ≤ 1000000 := by rw [hl] at hn; simp at hn; omega
    have hl2 : ls = (pre ++ [a]) ++ suf := by rw [hl]; simp
    have ham : rangeL a := hr a (by rw [hl]; simp)
    have hrd : rd_TimplLoan ls (pre.length : Int) = a := by rw [hl]; exact rdL_mid pre a suf
    have hw : wrap64 ((pre.length : Int) + 1) = ((pre ++ [a]).length : Int) := by rw [wrap_len (by omega)]; simp
    have hrl := rowP_length a pre.length suf (pre ++ [a]).length
    refine Ev.step (fun k => ?_) (conflicts_in a ham pre.length ls hr hn (acc ++ prs pre.length (a :: suf)) suf (pre ++ [a]) acc hl2 (by omega) ?_)
    · simp only [impl_conflicts.l0]
      rw [if_pos (by rw [hl]; simp; omega), if_pos (by omega), if_pos (by rw [hl]; simp; omega), hrd, hw]
    · have := ih (pre ++ [a]) (acc ++ rowP a pre.length (pre ++ [a]).length suf) hl2 (by rw [List.length_append]; omega)
      rw [hw]
      simpa [prs] using this
theorem conflicts_f (ls : List SimplLoan) (hr : ∀ x ∈ ls, rangeL x) (hn : ls.length ≤ 1000) : Ev (fun k => impl_conflicts.f k ls) (prs 0 ls) := by
  have := conflicts_out ls hr (by omega) ls [] [] rfl (by simp; omega)
  simpa [impl_conflicts.f] using this
def cleanB (ls : List SimplLoan) : Bool := (prs 0 ls).isEmpty
theorem areClean_f (ls : List SimplLoan) (hr : ∀ x ∈ ls, rangeL x) (hn : ls.length ≤ 1000) : Ev (fun k => impl_areClean.f k ls) (cleanB ls) := by
  refine Ev.bind (conflicts_f ls hr hn) ?_
  have : (((prs 0 ls).length : Int) == 0) = cleanB ls := by
    unfold cleanB
    cases prs 0 ls with
    | nil => rfl
    | cons x r =>
      show ((((x :: r).length : Nat) : Int) == 0) = false
      simp
      omega
  rw [this]
  exact Ev.now _
theorem pairs_in (a : SimplLoan) (ha : rangeL a) (ls : List SimplLoan) (hr : ∀ x ∈ ls, rangeL x) (hn : ls.length ≤ 1000000) (i : Nat) (hi : ls[i]? = some a) (R : List SA2int) (suf : List SimplLoan) : ∀ (pre : List SimplLoan) (acc : List SA2int), ls = pre ++ suf → acc.length + suf.length ≤ 1000000000000 →
    Ev (fun k => spec_l10Pairs.l0 k ls (acc ++ rowP a i pre.length suf) (wrap64 ((i : Int) + 1))) R →
    Ev (fun k => spec_l10Pairs.l1 k ls acc (i : Int) (pre.length : Int)) R := by
  have hil : i < ls.length := by
    rcases Nat.lt_or_ge i ls.length with h | h
    · exact h
    · rw [List.getElem?_eq_none h] at hi; cases hi
  have hra : rd_TimplLoan ls (i : Int) = a := by unfold rd_TimplLoan; rw [Int.toNat_natCast, List.getD_eq_getElem?_getD, hi]; rfl
  induction suf with
  | nil =>
    intro pre acc hl hb h
    refine Ev.step (fun k => ?_) h
    simp only [spec_l10Pairs.l1]
    rw [if_neg (by rw [hl]; simp)]
    simp [rowP]
  | cons b suf ih =>
    intro pre acc hl hb h
    simp only [List.length_cons] at hb
    have hlen : pre.length + suf.length + 1 ≤ 1000000 := by rw [hl] at hn; simp at hn; omega
    have hl2 : ls = (pre ++ [b]) ++ suf := by rw [hl]; simp
    have hbm : rangeL b := hr b (by rw [hl]; simp)
    have hrd : rd_TimplLoan ls (pre.length : Int) = b := by rw [hl]; exact rdL_mid pre b suf
    have hw : wrap64 ((pre.length : Int) + 1) = ((pre ++ [b]).length : Int) := by rw [wrap_len (by omega)]; simp
    cases hc : confB a b
    · refine Ev.step (fun k => ?_) (ih (pre ++ [b]) acc hl2 (by omega) ?_)
      · simp only [spec_l10Pairs.l1]
        rw [if_pos (by rw [hl]; simp; omega), if_pos (by omega), if_pos (by omega), if_pos (by omega), hra, hrd, l10Clash_f a b ha hbm, Option.bind_some, if_neg (by rw [clash_ge ha, hc]; decide), hw]
      · simpa [rowP, hc] using h
    · refine Ev.step (fun k => ?_) (ih (pre ++ [b]) (acc ++ [⟨(i : Int), (pre.length : Int)⟩]) hl2 (by simp; omega) ?_)
      · simp only [spec_l10Pairs.l1]
        rw [if_pos (by rw [hl]; simp; omega), if_pos (by omega), if_pos (by omega), if_pos (by omega), hra, hrd, l10Clash_f a b ha hbm, Option.bind_some, if_pos (by rw [clash_ge ha, hc]), if_pos (by omega), hw]
      · simpa [rowP, hc] using h
theorem pairs_out (ls : List SimplLoan) (hr : ∀ x ∈ ls, rangeL x) (hn : ls.length ≤ 1000000) (suf : List SimplLoan) : ∀ (pre : List SimplLoan) (acc : List SA2int), ls = pre ++ suf → acc.length + suf.length * 1000000 ≤ 1000000000000 →
    Ev (fun k => spec_l10Pairs.l0 k ls acc (pre.length : Int)) (acc ++ prs pre.length suf) := by
  induction suf with
  | nil =>
    intro pre acc hl hb
    refine Ev.step (fun k => ?_) (Ev.now _)
    simp only [spec_l10Pairs.l0]
    rw [if_neg (by rw [hl]; simp)]
    simp [prs]
  | cons a suf ih =>
    intro pre acc hl hb
    simp only [List.length_cons] at hb
    have hlen : pre.length + suf.length + 1 ≤ 1000000 := by rw [hl] at hn; simp at hn; omega
    have hl2 : ls = (pre ++ [a]) ++ suf := by rw [hl]; simp
    have ham : rangeL a := hr a (by rw [hl]; simp)
    have hw : wrap64 ((pre.length : Int) + 1) = ((pre ++ [a]).length : Int) := by rw [wrap_len (by omega)]; simp
    have hrl := rowP_length a pre.length suf (pre ++ [a]).length
    refine Ev.step (fun k => ?_) (pairs_in a ham ls hr hn pre.length (by rw [hl]; simp) (acc ++ prs pre.length (a :: suf)) suf (pre ++ [a]) acc hl2 (by omega) ?_)
    · simp only [spec_l10Pairs.l0]
      rw [if_pos (by rw [hl]; simp; omega), hw]
    · have := ih (pre ++ [a]) (acc ++ rowP a pre.length (pre ++ [a]).length suf) hl2 (by rw [List.length_append]; omega)
      rw [hw]
      simpa [prs] using this
theorem pairs_f (ls : List SimplLoan) (hr : ∀ x ∈ ls, rangeL x) (hn : ls.length ≤ 1000) : Ev (fun k => spec_l10Pairs.f k ls) (prs 0 ls) := by
  have := pairs_out ls hr (by omega) ls [] [] rfl (by simp; omega)
  simpa [spec_l10Pairs.f] using this
end Go.Proofs.YtpbboooeahmgpaaDoor.P


/- MostClean: what it comes to. -/
namespace Go.Proofs.YtpbboooeahmgpaaDoor.P
open Go.RowKit Go.Proofs.YtpbboooeahmgpaaDoorW.PrintWords Go.Proofs.YtpbboooeahmgpaaDoorW.PrintMore Go.Proofs.YtpbboooeahmgpaaDoorW.Mine
set_option linter.unusedVariables false
def bitsL (n s : Nat) : List Int := ((List.range n).filter (fun i => s.testBit i)).map Int.ofNat
def lowB : Nat → Nat → Nat
  | 0, _ => 0
  | k + 1, s => if s.testBit 0 then 0 else 1 + lowB k (s / 2)
theorem bits_tab : (List.range 256).all (fun s => s == 0 || (decide (bitsL 8 s = (lowB 8 s : Int) :: bitsL 8 (s &&& (s - 1))) && decide (s &&& (s - 1) < s) && decide (Go.bits .and .i64 (s : Int) ((s : Int) - 1) = ((s &&& (s - 1) : Nat) : Int)))) = true := by kernel_rfl
theorem bits_step {s : Nat} (h0 : s ≠ 0) (h : s < 256) : bitsL 8 s = (lowB 8 s : Int) :: bitsL 8 (s &&& (s - 1)) ∧ s &&& (s - 1) < s ∧ Go.bits .and .i64 (s : Int) ((s : Int) - 1) = ((s &&& (s - 1) : Nat) : Int) := by
  have := List.all_eq_true.1 bits_tab s (List.mem_range.2 h)
  simp only [Bool.or_eq_true, beq_iff_eq, Bool.and_eq_true, decide_eq_true_eq] at this
  rcases this with h1 | ⟨⟨h1, h2⟩, h3⟩
  · exact absurd h1 h0
  · exact ⟨h1, h2, h3⟩
theorem bits_ext : (List.range 9).all (fun n => (List.range (2 ^ n)).all (fun s => decide (bitsL 8 s = bitsL n s))) = true := by kernel_rfl
theorem bitsL_ext {n s : Nat} (hn : n ≤ 8) (h : s < 2 ^ n) : bitsL 8 s = bitsL n s := by
  have := List.all_eq_true.1 (List.all_eq_true.1 bits_ext n (List.mem_range.2 (by omega))) s (List.mem_range.2 h)
  simpa using this
theorem bits_one : (List.range 256).all (fun s => (List.range 8).all (fun i => decide (Go.bits .and .i64 (shr .i64 (s : Int) (i : Int)) 1 = if s.testBit i then 1 else 0))) = true := by kernel_rfl
theorem bit_one {s i : Nat} (h : s < 256) (hi : i < 8) : Go.bits .and .i64 (shr .i64 (s : Int) (i : Int)) 1 = if s.testBit i then 1 else 0 := by
  have := List.all_eq_true.1 (List.all_eq_true.1 bits_one s (List.mem_range.2 h)) i (List.mem_range.2 hi)
  simpa using this
theorem shl_tab : (List.range 9).all (fun n => decide (shl .i64 1 (n : Int) = ((2 ^ n : Nat) : Int))) = true := by kernel_rfl
theorem shl_pow {n : Nat} (h : n ≤ 8) : shl .i64 1 (n : Int) = ((2 ^ n : Nat) : Int) := by
  have := List.all_eq_true.1 shl_tab n (List.mem_range.2 (by omega))
  exact of_decide_eq_true this
theorem ctz_tab : (List.range 256).all (fun s => s == 0 || decide (Lib.ctz 64 s = lowB 8 s)) = true := by kernel_rfl
theorem ctz_low {s : Nat} (h0 : s ≠ 0) (h : s < 256) : Lib.ctz 64 s = lowB 8 s := by
  have := List.all_eq_true.1 ctz_tab s (List.mem_range.2 h)
  simp only [Bool.or_eq_true, beq_iff_eq, decide_eq_true_eq] at this
  exact this.resolve_left h0
theorem bitsL_succ (i s : Nat) : bitsL (i + 1) s = bitsL i s ++ (if s.testBit i then [(i : Int)] else []) := by
  unfold bitsL
  rw [List.range_succ, List.filter_append, List.map_append]
  by_cases h : s.testBit i = true
  · simp [h]
  · simp [h]
theorem bitsL_len (n s : Nat) : (bitsL n s).length ≤ n := by
  unfold bitsL
  rw [List.length_map]
  exact Nat.le_trans (List.length_filter_le _ _) (by simp)
theorem bitsL_mem {n s : Nat} {x : Int} (h : x ∈ bitsL n s) : 0 ≤ x ∧ x < n := by
  obtain ⟨i, hi, rfl⟩ := List.mem_map.1 h
  have := List.mem_range.1 (List.mem_filter.1 hi).1
  simp only [Int.ofNat_eq_natCast]; omega
def lexL : List Int → List Int → Bool
  | a :: r, b :: q => if a ≠ b then decide (a < b) else lexL r q
  | _, _ => false
def someL (l : List SimplLoan) (ns : List Int) : List SimplLoan := ns.map (fun i => rd_TimplLoan l i)
def mostStep (l : List SimplLoan) (best : List Int) (s : Nat) : List Int :=
  if prs 0 (someL l (bitsL l.length s)) = [] ∧ (best.length < (bitsL l.length s).length ∨ (bitsL l.length s).length = best.length ∧ lexL (bitsL l.length s) best = true) then bitsL l.length s else best
def mostGo (l : List SimplLoan) (best : List Int) (i : Nat) : Nat → List Int
  | 0 => best
  | k + 1 => mostGo l (mostStep l best i) (i + 1) k
def mostB (m : List (List Int)) (l : List SimplLoan) : List Int × Bool := if loansB m l = true then (mostGo l [] 0 (2 ^ l.length), true) else ([], false)
end Go.Proofs.YtpbboooeahmgpaaDoor.P


/- Rows of flat elements written in place: what a loop of marks does to the cells. -/
namespace Go.Proofs.YtpbboooeahmgpaaDoorW.Mine
open Go.RowKit Go.Proofs.YtpbboooeahmgpaaDoorW.PrintWords
set_option linter.unusedVariables false
set_option linter.unusedSimpArgs false
section
variable {P : Program} {ops : Array Oper} {Q : Exit → Act → World → Prop} {w w2 : World} {a : Act} {r : List Nat} {i g : Nat} {o : Oper}
theorem mRun (ho : ops.toList[i]? = some o) (hw : Region.wanted o (yielded ops a.tmps) = true) (h : Oper.wp P o a w (wpOps P ops Q r) Q) : wpOps P ops Q (i :: r) a w := by
  rw [Array.getElem?_toList] at ho
  rw [wpOps_cons]
  unfold wpOp
  rw [ho]
  simp only
  rw [if_pos hw]
  exact .inl h
theorem mSkip (ho : ops.toList[i]? = some o) (hr : (execOp a.eval o).run P w = .ok .skip w2) (h : wpOps P ops Q r a w2) (hd : o.dst = none := by rfl) (hw : Region.wanted o (yielded ops a.tmps) = true := by rfl) : wpOps P ops Q (i :: r) a w := by
  refine mRun ho hw ?_
  unfold Oper.wp
  rw [hr]
  show wpOps P ops Q r (a.put o.dst undef) _
  rw [hd]
  exact h
theorem mReg {id n : Nat} (l : List Nat) (hn : ops.size = n) (hl : List.range n = l) (h : wpOps P ops Q l a w) : (Code.region id ops false).wp P Q a w := by
  subst hl hn
  exact wp_region h
theorem mSet {cs : Array Value} {j : Nat} {u : Value} : (w.setRow g cs).setCell ⟨g, j, none⟩ u = w.setRow g (cs.setIfInBounds j u) := by
  unfold World.setRow World.setCell
  congr 1
  apply Array.ext_getElem?
  intro k
  simp only [Array.getElem?_modify]
  by_cases e : g = k
  · subst e
    simp only [if_true]
    cases h : w.heap[g]? with
    | none => rfl
    | some x => cases x <;> rfl
  · simp only [if_neg e]
theorem mCell {c0 cs : Array Value} {t j : Nat} (h : w.heap[g]? = some (.cells c0 t (0, 0))) (hj : j < cs.size) : (w.setRow g cs).cell? ⟨g, j, none⟩ = some (cs.getD j undef) := by
  rw [blk_cell (setRow_heap w g c0 cs t _ h) j]
  simp [hj]
theorem mFrozen {c0 cs : Array Value} {t : Nat} (h : w.heap[g]? = some (.cells c0 t (0, 0))) (j : Nat) : (w.setRow g cs).frozen? ⟨g, j, none⟩ = false := blk_frozen (setRow_heap w g c0 cs t _ h) j
end
theorem setAll_toList : ∀ (us : List Value) (off : Nat) (cs : Array Value), off + us.length ≤ cs.size → (setAll cs off us).toList = cs.toList.take off ++ (us ++ cs.toList.drop (off + us.length))
  | [], off, cs, h => by simp [setAll]
  | u :: r, off, cs, h => by
    simp only [List.length_cons] at h
    have hl : off < cs.toList.length := by simp; omega
    show (setAll (cs.setIfInBounds off u) (off + 1) r).toList = _
    rw [setAll_toList r (off + 1) _ (by simp; omega), Array.toList_setIfInBounds, List.drop_set_of_lt (by omega), List.take_succ_eq_append_getElem (by simpa using hl), List.take_set_of_le (Nat.le_refl _), List.getElem_set_self]
    simp [show off + 1 + r.length = off + (r.length + 1) by omega]
section
variable {α : Type} {cells : α → List Value} {q : Nat}
theorem flat_length (hlen : ∀ x, (cells x).length = q) (l : List α) : (l.flatMap cells).length = l.length * q := by
  induction l with
  | nil => simp
  | cons x l ih => rw [List.flatMap_cons, List.length_append, ih, hlen, List.length_cons, Nat.add_mul, Nat.one_mul, Nat.add_comm]
theorem flat_step (hlen : ∀ x, (cells x).length = q) (L : List Value) (M D : List α) (x y : α) (n : Nat) (hn : n = M.length + 1 + D.length) (h : L.take (n * q) = (M ++ x :: D).flatMap cells) :
    (L.take (M.length * q) ++ (cells y ++ L.drop (M.length * q + q))).take (n * q) = (M ++ y :: D).flatMap cells := by
  have e1 : n * q = M.length * q + (q + D.length * q) := by rw [hn, Nat.add_mul, Nat.add_mul, Nat.one_mul, Nat.add_assoc]
  have hM := flat_length hlen M
  have hD := flat_length hlen D
  have h1 : L.take (M.length * q) = M.flatMap cells := by
    have := congrArg (List.take (M.length * q)) h
    rw [List.take_take, Nat.min_eq_left (by omega), List.flatMap_append, List.take_left' hM] at this
    exact this
  have h2 : (L.drop (M.length * q + q)).take (D.length * q) = D.flatMap cells := by
    have := congrArg (List.drop (M.length * q + q)) h
    rw [List.drop_take, show n * q - (M.length * q + q) = D.length * q by omega, List.flatMap_append, List.flatMap_cons] at this
    rw [this, ← List.drop_drop, List.drop_left' hM, List.drop_left' (hlen x)]
  rw [h1, e1, List.flatMap_append, List.flatMap_cons]
  have e2 : (M.flatMap cells).length + ((cells y).length + D.length * q) = M.length * q + (q + D.length * q) := by rw [hM, hlen]
  rw [← e2, List.take_length_add_append, List.take_length_add_append, h2]
def marksG (mk : Int → α) (q : Nat) : Int → Nat → List α
  | _, 0 => []
  | a, n + 1 => mk a :: marksG mk q (a + q) n
theorem marksG_length (mk : Int → α) : ∀ (n : Nat) (a : Int), (marksG mk q a n).length = n
  | 0, _ => rfl
  | n + 1, a => by simp [marksG, marksG_length mk n]
theorem marksG_snoc (mk : Int → α) : ∀ (n : Nat) (a : Int), marksG mk q a (n + 1) = marksG mk q a n ++ [mk (a + q * n)]
  | 0, a => by simp [marksG]
  | n + 1, a => by
    rw [marksG, marksG_snoc mk n (a + q), marksG, List.cons_append]
    rw [show a + (q : Int) + (q : Int) * (n : Int) = a + (q : Int) * ((n + 1 : Nat) : Int) by push_cast; rw [Int.mul_add, Int.mul_one]; omega]
theorem marks_round (hlen : ∀ x, (cells x).length = q) (mk : Int → α) (a : Int) (l : List α) (i : Nat) (hi : i < l.length) {c c' : Array Value} (h : c.toList.take (l.length * q) = (marksG mk q a i ++ l.drop i).flatMap cells) (hs : l.length * q ≤ c.size) (hc : c' = setAll c (i * q) (cells (mk (a + q * i)))) :
    c'.toList.take (l.length * q) = (marksG mk q a (i + 1) ++ l.drop (i + 1)).flatMap cells := by
  have hb : i * q + q ≤ l.length * q := by
    have := Nat.mul_le_mul_right q hi
    rw [Nat.succ_mul] at this
    exact this
  subst hc
  rw [setAll_toList _ _ _ (by rw [hlen]; omega), hlen, marksG_snoc, List.append_assoc, List.singleton_append]
  rw [List.drop_eq_getElem_cons hi] at h
  have := flat_step hlen c.toList (marksG mk q a i) (l.drop (i + 1)) l[i] (mk (a + q * i)) l.length (by rw [marksG_length, List.length_drop]; omega) h
  rw [marksG_length] at this
  exact this
variable {d : Kd α}
structure FlatK (d : Kd α) (cells : α → List Value) (q : Nat) : Prop where
  sz : d.sz = q
  len : ∀ x, (cells x).length = q
  opn : ∀ {w : World} {x : α} {cs : List Value}, d.K w x cs → cs = cells x
  mak : ∀ (w : World) (base : Nat) (ok : Nat → Prop) (x : α), d.M w base ok x (cells x)
theorem reps_flat (hlen : ∀ x, (cells x).length = q) : ∀ (l : List α) (cs : List Value), Reps (fun (x : α) c => c = cells x) q l cs → cs = l.flatMap cells
  | [], cs, h => List.eq_nil_of_length_eq_zero (by have := h.1; simpa using this)
  | x :: l, cs, h => by
    have h0 : cs.take q = cells x := by
      have := h.2 0 x rfl
      simpa using this
    have h1 := reps_flat hlen l (cs.drop q) ⟨by rw [List.length_drop, h.1, List.length_cons, Nat.add_mul, Nat.one_mul, Nat.add_sub_cancel], fun j p hp => by
      have := h.2 (j + 1) p (by simpa using hp)
      rw [List.drop_drop, show q + j * q = (j + 1) * q by rw [Nat.add_mul, Nat.one_mul, Nat.add_comm]]
      exact this⟩
    rw [List.flatMap_cons, ← h0, ← h1, List.take_append_drop]
theorem flat_reps (hlen : ∀ x, (cells x).length = q) : ∀ (l : List α), Reps (fun (x : α) c => c = cells x) q l (l.flatMap cells)
  | [] => ⟨by simp, fun j p h => by cases h⟩
  | x :: l => by
    refine ⟨flat_length hlen _, fun j p hp => ?_⟩
    cases j with
    | zero =>
      cases hp
      rw [List.flatMap_cons, Nat.zero_mul, List.drop_zero, List.take_left' (hlen _)]
    | succ j =>
      have := (flat_reps hlen l).2 j p (by simpa using hp)
      rw [List.flatMap_cons, show (j + 1) * q = q + j * q by rw [Nat.add_mul, Nat.one_mul, Nat.add_comm], ← List.drop_drop, List.drop_left' (hlen _)]
      exact this
variable {w w1 : World} {e base : Nat} {ok : Nat → Prop} {v : Value} {l : List α}
theorem cells_of_R (F : FlatK d cells q) (h : Kd.R d e w base ok v l) : w.ownsRow base e q v l.length (l.flatMap cells) := by
  obtain ⟨_, inner, ho, hr⟩ := h
  rw [F.sz] at ho hr
  have : inner = l.flatMap cells := reps_flat F.len l inner ⟨hr.1, fun j p hp => F.opn (d.K_of_M (hr.2 j p hp))⟩
  rw [← this]
  exact ho
theorem R_of_cells (F : FlatK d cells q) (ho : w.ownsRow base e q v l.length (l.flatMap cells)) (hok : ∀ k, v.ownBlock = some k → ok k) : Kd.R d e w base ok v l := by
  refine ⟨hok, l.flatMap cells, by rw [F.sz]; exact ho, ?_⟩
  rw [F.sz]
  exact ⟨(flat_reps F.len l).1, fun j p hp => by rw [(flat_reps F.len l).2 j p hp]; exact F.mak _ _ _ _⟩
theorem R_blk (F : FlatK d cells q) (h : Kd.R d e w base ok v l) (hl : 0 < l.length) :
    ∃ g cap cur, v = .slice (some ⟨g, 0, none⟩) l.length cap ∧ ok g ∧ w.heap[g]? = some (.cells cur e (0, 0)) ∧ l.length * q ≤ cur.size ∧ cur.toList.take (l.length * q) = l.flatMap cells ∧ base ≤ g ∧
      ∀ (w1 : World) (cur' : Array Value) (l' : List α), w1.heap[g]? = some (.cells cur' e (0, 0)) → cur'.size = cur.size → l'.length = l.length → cur'.toList.take (l.length * q) = l'.flatMap cells → Kd.R d e w1 base ok v l' := by
  have ho := cells_of_R F h
  rcases ho.2 with ⟨_, h0⟩ | ⟨g, cap, cur, rfl, hb, hh, hle, hmax, hsz, htk⟩
  · omega
  · refine ⟨g, cap, cur, rfl, h.1 g rfl, hh, by rw [hsz]; exact Nat.mul_le_mul_right _ hle, htk, hb, ?_⟩
    intro w1 cur' l' hh' hs hl' ht
    refine R_of_cells F ⟨by rw [flat_length F.len], .inr ⟨g, cap, cur', by rw [hl'], hb, hh', by rw [hl']; exact hle, hmax, by rw [hs, hsz], by rw [hl', ht]⟩⟩ (fun k hk => h.1 k hk)
theorem marks_fin (F : FlatK d cells q) {w0 w' : World} {P_ : Nat → Prop} {mk : Int → α} {a : Int} (hB : Below w0.heap.size w0 w) (ho : Kd.R d e w w0.heap.size P_ v l) {g cap : Nat} {cur cur' : Array Value} (hv : v = .slice (some ⟨g, 0, none⟩) l.length cap) (hg : w.heap[g]? = some (.cells cur e (0, 0))) (hP : P_ g) (hge : w0.heap.size ≤ g)
    (hback : ∀ (w1 : World) (cur' : Array Value) (l' : List α), w1.heap[g]? = some (.cells cur' e (0, 0)) → cur'.size = cur.size → l'.length = l.length → cur'.toList.take (l.length * q) = l'.flatMap cells → Kd.R d e w1 w0.heap.size P_ v l')
    (hs : cur'.size = cur.size) (ht : cur'.toList.take (l.length * q) = (marksG mk q a l.length).flatMap cells) (hw : w' = w.setRow g cur') :
    Kd.R d e w' w0.heap.size P_ v (marksG mk q a l.length) ∧ Below w0.heap.size w0 w' ∧ Kept w w' P_ := by
  subst hw
  refine ⟨hback _ cur' _ (setRow_heap w g _ _ _ _ hg) hs (marksG_length _ _ _) ht, below_setRow hB hge _, ⟨by simp, fun k _ hn => setRow_other w g k cur' (fun e_ => hn (by rw [e_]; exact hP))⟩⟩
end
section
variable {α : Type} {d : Kd α} {w w' : World} {e base : Nat} {ok ok2 : Nat → Prop} {es : List Nat} {v : Value} {xs : List α}
end
end Go.Proofs.YtpbboooeahmgpaaDoorW.Mine


/- markLoanS: a slice of flat elements written in place. -/
namespace Go.Proofs.YtpbboooeahmgpaaDoor.P
open Go.RowKit Go.Proofs.YtpbboooeahmgpaaDoorW.PrintWords Go.Proofs.YtpbboooeahmgpaaDoorW.PrintMore Go.Proofs.YtpbboooeahmgpaaDoorW.Mine
open List (setIfInBounds_toArray set_cons_zero set_cons_succ)
set_option linter.unusedVariables false
set_option linter.unusedSimpArgs false
def cellsM (x : SimplLoan) : List Value := [.int .i64 x.f0.f0, .int .i64 x.f0.f1, .int .i64 x.f0.f2, .int .i64 x.f0.f3, .bool x.f1, .int .i64 x.f2, .int .i64 x.f3]
def markL (a : Int) : SimplLoan := ⟨⟨a, a + 1, a + 2, a + 3⟩, decide ((a + 4) % 3 = 0), a + 5, a + 6⟩
theorem flat_markLoanS : FlatK kimplLoan cellsM 7 := ⟨rfl, fun _ => rfl, fun h => kimplLoan_open h, fun w base ok x => kimplLoan_mkM w base ok x⟩
set_option maxHeartbeats 8000000 in
set_option maxRecDepth 100000 in
theorem laws_markLoanS_loop (g c : Nat) (l : List SimplLoan) (a : Int) (cur : Array Value) (w : World) (hg : w.heap[g]? = some (.cells cur 59 (0, 0))) (ht : cur.toList.take (l.length * 7) = l.flatMap cellsM) (hsz : l.length * 7 ≤ cur.size) (ha : 0 ≤ a) (hb : a + 7 * l.length ≤ 4611686018427387904) :
    Calls Tryd.prog 15 #[.slice (some ⟨g, 0, none⟩) l.length c, .int .i64 a] w fun e w' => e = .returned (.int .i64 (a + 7 * l.length)) ∧ ∃ cur' : Array Value, cur'.size = cur.size ∧ cur'.toList.take (l.length * 7) = (marksG (markL) 7 a l.length).flatMap cellsM ∧ w' = w.setRow g cur' := by
  have HG := Aside0.mk hg; have HT := Aside0.mk ht; clear hg ht
  go_enter Tryd.func15, Tryd.ntmps15
  go_wp2
  go_loopg [1, 5] (l.length + 1) (fun kq v1 v5 w' => ∃ (i : Nat) (ci : Array Value), v1 = .int .i64 (a + 7 * i) ∧ v5 = .int .i64 (i : Int) ∧ Aside0 (kq + i = l.length + 1 ∧ i ≤ l.length) ∧ Aside0 (ci.size = cur.size) ∧ Aside0 (ci.toList.take (l.length * 7) = (marksG (markL) 7 a i ++ l.drop i).flatMap cellsM) ∧ Aside0 (w' = w.setRow g ci))
  case atStart => exact ⟨0, cur, by simp, rfl, ⟨rfl, Nat.zero_le _⟩, ⟨rfl⟩, ⟨by simpa [marksG] using HT.out⟩, ⟨(setRow_self w g cur _ _ HG.out).symm⟩⟩
  case round =>
    obtain ⟨i, ci, rfl, rfl, HK, HZ, HC, HW⟩ := hrel
    by_cases hi : i < l.length
    · obtain ⟨k1, rfl⟩ : ∃ q, gk = q + 1 := ⟨gk - 1, by have := HK.out; omega⟩
      have hi1 : decide ((i : Int) < (l.length : Int)) = true := decide_eq_true (by omega)
      have p5 := eq_true (show (0 : Int) ≤ (i : Int) by omega); have q5 := eq_true (show (i : Int) < (l.length : Int) by omega)
      obtain ⟨b, hbb⟩ : ∃ b : Int, b = a + 7 * i := ⟨_, rfl⟩
      have hb0 : 0 ≤ b ∧ b + 7 ≤ 4611686018427387904 := by omega
      rw [← hbb]; have HBB := Aside0.mk hbb; clear hbb
      obtain ⟨c0_, hc0_⟩ : ∃ x, x = ci := ⟨_, rfl⟩
      have hz0_ : c0_.size = cur.size := by rw [hc0_]; exact HZ.out
      rw [← hc0_] at HC; have HW2 := HW.out; subst HW2; rw [← hc0_]
      clear hc0_ HZ HW
      refine wp_seq ?_
      refine wp_seq ?_
      refine mReg [0, 1, 2, 3] rfl rfl ?_
      refine tlP (v := .int .i64 ((i : Int))) 6 rfl ?_
      simp only [Act.put, setIfInBounds_toArray, set_cons_zero, set_cons_succ]
      refine tlP (v := .slice (some ⟨g, 0, none⟩) l.length c) 7 rfl ?_
      simp only [Act.put, setIfInBounds_toArray, set_cons_zero, set_cons_succ]
      refine tlP (v := .int .i64 (l.length : Int)) 8 (hr := by go_simp; try rfl) rfl ?_
      simp only [Act.put, setIfInBounds_toArray, set_cons_zero, set_cons_succ]
      refine tlP (v := .bool true) 9 rfl ?_ (hr := by go_simp; try simp [hi])
      simp only [Act.put, setIfInBounds_toArray, set_cons_zero, set_cons_succ]
      refine tl0 ?_
      refine wp_cond_true rfl ?_
      refine wp_skip ?_
      refine thN ?_
      refine wp_seq ?_
      refine wp_block ?_
      refine wp_seq ?_
      refine mReg [0, 1, 2, 3, 4, 5, 6] rfl rfl ?_
      refine tlP (v := .slice (some ⟨g, 0, none⟩) l.length c) 12 rfl ?_
      simp only [Act.put, setIfInBounds_toArray, set_cons_zero, set_cons_succ]
      refine tlP (v := .int .i64 ((i : Int))) 13 rfl ?_
      simp only [Act.put, setIfInBounds_toArray, set_cons_zero, set_cons_succ]
      refine tlP (v := .int .i64 (b)) 14 rfl ?_
      simp only [Act.put, setIfInBounds_toArray, set_cons_zero, set_cons_succ]
      refine tlP (v := .pointer (some ⟨g, i * 7, none⟩)) 15 (hr := by go_simp; try rfl) rfl ?_
      simp only [Act.put, setIfInBounds_toArray, set_cons_zero, set_cons_succ]
      refine tlP (v := .pointer (some ⟨g, i * 7, none⟩)) 16 (hr := by go_simp; try rfl) rfl ?_
      simp only [Act.put, setIfInBounds_toArray, set_cons_zero, set_cons_succ]
      refine tlP (v := .pointer (some ⟨g, i * 7, none⟩)) 17 (hr := by go_simp; try rfl) rfl ?_
      simp only [Act.put, setIfInBounds_toArray, set_cons_zero, set_cons_succ]
      have hc_ : (w.setRow g c0_).cell? ⟨g, i * 7, none⟩ = some (c0_.getD (i * 7) undef) := mCell HG.out (by simp only [hz0_]; omega)
      have hf_ : (w.setRow g c0_).frozen? ⟨g, i * 7, none⟩ = false := mFrozen HG.out _
      refine mSkip (w2 := w.setRow g (c0_.setIfInBounds (i * 7) (.int .i64 (b)))) rfl (by rw [← mSet]; go_simp; try rfl) ?_
      clear hc_ hf_
      obtain ⟨c1_, hc1_⟩ : ∃ x, x = c0_.setIfInBounds (i * 7) (.int .i64 (b)) := ⟨_, rfl⟩
      have hz1_ : c1_.size = cur.size := by rw [hc1_, Array.size_setIfInBounds, hz0_]
      rw [← hc1_]; have HC1_ := Aside0.mk hc1_; clear hc1_
      refine tl0 ?_
      refine wp_seq ?_
      refine mReg [0, 1, 2] rfl rfl ?_
      refine tlP (v := .int .i64 (b)) 18 rfl ?_
      simp only [Act.put, setIfInBounds_toArray, set_cons_zero, set_cons_succ]
      refine tlP (v := .int .i64 (b + 1)) 19 rfl ?_ (hr := run_arith (q := .add) (k := .i64) (m := b) (n := 1) (r := b + 1) rfl rfl rfl (.inl ⟨rfl, by rw [show (b : Int) + 1 = b + 1 by omega]; exact i64_ok (n := b + 1) (by omega) (by omega)⟩))
      simp only [Act.put, setIfInBounds_toArray, set_cons_zero, set_cons_succ]
      refine tlP (v := .int .i64 (b + 1)) 1 rfl ?_
      simp only [Act.put, setIfInBounds_toArray, set_cons_zero, set_cons_succ]
      refine tl0 ?_
      refine wp_seq ?_
      refine mReg [0, 1, 2, 3, 4, 5, 6] rfl rfl ?_
      refine tlP (v := .slice (some ⟨g, 0, none⟩) l.length c) 20 rfl ?_
      simp only [Act.put, setIfInBounds_toArray, set_cons_zero, set_cons_succ]
      refine tlP (v := .int .i64 ((i : Int))) 21 rfl ?_
      simp only [Act.put, setIfInBounds_toArray, set_cons_zero, set_cons_succ]
      refine tlP (v := .int .i64 (b + 1)) 22 rfl ?_
      simp only [Act.put, setIfInBounds_toArray, set_cons_zero, set_cons_succ]
      refine tlP (v := .pointer (some ⟨g, i * 7, none⟩)) 23 (hr := by go_simp; try rfl) rfl ?_
      simp only [Act.put, setIfInBounds_toArray, set_cons_zero, set_cons_succ]
      refine tlP (v := .pointer (some ⟨g, i * 7, none⟩)) 24 (hr := by go_simp; try rfl) rfl ?_
      simp only [Act.put, setIfInBounds_toArray, set_cons_zero, set_cons_succ]
      refine tlP (v := .pointer (some ⟨g, i * 7 + 1, none⟩)) 25 (hr := by go_simp; try rfl) rfl ?_
      simp only [Act.put, setIfInBounds_toArray, set_cons_zero, set_cons_succ]
      have hc_ : (w.setRow g c1_).cell? ⟨g, i * 7 + 1, none⟩ = some (c1_.getD (i * 7 + 1) undef) := mCell HG.out (by simp only [hz1_]; omega)
      have hf_ : (w.setRow g c1_).frozen? ⟨g, i * 7 + 1, none⟩ = false := mFrozen HG.out _
      refine mSkip (w2 := w.setRow g (c1_.setIfInBounds (i * 7 + 1) (.int .i64 (b + 1)))) rfl (by rw [← mSet]; go_simp; try rfl) ?_
      clear hc_ hf_
      obtain ⟨c2_, hc2_⟩ : ∃ x, x = c1_.setIfInBounds (i * 7 + 1) (.int .i64 (b + 1)) := ⟨_, rfl⟩
      have hz2_ : c2_.size = cur.size := by rw [hc2_, Array.size_setIfInBounds, hz1_]
      rw [← hc2_]; have HC2_ := Aside0.mk hc2_; clear hc2_
      refine tl0 ?_
      refine wp_seq ?_
      refine mReg [0, 1, 2] rfl rfl ?_
      refine tlP (v := .int .i64 (b + 1)) 26 rfl ?_
      simp only [Act.put, setIfInBounds_toArray, set_cons_zero, set_cons_succ]
      refine tlP (v := .int .i64 (b + 2)) 27 rfl ?_ (hr := run_arith (q := .add) (k := .i64) (m := b + 1) (n := 1) (r := b + 2) rfl rfl rfl (.inl ⟨rfl, by rw [show (b + 1 : Int) + 1 = b + 2 by omega]; exact i64_ok (n := b + 2) (by omega) (by omega)⟩))
      simp only [Act.put, setIfInBounds_toArray, set_cons_zero, set_cons_succ]
      refine tlP (v := .int .i64 (b + 2)) 1 rfl ?_
      simp only [Act.put, setIfInBounds_toArray, set_cons_zero, set_cons_succ]
      refine tl0 ?_
      refine wp_seq ?_
      refine mReg [0, 1, 2, 3, 4, 5, 6] rfl rfl ?_
      refine tlP (v := .slice (some ⟨g, 0, none⟩) l.length c) 28 rfl ?_
      simp only [Act.put, setIfInBounds_toArray, set_cons_zero, set_cons_succ]
      refine tlP (v := .int .i64 ((i : Int))) 29 rfl ?_
      simp only [Act.put, setIfInBounds_toArray, set_cons_zero, set_cons_succ]
      refine tlP (v := .int .i64 (b + 2)) 30 rfl ?_
      simp only [Act.put, setIfInBounds_toArray, set_cons_zero, set_cons_succ]
      refine tlP (v := .pointer (some ⟨g, i * 7, none⟩)) 31 (hr := by go_simp; try rfl) rfl ?_
      simp only [Act.put, setIfInBounds_toArray, set_cons_zero, set_cons_succ]
      refine tlP (v := .pointer (some ⟨g, i * 7, none⟩)) 32 (hr := by go_simp; try rfl) rfl ?_
      simp only [Act.put, setIfInBounds_toArray, set_cons_zero, set_cons_succ]
      refine tlP (v := .pointer (some ⟨g, i * 7 + 2, none⟩)) 33 (hr := by go_simp; try rfl) rfl ?_
      simp only [Act.put, setIfInBounds_toArray, set_cons_zero, set_cons_succ]
      have hc_ : (w.setRow g c2_).cell? ⟨g, i * 7 + 2, none⟩ = some (c2_.getD (i * 7 + 2) undef) := mCell HG.out (by simp only [hz2_]; omega)
      have hf_ : (w.setRow g c2_).frozen? ⟨g, i * 7 + 2, none⟩ = false := mFrozen HG.out _
      refine mSkip (w2 := w.setRow g (c2_.setIfInBounds (i * 7 + 2) (.int .i64 (b + 2)))) rfl (by rw [← mSet]; go_simp; try rfl) ?_
      clear hc_ hf_
      obtain ⟨c3_, hc3_⟩ : ∃ x, x = c2_.setIfInBounds (i * 7 + 2) (.int .i64 (b + 2)) := ⟨_, rfl⟩
      have hz3_ : c3_.size = cur.size := by rw [hc3_, Array.size_setIfInBounds, hz2_]
      rw [← hc3_]; have HC3_ := Aside0.mk hc3_; clear hc3_
      refine tl0 ?_
      refine wp_seq ?_
      refine mReg [0, 1, 2] rfl rfl ?_
      refine tlP (v := .int .i64 (b + 2)) 34 rfl ?_
      simp only [Act.put, setIfInBounds_toArray, set_cons_zero, set_cons_succ]
      refine tlP (v := .int .i64 (b + 3)) 35 rfl ?_ (hr := run_arith (q := .add) (k := .i64) (m := b + 2) (n := 1) (r := b + 3) rfl rfl rfl (.inl ⟨rfl, by rw [show (b + 2 : Int) + 1 = b + 3 by omega]; exact i64_ok (n := b + 3) (by omega) (by omega)⟩))
      simp only [Act.put, setIfInBounds_toArray, set_cons_zero, set_cons_succ]
      refine tlP (v := .int .i64 (b + 3)) 1 rfl ?_
      simp only [Act.put, setIfInBounds_toArray, set_cons_zero, set_cons_succ]
      refine tl0 ?_
      refine wp_seq ?_
      refine mReg [0, 1, 2, 3, 4, 5, 6] rfl rfl ?_
      refine tlP (v := .slice (some ⟨g, 0, none⟩) l.length c) 36 rfl ?_
      simp only [Act.put, setIfInBounds_toArray, set_cons_zero, set_cons_succ]
      refine tlP (v := .int .i64 ((i : Int))) 37 rfl ?_
      simp only [Act.put, setIfInBounds_toArray, set_cons_zero, set_cons_succ]
      refine tlP (v := .int .i64 (b + 3)) 38 rfl ?_
      simp only [Act.put, setIfInBounds_toArray, set_cons_zero, set_cons_succ]
      refine tlP (v := .pointer (some ⟨g, i * 7, none⟩)) 39 (hr := by go_simp; try rfl) rfl ?_
      simp only [Act.put, setIfInBounds_toArray, set_cons_zero, set_cons_succ]
      refine tlP (v := .pointer (some ⟨g, i * 7, none⟩)) 40 (hr := by go_simp; try rfl) rfl ?_
      simp only [Act.put, setIfInBounds_toArray, set_cons_zero, set_cons_succ]
      refine tlP (v := .pointer (some ⟨g, i * 7 + 3, none⟩)) 41 (hr := by go_simp; try rfl) rfl ?_
      simp only [Act.put, setIfInBounds_toArray, set_cons_zero, set_cons_succ]
      have hc_ : (w.setRow g c3_).cell? ⟨g, i * 7 + 3, none⟩ = some (c3_.getD (i * 7 + 3) undef) := mCell HG.out (by simp only [hz3_]; omega)
      have hf_ : (w.setRow g c3_).frozen? ⟨g, i * 7 + 3, none⟩ = false := mFrozen HG.out _
      refine mSkip (w2 := w.setRow g (c3_.setIfInBounds (i * 7 + 3) (.int .i64 (b + 3)))) rfl (by rw [← mSet]; go_simp; try rfl) ?_
      clear hc_ hf_
      obtain ⟨c4_, hc4_⟩ : ∃ x, x = c3_.setIfInBounds (i * 7 + 3) (.int .i64 (b + 3)) := ⟨_, rfl⟩
      have hz4_ : c4_.size = cur.size := by rw [hc4_, Array.size_setIfInBounds, hz3_]
      rw [← hc4_]; have HC4_ := Aside0.mk hc4_; clear hc4_
      refine tl0 ?_
      refine wp_seq ?_
      refine mReg [0, 1, 2] rfl rfl ?_
      refine tlP (v := .int .i64 (b + 3)) 42 rfl ?_
      simp only [Act.put, setIfInBounds_toArray, set_cons_zero, set_cons_succ]
      refine tlP (v := .int .i64 (b + 4)) 43 rfl ?_ (hr := run_arith (q := .add) (k := .i64) (m := b + 3) (n := 1) (r := b + 4) rfl rfl rfl (.inl ⟨rfl, by rw [show (b + 3 : Int) + 1 = b + 4 by omega]; exact i64_ok (n := b + 4) (by omega) (by omega)⟩))
      simp only [Act.put, setIfInBounds_toArray, set_cons_zero, set_cons_succ]
      refine tlP (v := .int .i64 (b + 4)) 1 rfl ?_
      simp only [Act.put, setIfInBounds_toArray, set_cons_zero, set_cons_succ]
      refine tl0 ?_
      refine wp_seq ?_
      refine mReg [0, 1, 2, 3, 4, 5, 6, 7] rfl rfl ?_
      refine tlP (v := .slice (some ⟨g, 0, none⟩) l.length c) 44 rfl ?_
      simp only [Act.put, setIfInBounds_toArray, set_cons_zero, set_cons_succ]
      refine tlP (v := .int .i64 ((i : Int))) 45 rfl ?_
      simp only [Act.put, setIfInBounds_toArray, set_cons_zero, set_cons_succ]
      refine tlP (v := .int .i64 (b + 4)) 46 rfl ?_
      simp only [Act.put, setIfInBounds_toArray, set_cons_zero, set_cons_succ]
      refine tlP (v := .int .i64 ((b + 4) % 3)) 47 (hr := by go_simp; first | rfl | exact Int.tmod_eq_emod_of_nonneg (by omega)) rfl ?_
      simp only [Act.put, setIfInBounds_toArray, set_cons_zero, set_cons_succ]
      refine tlP (v := .bool (decide ((b + 4) % 3 = 0))) 48 (hr := by go_simp; try rfl) rfl ?_
      simp only [Act.put, setIfInBounds_toArray, set_cons_zero, set_cons_succ]
      refine tlP (v := .pointer (some ⟨g, i * 7, none⟩)) 49 (hr := by go_simp; try rfl) rfl ?_
      simp only [Act.put, setIfInBounds_toArray, set_cons_zero, set_cons_succ]
      refine tlP (v := .pointer (some ⟨g, i * 7 + 4, none⟩)) 50 (hr := by go_simp; try rfl) rfl ?_
      simp only [Act.put, setIfInBounds_toArray, set_cons_zero, set_cons_succ]
      have hc_ : (w.setRow g c4_).cell? ⟨g, i * 7 + 4, none⟩ = some (c4_.getD (i * 7 + 4) undef) := mCell HG.out (by simp only [hz4_]; omega)
      have hf_ : (w.setRow g c4_).frozen? ⟨g, i * 7 + 4, none⟩ = false := mFrozen HG.out _
      refine mSkip (w2 := w.setRow g (c4_.setIfInBounds (i * 7 + 4) (.bool (decide ((b + 4) % 3 = 0))))) rfl (by rw [← mSet]; go_simp; try rfl) ?_
      clear hc_ hf_
      obtain ⟨c5_, hc5_⟩ : ∃ x, x = c4_.setIfInBounds (i * 7 + 4) (.bool (decide ((b + 4) % 3 = 0))) := ⟨_, rfl⟩
      have hz5_ : c5_.size = cur.size := by rw [hc5_, Array.size_setIfInBounds, hz4_]
      rw [← hc5_]; have HC5_ := Aside0.mk hc5_; clear hc5_
      refine tl0 ?_
      refine wp_seq ?_
      refine mReg [0, 1, 2] rfl rfl ?_
      refine tlP (v := .int .i64 (b + 4)) 51 rfl ?_
      simp only [Act.put, setIfInBounds_toArray, set_cons_zero, set_cons_succ]
      refine tlP (v := .int .i64 (b + 5)) 52 rfl ?_ (hr := run_arith (q := .add) (k := .i64) (m := b + 4) (n := 1) (r := b + 5) rfl rfl rfl (.inl ⟨rfl, by rw [show (b + 4 : Int) + 1 = b + 5 by omega]; exact i64_ok (n := b + 5) (by omega) (by omega)⟩))
      simp only [Act.put, setIfInBounds_toArray, set_cons_zero, set_cons_succ]
      refine tlP (v := .int .i64 (b + 5)) 1 rfl ?_
      simp only [Act.put, setIfInBounds_toArray, set_cons_zero, set_cons_succ]
      refine tl0 ?_
      refine wp_seq ?_
      refine mReg [0, 1, 2, 3, 4, 5] rfl rfl ?_
      refine tlP (v := .slice (some ⟨g, 0, none⟩) l.length c) 53 rfl ?_
      simp only [Act.put, setIfInBounds_toArray, set_cons_zero, set_cons_succ]
      refine tlP (v := .int .i64 ((i : Int))) 54 rfl ?_
      simp only [Act.put, setIfInBounds_toArray, set_cons_zero, set_cons_succ]
      refine tlP (v := .int .i64 (b + 5)) 55 rfl ?_
      simp only [Act.put, setIfInBounds_toArray, set_cons_zero, set_cons_succ]
      refine tlP (v := .pointer (some ⟨g, i * 7, none⟩)) 56 (hr := by go_simp; try rfl) rfl ?_
      simp only [Act.put, setIfInBounds_toArray, set_cons_zero, set_cons_succ]
      refine tlP (v := .pointer (some ⟨g, i * 7 + 5, none⟩)) 57 (hr := by go_simp; try rfl) rfl ?_
      simp only [Act.put, setIfInBounds_toArray, set_cons_zero, set_cons_succ]
      have hc_ : (w.setRow g c5_).cell? ⟨g, i * 7 + 5, none⟩ = some (c5_.getD (i * 7 + 5) undef) := mCell HG.out (by simp only [hz5_]; omega)
      have hf_ : (w.setRow g c5_).frozen? ⟨g, i * 7 + 5, none⟩ = false := mFrozen HG.out _
      refine mSkip (w2 := w.setRow g (c5_.setIfInBounds (i * 7 + 5) (.int .i64 (b + 5)))) rfl (by rw [← mSet]; go_simp; try rfl) ?_
      clear hc_ hf_
      obtain ⟨c6_, hc6_⟩ : ∃ x, x = c5_.setIfInBounds (i * 7 + 5) (.int .i64 (b + 5)) := ⟨_, rfl⟩
      have hz6_ : c6_.size = cur.size := by rw [hc6_, Array.size_setIfInBounds, hz5_]
      rw [← hc6_]; have HC6_ := Aside0.mk hc6_; clear hc6_
      refine tl0 ?_
      refine wp_seq ?_
      refine mReg [0, 1, 2] rfl rfl ?_
      refine tlP (v := .int .i64 (b + 5)) 58 rfl ?_
      simp only [Act.put, setIfInBounds_toArray, set_cons_zero, set_cons_succ]
      refine tlP (v := .int .i64 (b + 6)) 59 rfl ?_ (hr := run_arith (q := .add) (k := .i64) (m := b + 5) (n := 1) (r := b + 6) rfl rfl rfl (.inl ⟨rfl, by rw [show (b + 5 : Int) + 1 = b + 6 by omega]; exact i64_ok (n := b + 6) (by omega) (by omega)⟩))
      simp only [Act.put, setIfInBounds_toArray, set_cons_zero, set_cons_succ]
      refine tlP (v := .int .i64 (b + 6)) 1 rfl ?_
      simp only [Act.put, setIfInBounds_toArray, set_cons_zero, set_cons_succ]
      refine tl0 ?_
      refine wp_seq ?_
      refine mReg [0, 1, 2, 3, 4, 5] rfl rfl ?_
      refine tlP (v := .slice (some ⟨g, 0, none⟩) l.length c) 60 rfl ?_
      simp only [Act.put, setIfInBounds_toArray, set_cons_zero, set_cons_succ]
      refine tlP (v := .int .i64 ((i : Int))) 61 rfl ?_
      simp only [Act.put, setIfInBounds_toArray, set_cons_zero, set_cons_succ]
      refine tlP (v := .int .i64 (b + 6)) 62 rfl ?_
      simp only [Act.put, setIfInBounds_toArray, set_cons_zero, set_cons_succ]
      refine tlP (v := .pointer (some ⟨g, i * 7, none⟩)) 63 (hr := by go_simp; try rfl) rfl ?_
      simp only [Act.put, setIfInBounds_toArray, set_cons_zero, set_cons_succ]
      refine tlP (v := .pointer (some ⟨g, i * 7 + 6, none⟩)) 64 (hr := by go_simp; try rfl) rfl ?_
      simp only [Act.put, setIfInBounds_toArray, set_cons_zero, set_cons_succ]
      have hc_ : (w.setRow g c6_).cell? ⟨g, i * 7 + 6, none⟩ = some (c6_.getD (i * 7 + 6) undef) := mCell HG.out (by simp only [hz6_]; omega)
      have hf_ : (w.setRow g c6_).frozen? ⟨g, i * 7 + 6, none⟩ = false := mFrozen HG.out _
      refine mSkip (w2 := w.setRow g (c6_.setIfInBounds (i * 7 + 6) (.int .i64 (b + 6)))) rfl (by rw [← mSet]; go_simp; try rfl) ?_
      clear hc_ hf_
      obtain ⟨c7_, hc7_⟩ : ∃ x, x = c6_.setIfInBounds (i * 7 + 6) (.int .i64 (b + 6)) := ⟨_, rfl⟩
      have hz7_ : c7_.size = cur.size := by rw [hc7_, Array.size_setIfInBounds, hz6_]
      rw [← hc7_]; have HC7_ := Aside0.mk hc7_; clear hc7_
      refine tl0 ?_
      refine mReg [0, 1, 2] rfl rfl ?_
      refine tlP (v := .int .i64 (b + 6)) 65 rfl ?_
      simp only [Act.put, setIfInBounds_toArray, set_cons_zero, set_cons_succ]
      refine tlP (v := .int .i64 (b + 7)) 66 rfl ?_ (hr := run_arith (q := .add) (k := .i64) (m := b + 6) (n := 1) (r := b + 7) rfl rfl rfl (.inl ⟨rfl, by rw [show (b + 6 : Int) + 1 = b + 7 by omega]; exact i64_ok (n := b + 7) (by omega) (by omega)⟩))
      simp only [Act.put, setIfInBounds_toArray, set_cons_zero, set_cons_succ]
      refine tlP (v := .int .i64 (b + 7)) 1 rfl ?_
      simp only [Act.put, setIfInBounds_toArray, set_cons_zero, set_cons_succ]
      refine tlE ?_
      show Exit.inBlock _ _ _ _ _
      simp only [Exit.inBlock]
      refine thN ?_
      refine mReg [0, 1, 2] rfl rfl ?_
      refine tlP (v := .int .i64 ((i : Int))) 10 rfl ?_
      simp only [Act.put, setIfInBounds_toArray, set_cons_zero, set_cons_succ]
      refine tlP (v := .int .i64 ((i : Int) + 1)) 11 rfl ?_ (hr := run_arith (q := .add) (k := .i64) (m := (i : Int)) (n := 1) (r := (i : Int) + 1) rfl rfl rfl (.inl ⟨rfl, i64_ok (n := (i : Int) + 1) (by omega) (by omega)⟩))
      simp only [Act.put, setIfInBounds_toArray, set_cons_zero, set_cons_succ]
      refine tlP (v := .int .i64 ((i : Int) + 1)) 5 rfl ?_
      simp only [Act.put, setIfInBounds_toArray, set_cons_zero, set_cons_succ]
      refine tlE ?_
      go_wp2
      go_roundg k1
      case measure => have := HK.out; omega
      case rel => exact ⟨i + 1, c7_, by rw [HBB.out]; congr 1; push_cast; omega, by congr 1, ⟨by have := HK.out; omega, by omega⟩, ⟨hz7_⟩, ⟨marks_round flat_markLoanS.len (markL) a l i hi HC.out (by rw [hz0_]; exact hsz) (by rw [HC7_.out, HC6_.out, HC5_.out, HC4_.out, HC3_.out, HC2_.out, HC1_.out, HBB.out]; rfl)⟩, ⟨rfl⟩⟩
    · have hkk := HK.out
      by_cases hge : i = l.length
      · subst hge
        have HW2 := HW.out; subst HW2
        go_wp2
        go_ret
        exact ⟨by first | rfl | simp, ci, HZ.out, by simpa using HC.out, rfl⟩
      · exfalso; omega
set_option maxHeartbeats 1600000 in
set_option maxRecDepth 100000 in
theorem laws_markLoanS_nil (A : Option Addr) (c : Nat) (a : Int) (w : World) : Calls Tryd.prog 15 #[.slice A 0 c, .int .i64 a] w fun e w' => e = .returned (.int .i64 a) ∧ w' = w := by
  go_enter Tryd.func15, Tryd.ntmps15
  go_wp2
  go_loopg [1, 5] 1 (fun kq v1 v5 w' => v1 = .int .i64 a ∧ v5 = .int .i64 (0 : Int) ∧ w' = w)
  case atStart => exact ⟨rfl, rfl, rfl⟩
  case round =>
    obtain ⟨rfl, rfl, rfl⟩ := hrel
    go_wp2
    go_ret
    exact ⟨rfl, rfl⟩
def laws_markLoanS.f (l : List SimplLoan) (a : Int) : Option (Int × List SimplLoan) := if 0 ≤ a ∧ a + 7 * l.length ≤ 4611686018427387904 then some (a + 7 * l.length, marksG (markL) 7 a l.length) else none
theorem laws_markLoanS.calls (P_ : Nat → Prop) (u : Value) (l : List SimplLoan) (a : Int) (r1 : Int) (r2 : List SimplLoan) (w0 w : World) (hB : Below w0.heap.size w0 w) (ho : Kd.R kimplLoan 59 w w0.heap.size P_ u l) (h : laws_markLoanS.f l a = some (r1, r2)) :
    Calls Tryd.prog 15 #[u, .int .i64 a] w fun e w' => e = .returned (.int .i64 r1) ∧ Kd.R kimplLoan 59 w' w0.heap.size P_ u r2 ∧ Below w0.heap.size w0 w' ∧ Kept w w' P_ := by
  unfold laws_markLoanS.f at h
  split at h
  next hh =>
    obtain ⟨rfl, rfl⟩ : a + 7 * l.length = r1 ∧ marksG (markL) 7 a l.length = r2 := by simpa using h
    by_cases hl : 0 < l.length
    · obtain ⟨g, cap, cur, hv, hP, hg, hsz, htk, hge, hback⟩ := R_blk flat_markLoanS ho hl
      subst hv
      refine (laws_markLoanS_loop g cap l a cur w hg htk hsz hh.1 hh.2).mono ?_
      rintro e w' ⟨rfl, cur', hs', ht', hw'⟩
      exact ⟨rfl, marks_fin flat_markLoanS hB ho rfl hg hP hge hback hs' ht' hw'⟩
    · obtain rfl : l = [] := List.eq_nil_of_length_eq_zero (by omega)
      obtain ⟨A, c, rfl⟩ := Kd.R_slice ho
      refine (laws_markLoanS_nil A c a w).mono ?_
      rintro e w' ⟨rfl, rfl⟩
      exact ⟨by simp, ho, hB, Kept.refl _ _⟩
  next => cases h
end Go.Proofs.YtpbboooeahmgpaaDoor.P


/-
  DERIVED: THE SHELF's CONTRACTS AT THIS DUMP, IN PLAIN WORDS (tools/lay-plain.mjs out of 'YtpbboooeahmgpaaDoorShelfRaw.lean', which tools/lay-shelf.mjs wrote): THE SAME DECLARATIONS UNDER THE SAME NAMES: 'import', 'namespace', 'open', 'def', 'theorem' AND NOTHING ELSE: no command of the shelf's: FOR A HAND-IN. Each laying: the table of numbers ('.._ren') and one theorem, a field a fact of the dump's own or the kernel's comparison; each contract: ONE APPLICATION.
-/
namespace Go.Proofs
open Go.Shelf
def Tryd.lays122_ren : Go.Shelf.Ren := ⟨fun | 122 => 71 | 215 => 94 | n => n, fun | 3 => 3 | 4 => 4 | n => n, fun | n => n⟩
theorem Tryd.lays122 : Go.Proofs.Lays.n122 Tryd.prog Tryd.lays122_ren := {
  mixed := by kernel_rfl
  f122 := Tryd.func71.trans (congrArg some (by kernel_rfl))
  f215 := Tryd.func94.trans (congrArg some (by kernel_rfl))
  t3 := Tryd.underlying3
  a3 := Tryd.isAgg3
  z3 := Tryd.sizeOf3
  v3 := Tryd.zeroValue3
  t4 := Tryd.underlying4
  a4 := Tryd.isAgg4
  z4 := Tryd.sizeOf4
  v4 := Tryd.zeroValue4 }
def Tryd.lays27_ren : Go.Shelf.Ren := ⟨fun | 27 => 70 | 28 => 92 | 29 => 93 | n => n, fun | 25 => 102 | 3 => 3 | 27 => 121 | 22 => 86 | 4 => 4 | 53 => 126 | 0 => 0 | 5 => 5 | 54 => 127 | n => n, fun | 0 => 0 | 1 => 1 | n => n⟩
theorem Tryd.lays27 : Go.Proofs.Lays7.n27 Tryd.prog Tryd.lays27_ren := {
  mixed := by kernel_rfl
  f27 := Tryd.func70.trans (congrArg some (by kernel_rfl))
  f28 := Tryd.func92.trans (congrArg some (by kernel_rfl))
  f29 := Tryd.func93.trans (congrArg some (by kernel_rfl))
  t0 := Tryd.underlying0
  a0 := Tryd.isAgg0
  z0 := Tryd.sizeOf0
  v0 := Tryd.zeroValue0
  i0 := by kernel_rfl
  t3 := Tryd.underlying3
  a3 := Tryd.isAgg3
  z3 := Tryd.sizeOf3
  v3 := Tryd.zeroValue3
  i3 := by kernel_rfl
  t4 := Tryd.underlying4
  a4 := Tryd.isAgg4
  z4 := Tryd.sizeOf4
  v4 := Tryd.zeroValue4
  i4 := by kernel_rfl
  t5 := Tryd.underlying5
  a5 := Tryd.isAgg5
  z5 := Tryd.sizeOf5
  v5 := Tryd.zeroValue5
  i5 := by kernel_rfl
  t22 := Tryd.underlying86
  a22 := Tryd.isAgg86
  z22 := Tryd.sizeOf86
  v22 := Tryd.zeroValue86
  i22 := by kernel_rfl
  t25 := Tryd.underlying102
  a25 := Tryd.isAgg102
  z25 := Tryd.sizeOf102
  v25 := Tryd.zeroValue102
  i25 := by kernel_rfl
  t27 := Tryd.underlying121
  a27 := Tryd.isAgg121
  z27 := Tryd.sizeOf121
  v27 := Tryd.zeroValue121
  i27 := by kernel_rfl
  t53 := Tryd.underlying126
  a53 := Tryd.isAgg126
  z53 := Tryd.sizeOf126
  v53 := Tryd.zeroValue126
  i53 := by kernel_rfl
  t54 := Tryd.underlying127
  a54 := Tryd.isAgg127
  z54 := Tryd.sizeOf127
  g0 := by kernel_rfl
  g1 := by kernel_rfl }
open Go.RowKit in
theorem Tryd.cmp_Compare_int (x y : Int) (w : World) :
    Calls Tryd.prog 71 #[.int .i64 x, .int .i64 y] w fun e w' => e = .returned (.int .i64 (Lib.compareInt x y)) ∧ w' = w := Any.cmp_Compare_int Tryd.lays122 x y w
open Go.RowKit in
theorem Tryd.bits_TrailingZeros (x : Nat) (hx : x < 18446744073709551616) (w : World) (hT : x ≠ 0 → TabAt 1 Lib.deBruijn64tab w) :
    Calls Tryd.prog 70 #[.int .u64 x] w fun e w' => e = .returned (.int .i64 (Lib.ctz 64 x)) ∧ w' = w := Any7.bits_TrailingZeros Tryd.lays27 x hx w hT
end Go.Proofs


/- math/bits.TrailingZeros by the shelf's contract: it reads a table that stands in a package-level variable. -/
namespace Go.Proofs.YtpbboooeahmgpaaDoor.P
open Go.RowKit Go.Proofs.YtpbboooeahmgpaaDoorW.PrintWords Go.Proofs.YtpbboooeahmgpaaDoorW.PrintMore
set_option linter.unusedVariables false
def TzT (w : World) : Prop := 1 < w.heap.size ∧ TabAt 1 Lib.deBruijn64tab w
theorem TzT.down {w w' : World} (h : TzT w) (hb : Below w.heap.size w w') : TzT w' :=
  ⟨Nat.lt_of_lt_of_le h.1 (below_size hb), fun j hj => (hb.cell (p := ⟨1, j, none⟩) h.1).trans (h.2 j hj)⟩
def bits_TrailingZeros.f (x : Int) : Option Int := if 0 ≤ x ∧ x < 18446744073709551616 then some (Lib.ctz 64 x.toNat : Nat) else none
theorem bits_TrailingZeros.calls (x r : Int) (w : World) (h : bits_TrailingZeros.f x = some r) (hT : TzT w) :
    Calls Tryd.prog 70 #[.int .u64 x] w fun e w' => e = .returned (.int .i64 r) ∧ Below w.heap.size w w' := by
  unfold bits_TrailingZeros.f at h
  split at h
  · rename_i hx
    obtain rfl := Option.some.inj h
    obtain ⟨n, rfl⟩ := Int.eq_ofNat_of_zero_le hx.1
    refine (Tryd.bits_TrailingZeros n (by omega) w (fun _ => hT.2)).mono ?_
    rintro e w' ⟨rfl, rfl⟩
    exact ⟨rfl, Below.refl _ _⟩
  · exact absurd h (by simp)
end Go.Proofs.YtpbboooeahmgpaaDoor.P


