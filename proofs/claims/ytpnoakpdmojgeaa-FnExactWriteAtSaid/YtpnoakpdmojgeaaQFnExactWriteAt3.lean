/- For all arguments, impl.WriteAt answers what spec.WriteAt answers, leaves its arguments alone, and shares nothing of what it returns.
   The row of the law FnExactWriteAt, out of its walk. Conditions: none. -/
import Derived.Test.YtpnoakpdmojgeaaQFnExactWriteAt2
import Derived.Test.YtpnoakpdmojgeaaRows
import Derived.WalkKit
import Derived.ProofKit
import Derived.OpenShut
import Derived.ShutString
import Derived.ChangeOld
import Derived.Below
import Derived.SizedLaws
import Derived.Test.YtpnoakpdmojgeaaWApart
import Derived.Test.YtpnoakpdmojgeaaWFoot
import Derived.Test.YtpnoakpdmojgeaaWGuard
import Derived.Test.YtpnoakpdmojgeaaWInv
import Derived.Test.YtpnoakpdmojgeaaWKept
import Derived.Test.YtpnoakpdmojgeaaWLast
import Derived.Test.YtpnoakpdmojgeaaWMore
import Derived.Test.YtpnoakpdmojgeaaWN
import Derived.Test.YtpnoakpdmojgeaaWRepsOne
import Derived.Test.YtpnoakpdmojgeaaWShare
import Derived.Test.YtpnoakpdmojgeaaWTab
import Derived.Test.YtpnoakpdmojgeaaWWords
-- written by wip/gen_walk.py
namespace Go.Proofs.Ytpnoakpdmojgeaa.P
open Go.RowKit Go.Proofs.YtpnoakpdmojgeaaW.PrintWords Go.Proofs.YtpnoakpdmojgeaaW.PrintLast Go.Proofs.YtpnoakpdmojgeaaW.PrintMore Go.Proofs.YtpnoakpdmojgeaaW.Mine
attribute [local go_sem] max2_int min2_int max_two min_two max_three min_three max_four min_four
set_option linter.unusedVariables false
set_option linter.unusedSimpArgs false
set_option maxHeartbeats 8000000 in
set_option maxRecDepth 100000 in
theorem FnExactWriteAt_run0 (A0_0 : Option Addr) (c0_0 : Nat) (l0_0 : List (List Int)) (a1_0 : Int) (a1_1 : Int) (a1_2 : Int) (a1_3 : Int) (a2_0 : Int) (a3_0 : Int) (r1_0 : Int) (w : World) (hr0_0 : Kd.C (Kd.slice 5 (Kd.int .u8)) w A0_0 l0_0.length l0_0) (hc0_0 : l0_0.length ≤ c0_0) (H1 : ∃ k, laws_szMemory.f k l0_0 1048576 = some r1_0) (P_ : r1_0 < 0) :
    Calls Try.prog 6 #[.agg #[.slice A0_0 l0_0.length c0_0], .agg #[.int .i64 a1_0, .int .i64 a1_1, .int .i64 a1_2, .int .i64 a1_3], .int .i64 a2_0, .int .u8 a3_0] w fun e w' => e = .returned (.bool true) ∧ Below w.heap.size w w' := by
  have HR0_0 := Aside0.mk hr0_0
  have HC0_0 := Aside0.mk hc0_0
  clear hr0_0 hc0_0
  obtain ⟨k, H1_⟩ := H1
  have H1 := Aside0.mk H1_
  clear H1_
  have Pb_ : decide (r1_0 < 0) = true := decide_eq_true P_
  clear P_
  have HS0 : Aside0 (Stk w [] w) := ⟨Stk.nil w⟩
  go_enter Try.func6, Try.ntmps6
  go_wp2_with (first | ((with_reducible refine gate_dst (N := 4) rfl ?_); refine box_event ?hg (N := 4) ?hd (cs := #[.slice A0_0 l0_0.length c0_0]) (t := 31) ?hr ?_; (case hd => rfl); (case hg => rfl); (case hr => first | (go_simp; done) | (go_simp; rfl)); intro g1 hg w1 hbox hb; have HS1 : Aside0 (Stk w [⟨g1, g1 + 1, bx g1 #[.slice A0_0 l0_0.length c0_0] 31⟩] w1) := ⟨HS0.out.box hb hg hbox⟩; clear hb hbox hg HS0) | ((with_reducible refine gate_dst (N := 5) rfl ?_); refine box_event ?hg (N := 5) ?hd (cs := #[.int .i64 a1_0, .int .i64 a1_1, .int .i64 a1_2, .int .i64 a1_3]) (t := 54) ?hr ?_; (case hd => rfl); (case hg => rfl); (case hr => first | (go_simp; done) | (go_simp; rfl)); intro g2 hg w2 hbox hb; have HS2 : Aside0 (Stk w [⟨g2, g2 + 1, bx g2 #[.int .i64 a1_0, .int .i64 a1_1, .int .i64 a1_2, .int .i64 a1_3] 54⟩, ⟨g1, g1 + 1, bx g1 #[.slice A0_0 l0_0.length c0_0] 31⟩] w2) := ⟨HS1.out.box hb hg hbox⟩; clear hb hbox hg HS1; have B2_g1 : bx g1 #[.slice A0_0 l0_0.length c0_0] 31 w2 := HS2.out.get 1 rfl; have hcz2_g1_0 : (w2).cell? ⟨g1, 0, none⟩ = some (.slice A0_0 l0_0.length c0_0) := (blk_cell B2_g1 0).trans rfl; have hfz2_g1_0 := blk_frozen B2_g1 0; clear B2_g1) | ((with_reducible refine gate_callee (f := 19) rfl ?_); refine goesL_ (some 22) rfl rfl Try.func19 (by kernel_rfl) rfl #[.agg #[.slice A0_0 l0_0.length c0_0], .int .i64 1048576] rfl (by (try simp only [List.map_toArray, List.map_cons, List.map_nil]); first | done | rfl) ?_; (refine (laws_szMemory.calls _ _ _ _ _ _ _ ?side1 ?side2 H1.out).mono ?_); (case side1 => exact Kd.C_below HR0_0.out HS2.out.hb); (case side2 => exact HC0_0.out); rintro e w3 ⟨rfl, hb⟩; refine ⟨_, rfl, ?_⟩; (try clear hcz2_g1_0 hfz2_g1_0); have HS3 : Aside0 (Stk w [⟨g2, g2 + 1, bx g2 #[.int .i64 a1_0, .int .i64 a1_1, .int .i64 a1_2, .int .i64 a1_3] 54⟩, ⟨g1, g1 + 1, bx g1 #[.slice A0_0 l0_0.length c0_0] 31⟩] w3) := ⟨HS2.out.below hb⟩; clear hb HS2))
  go_ret
  exact ⟨by first | rfl | simp, HS3.out.hb⟩
set_option maxHeartbeats 8000000 in
set_option maxRecDepth 100000 in
theorem FnExactWriteAt_run (A0_0 : Option Addr) (c0_0 : Nat) (l0_0 : List (List Int)) (a1_0 : Int) (a1_1 : Int) (a1_2 : Int) (a1_3 : Int) (a2_0 : Int) (a3_0 : Int) (r1_0 : Int) (r2_0 : List (List Int)) (r3_0 : Int) (r3_1 : Int) (r3_2 : Int) (r3_3 : Int) (r4_0 : List (List Int)) (r4_1 : Bool) (r8_0 : Int) (r8_1 : List (List Int)) (r9_0 : Int) (r9_1 : List (List Int)) (w : World) (hr0_0 : Kd.C (Kd.slice 5 (Kd.int .u8)) w A0_0 l0_0.length l0_0) (hc0_0 : l0_0.length ≤ c0_0) (H1 : ∃ k, laws_szMemory.f k l0_0 1048576 = some r1_0) (H2 : laws_toMemory.f l0_0 = some r2_0) (H3 : laws_toWindow.f a1_0 a1_1 a1_2 a1_3 = some (r3_0, r3_1, r3_2, r3_3)) (H4 : spec_WriteAt.f r2_0 r3_0 r3_1 r3_2 r3_3 a2_0 a3_0 = some (r4_0, r4_1)) (H5 : impl_WriteAt.f r2_0 r3_0 r3_1 r3_2 r3_3 a2_0 a3_0 = some (r4_0, r4_1)) (H6 : ∃ k, laws_eqMemory.f k r4_0 r4_0 = some true) (H7 : ∃ k, laws_eqMemory.f k r2_0 r2_0 = some true) (H8 : laws_markMemory.f r2_0 1 = some (r8_0, r8_1)) (H9 : laws_markMemory.f r4_0 1 = some (r9_0, r9_1)) (H10 : ∃ k, laws_heldMemory.f k r9_1 1 = some r9_0) (N_r1_0 : ¬ r1_0 < 0) (N_r8_0 : ¬ r8_0 < 0) (N_r9_0 : ¬ r9_0 < 0) :
    Calls Try.prog 6 #[.agg #[.slice A0_0 l0_0.length c0_0], .agg #[.int .i64 a1_0, .int .i64 a1_1, .int .i64 a1_2, .int .i64 a1_3], .int .i64 a2_0, .int .u8 a3_0] w fun e w' => e = .returned (.bool true) ∧ Below w.heap.size w w' := by
  have HR0_0 := Aside0.mk hr0_0
  have HC0_0 := Aside0.mk hc0_0
  clear hr0_0 hc0_0
  obtain ⟨k, H1_⟩ := H1
  have H1 := Aside0.mk H1_
  clear H1_
  have H2_ := Aside0.mk H2
  clear H2
  have H2 := H2_
  clear H2_
  have H3_ := Aside0.mk H3
  clear H3
  have H3 := H3_
  clear H3_
  have H4_ := Aside0.mk H4
  clear H4
  have H4 := H4_
  clear H4_
  have H5_ := Aside0.mk H5
  clear H5
  have H5 := H5_
  clear H5_
  obtain ⟨k, H6_⟩ := H6
  have H6 := Aside0.mk H6_
  clear H6_
  obtain ⟨k, H7_⟩ := H7
  have H7 := Aside0.mk H7_
  clear H7_
  have H8_ := Aside0.mk H8
  clear H8
  have H8 := H8_
  clear H8_
  have H9_ := Aside0.mk H9
  clear H9
  have H9 := H9_
  clear H9_
  obtain ⟨k, H10_⟩ := H10
  have H10 := Aside0.mk H10_
  clear H10_
  have Nb_r1_0 : decide (r1_0 < 0) = false := decide_eq_false N_r1_0
  clear N_r1_0
  have Nb_r8_0 : decide (r8_0 < 0) = false := decide_eq_false N_r8_0
  clear N_r8_0
  have Nb_r9_0 : decide (r9_0 < 0) = false := decide_eq_false N_r9_0
  clear N_r9_0
  have HS0 : Aside0 (Stk w [] w) := ⟨Stk.nil w⟩
  go_enter Try.func6, Try.ntmps6
  go_wp2_with (first | ((with_reducible refine gate_dst (N := 4) rfl ?_); refine box_event ?hg (N := 4) ?hd (cs := #[.slice A0_0 l0_0.length c0_0]) (t := 31) ?hr ?_; (case hd => rfl); (case hg => rfl); (case hr => first | (go_simp; done) | (go_simp; rfl)); intro g1 hg w1 hbox hb; have HS1 : Aside0 (Stk w [⟨g1, g1 + 1, bx g1 #[.slice A0_0 l0_0.length c0_0] 31⟩] w1) := ⟨HS0.out.box hb hg hbox⟩; clear hb hbox hg HS0) | ((with_reducible refine gate_dst (N := 5) rfl ?_); refine box_event ?hg (N := 5) ?hd (cs := #[.int .i64 a1_0, .int .i64 a1_1, .int .i64 a1_2, .int .i64 a1_3]) (t := 54) ?hr ?_; (case hd => rfl); (case hg => rfl); (case hr => first | (go_simp; done) | (go_simp; rfl)); intro g2 hg w2 hbox hb; have HS2 : Aside0 (Stk w [⟨g2, g2 + 1, bx g2 #[.int .i64 a1_0, .int .i64 a1_1, .int .i64 a1_2, .int .i64 a1_3] 54⟩, ⟨g1, g1 + 1, bx g1 #[.slice A0_0 l0_0.length c0_0] 31⟩] w2) := ⟨HS1.out.box hb hg hbox⟩; clear hb hbox hg HS1; have B2_g1 : bx g1 #[.slice A0_0 l0_0.length c0_0] 31 w2 := HS2.out.get 1 rfl; have hcz2_g1_0 : (w2).cell? ⟨g1, 0, none⟩ = some (.slice A0_0 l0_0.length c0_0) := (blk_cell B2_g1 0).trans rfl; have hfz2_g1_0 := blk_frozen B2_g1 0; clear B2_g1) | ((with_reducible refine gate_callee (f := 19) rfl ?_); refine goesL_ (some 22) rfl rfl Try.func19 (by kernel_rfl) rfl #[.agg #[.slice A0_0 l0_0.length c0_0], .int .i64 1048576] rfl (by (try simp only [List.map_toArray, List.map_cons, List.map_nil]); first | done | rfl) ?_; (refine (laws_szMemory.calls _ _ _ _ _ _ _ ?side1 ?side2 H1.out).mono ?_); (case side1 => exact Kd.C_below HR0_0.out HS2.out.hb); (case side2 => exact HC0_0.out); rintro e w3 ⟨rfl, hb⟩; refine ⟨_, rfl, ?_⟩; (try clear hcz2_g1_0 hfz2_g1_0); have HS3 : Aside0 (Stk w [⟨g2, g2 + 1, bx g2 #[.int .i64 a1_0, .int .i64 a1_1, .int .i64 a1_2, .int .i64 a1_3] 54⟩, ⟨g1, g1 + 1, bx g1 #[.slice A0_0 l0_0.length c0_0] 31⟩] w3) := ⟨HS2.out.below hb⟩; clear hb HS2))
  have HS4 : Aside0 (Stk w [⟨g2, g2 + 1, bx g2 #[.int .i64 a1_0, .int .i64 a1_1, .int .i64 a1_2, .int .i64 a1_3] 54⟩, ⟨g1, g1 + 1, bx g1 #[.slice A0_0 l0_0.length c0_0] 31⟩] (w3).drew) := ⟨HS3.out.drew⟩
  clear HS3
  refine start_ (n := 13) (S := fun w' => w'.cell? ⟨g1, 0, none⟩ = some (.slice A0_0 l0_0.length c0_0) ∧ w'.cell? ⟨g2, 0, none⟩ = some (.int .i64 a1_0) ∧ w'.cell? ⟨g2, 1, none⟩ = some (.int .i64 a1_1) ∧ w'.cell? ⟨g2, 2, none⟩ = some (.int .i64 a1_2) ∧ w'.cell? ⟨g2, 3, none⟩ = some (.int .i64 a1_3)) (ds := []) #[false, false, false, false, false, false, false, false, false, false, false, false, false] (by kernel_rfl) rfl rfl ⟨(blk_cell (show bx g1 #[.slice A0_0 l0_0.length c0_0] 31 ((w3).drew) from HS4.out.get 1 rfl) 0).trans rfl, (blk_cell (show bx g2 #[.int .i64 a1_0, .int .i64 a1_1, .int .i64 a1_2, .int .i64 a1_3] 54 ((w3).drew) from HS4.out.get 0 rfl) 0).trans rfl, (blk_cell (show bx g2 #[.int .i64 a1_0, .int .i64 a1_1, .int .i64 a1_2, .int .i64 a1_3] 54 ((w3).drew) from HS4.out.get 0 rfl) 1).trans rfl, (blk_cell (show bx g2 #[.int .i64 a1_0, .int .i64 a1_1, .int .i64 a1_2, .int .i64 a1_3] 54 ((w3).drew) from HS4.out.get 0 rfl) 2).trans rfl, (blk_cell (show bx g2 #[.int .i64 a1_0, .int .i64 a1_1, .int .i64 a1_2, .int .i64 a1_3] 54 ((w3).drew) from HS4.out.get 0 rfl) 3).trans rfl⟩ (fun hHeld => ?_)
  generalize (w3).drew = w4 at HS4 hHeld ⊢
  refine pure_ (i := 4) (N := some 30) (v := ?_) (a' := ?_) #[false, false, false, false, true, false, false, false, false, false, false, false, false] rfl rfl (by kernel_rfl) (fun _ _ _ h => h) (Or.inl ⟨by rfl, ?_⟩) ?_ ?_
  rotate_left
  · intro w'
    go_simp
    with_reducible rfl
  rotate_left
  · simp only [Act.put, List.setIfInBounds_toArray, List.set_cons_zero, List.set_cons_succ, i64_w, i32_w]
    rfl
  refine pure_ (i := 5) (N := some 31) (v := ?_) (a' := ?_) #[false, false, false, false, true, true, false, false, false, false, false, false, false] rfl rfl (by kernel_rfl) (fun _ _ _ h => h) (Or.inl ⟨by rfl, ?_⟩) ?_ ?_
  rotate_left
  · intro w'
    go_simp
    with_reducible rfl
  rotate_left
  · simp only [Act.put, List.setIfInBounds_toArray, List.set_cons_zero, List.set_cons_succ, i64_w, i32_w]
    rfl
  refine take_ (i := 0) (N := some 26) (v := ?_) (a' := ?_) #[true, false, false, false, true, true, false, false, false, false, false, false, false] rfl rfl (by kernel_rfl) (fun _ _ _ h => h) (Or.inl ⟨by rfl, ?_⟩) hHeld ?_ ?_
  rotate_left
  · rintro w' ⟨s0, s1, s2, s3, s4⟩
    go_simp
    with_reducible rfl
  rotate_left
  · simp only [Act.put, List.setIfInBounds_toArray, List.set_cons_zero, List.set_cons_succ, i64_w, i32_w]
    rfl
  refine take_ (i := 2) (N := some 28) (v := ?_) (a' := ?_) #[true, false, true, false, true, true, false, false, false, false, false, false, false] rfl rfl (by kernel_rfl) (fun _ _ _ h => h) (Or.inl ⟨by rfl, ?_⟩) hHeld ?_ ?_
  rotate_left
  · rintro w' ⟨s0, s1, s2, s3, s4⟩
    go_simp
    with_reducible rfl
  rotate_left
  · simp only [Act.put, List.setIfInBounds_toArray, List.set_cons_zero, List.set_cons_succ, i64_w, i32_w]
    rfl
  refine join_ (σ := Nat × Nat × Nat × Option Addr × Nat × Nat × Nat × Option Addr × Nat) 2 #[true, true, true, true, true, true, true, true, true, true, true, false, false] (fun s_ => [(27, .agg #[.slice s_.2.2.2.2.2.2.2.1 r2_0.length s_.2.2.2.2.2.2.2.2]), (29, .agg #[.int .i64 r3_0, .int .i64 r3_1, .int .i64 r3_2, .int .i64 r3_3]), (32, .tuple #[.agg #[.slice s_.2.2.2.1 r4_0.length s_.2.2.2.2.1], .bool r4_1]), (10, .pointer (some ⟨s_.1, 0, none⟩)), (25, .tuple #[.agg #[.slice s_.2.2.2.1 r4_0.length s_.2.2.2.2.1], .bool r4_1]), (33, .agg #[.slice s_.2.2.2.1 r4_0.length s_.2.2.2.2.1]), (34, .bool r4_1)]) (fun s_ w' => (w'.cell? ⟨g1, 0, none⟩ = some (.slice A0_0 l0_0.length c0_0) ∧ w'.cell? ⟨g2, 0, none⟩ = some (.int .i64 a1_0) ∧ w'.cell? ⟨g2, 1, none⟩ = some (.int .i64 a1_1) ∧ w'.cell? ⟨g2, 2, none⟩ = some (.int .i64 a1_2) ∧ w'.cell? ⟨g2, 3, none⟩ = some (.int .i64 a1_3)) ∧ (Stk w [⟨s_.1, s_.1 + 1, bx s_.1 #[.slice none 0 0] 33⟩, ⟨s_.2.1, s_.2.2.1, fun w_ => Kd.S (Kd.slice 5 (Kd.int .u8)) 67 w_ w.heap.size (fun k_ => s_.2.1 ≤ k_ ∧ k_ < s_.2.2.1) (.slice s_.2.2.2.1 r4_0.length s_.2.2.2.2.1) r4_0⟩, ⟨s_.2.2.2.2.2.1, s_.2.2.2.2.2.2.1, fun w_ => Kd.S (Kd.slice 5 (Kd.int .u8)) 67 w_ w.heap.size (fun k_ => s_.2.2.2.2.2.1 ≤ k_ ∧ k_ < s_.2.2.2.2.2.2.1) (.slice s_.2.2.2.2.2.2.2.1 r2_0.length s_.2.2.2.2.2.2.2.2) r2_0⟩, ⟨g2, g2 + 1, bx g2 #[.int .i64 a1_0, .int .i64 a1_1, .int .i64 a1_2, .int .i64 a1_3] 54⟩, ⟨g1, g1 + 1, bx g1 #[.slice A0_0 l0_0.length c0_0] 31⟩] w')) ?_ ?_
  rotate_left
  · intro hJ1_3_6_10
    refine join_ (σ := Nat × Nat × Option Addr × Nat × Nat × Nat × Option Addr × Nat) 3 #[true, true, true, true, true, true, true, true, true, true, false, false, false] (fun s_ => [(27, .agg #[.slice s_.2.2.2.2.2.2.1 r2_0.length s_.2.2.2.2.2.2.2]), (29, .agg #[.int .i64 r3_0, .int .i64 r3_1, .int .i64 r3_2, .int .i64 r3_3]), (32, .tuple #[.agg #[.slice s_.2.2.1 r4_0.length s_.2.2.2.1], .bool r4_1]), (25, .tuple #[.agg #[.slice s_.2.2.1 r4_0.length s_.2.2.2.1], .bool r4_1]), (33, .agg #[.slice s_.2.2.1 r4_0.length s_.2.2.2.1]), (34, .bool r4_1)]) (fun s_ w' => (w'.cell? ⟨g1, 0, none⟩ = some (.slice A0_0 l0_0.length c0_0) ∧ w'.cell? ⟨g2, 0, none⟩ = some (.int .i64 a1_0) ∧ w'.cell? ⟨g2, 1, none⟩ = some (.int .i64 a1_1) ∧ w'.cell? ⟨g2, 2, none⟩ = some (.int .i64 a1_2) ∧ w'.cell? ⟨g2, 3, none⟩ = some (.int .i64 a1_3)) ∧ (Stk w [⟨s_.1, s_.2.1, fun w_ => Kd.S (Kd.slice 5 (Kd.int .u8)) 67 w_ w.heap.size (fun k_ => s_.1 ≤ k_ ∧ k_ < s_.2.1) (.slice s_.2.2.1 r4_0.length s_.2.2.2.1) r4_0⟩, ⟨s_.2.2.2.2.1, s_.2.2.2.2.2.1, fun w_ => Kd.S (Kd.slice 5 (Kd.int .u8)) 67 w_ w.heap.size (fun k_ => s_.2.2.2.2.1 ≤ k_ ∧ k_ < s_.2.2.2.2.2.1) (.slice s_.2.2.2.2.2.2.1 r2_0.length s_.2.2.2.2.2.2.2) r2_0⟩, ⟨g2, g2 + 1, bx g2 #[.int .i64 a1_0, .int .i64 a1_1, .int .i64 a1_2, .int .i64 a1_3] 54⟩, ⟨g1, g1 + 1, bx g1 #[.slice A0_0 l0_0.length c0_0] 31⟩] w')) ?_ ?_
    rotate_left
    · intro hJ1_3_6
      refine join_ (σ := Nat × Nat × Nat × Option Addr × Nat) 6 #[true, true, true, true, true, true, false, false, false, false, true, false, false] (fun s_ => [(27, .agg #[.slice s_.2.2.2.1 r2_0.length s_.2.2.2.2]), (29, .agg #[.int .i64 r3_0, .int .i64 r3_1, .int .i64 r3_2, .int .i64 r3_3]), (10, .pointer (some ⟨s_.1, 0, none⟩))]) (fun s_ w' => (w'.cell? ⟨g1, 0, none⟩ = some (.slice A0_0 l0_0.length c0_0) ∧ w'.cell? ⟨g2, 0, none⟩ = some (.int .i64 a1_0) ∧ w'.cell? ⟨g2, 1, none⟩ = some (.int .i64 a1_1) ∧ w'.cell? ⟨g2, 2, none⟩ = some (.int .i64 a1_2) ∧ w'.cell? ⟨g2, 3, none⟩ = some (.int .i64 a1_3)) ∧ (Stk w [⟨s_.1, s_.1 + 1, bx s_.1 #[.slice none 0 0] 33⟩, ⟨s_.2.1, s_.2.2.1, fun w_ => Kd.S (Kd.slice 5 (Kd.int .u8)) 67 w_ w.heap.size (fun k_ => s_.2.1 ≤ k_ ∧ k_ < s_.2.2.1) (.slice s_.2.2.2.1 r2_0.length s_.2.2.2.2) r2_0⟩, ⟨g2, g2 + 1, bx g2 #[.int .i64 a1_0, .int .i64 a1_1, .int .i64 a1_2, .int .i64 a1_3] 54⟩, ⟨g1, g1 + 1, bx g1 #[.slice A0_0 l0_0.length c0_0] 31⟩] w')) ?_ ?_
      rotate_left
      · intro hJ1_3_10
        refine join_ (σ := Nat × Nat × Option Addr × Nat) 7 #[true, true, true, true, true, true, false, false, false, false, false, false, false] (fun s_ => [(27, .agg #[.slice s_.2.2.1 r2_0.length s_.2.2.2]), (29, .agg #[.int .i64 r3_0, .int .i64 r3_1, .int .i64 r3_2, .int .i64 r3_3])]) (fun s_ w' => (w'.cell? ⟨g1, 0, none⟩ = some (.slice A0_0 l0_0.length c0_0) ∧ w'.cell? ⟨g2, 0, none⟩ = some (.int .i64 a1_0) ∧ w'.cell? ⟨g2, 1, none⟩ = some (.int .i64 a1_1) ∧ w'.cell? ⟨g2, 2, none⟩ = some (.int .i64 a1_2) ∧ w'.cell? ⟨g2, 3, none⟩ = some (.int .i64 a1_3)) ∧ (Stk w [⟨s_.1, s_.2.1, fun w_ => Kd.S (Kd.slice 5 (Kd.int .u8)) 67 w_ w.heap.size (fun k_ => s_.1 ≤ k_ ∧ k_ < s_.2.1) (.slice s_.2.2.1 r2_0.length s_.2.2.2) r2_0⟩, ⟨g2, g2 + 1, bx g2 #[.int .i64 a1_0, .int .i64 a1_1, .int .i64 a1_2, .int .i64 a1_3] 54⟩, ⟨g1, g1 + 1, bx g1 #[.slice A0_0 l0_0.length c0_0] 31⟩] w')) ?_ ?_
        rotate_left
        · intro hJ1_3
          refine join_ (σ := Nat × Nat × Nat × Option Addr × Nat) 7 #[true, true, true, false, true, true, false, false, false, false, true, false, false] (fun s_ => [(27, .agg #[.slice s_.2.2.2.1 r2_0.length s_.2.2.2.2]), (10, .pointer (some ⟨s_.1, 0, none⟩))]) (fun s_ w' => (w'.cell? ⟨g1, 0, none⟩ = some (.slice A0_0 l0_0.length c0_0) ∧ w'.cell? ⟨g2, 0, none⟩ = some (.int .i64 a1_0) ∧ w'.cell? ⟨g2, 1, none⟩ = some (.int .i64 a1_1) ∧ w'.cell? ⟨g2, 2, none⟩ = some (.int .i64 a1_2) ∧ w'.cell? ⟨g2, 3, none⟩ = some (.int .i64 a1_3)) ∧ (Stk w [⟨s_.1, s_.1 + 1, bx s_.1 #[.slice none 0 0] 33⟩, ⟨s_.2.1, s_.2.2.1, fun w_ => Kd.S (Kd.slice 5 (Kd.int .u8)) 67 w_ w.heap.size (fun k_ => s_.2.1 ≤ k_ ∧ k_ < s_.2.2.1) (.slice s_.2.2.2.1 r2_0.length s_.2.2.2.2) r2_0⟩, ⟨g2, g2 + 1, bx g2 #[.int .i64 a1_0, .int .i64 a1_1, .int .i64 a1_2, .int .i64 a1_3] 54⟩, ⟨g1, g1 + 1, bx g1 #[.slice A0_0 l0_0.length c0_0] 31⟩] w')) ?_ ?_
          rotate_left
          · intro hJ1_10
            refine join_ (σ := Nat × Nat × Option Addr × Nat) 8 #[true, true, true, false, true, true, false, false, false, false, false, false, false] (fun s_ => [(27, .agg #[.slice s_.2.2.1 r2_0.length s_.2.2.2])]) (fun s_ w' => (w'.cell? ⟨g1, 0, none⟩ = some (.slice A0_0 l0_0.length c0_0) ∧ w'.cell? ⟨g2, 0, none⟩ = some (.int .i64 a1_0) ∧ w'.cell? ⟨g2, 1, none⟩ = some (.int .i64 a1_1) ∧ w'.cell? ⟨g2, 2, none⟩ = some (.int .i64 a1_2) ∧ w'.cell? ⟨g2, 3, none⟩ = some (.int .i64 a1_3)) ∧ (Stk w [⟨s_.1, s_.2.1, fun w_ => Kd.S (Kd.slice 5 (Kd.int .u8)) 67 w_ w.heap.size (fun k_ => s_.1 ≤ k_ ∧ k_ < s_.2.1) (.slice s_.2.2.1 r2_0.length s_.2.2.2) r2_0⟩, ⟨g2, g2 + 1, bx g2 #[.int .i64 a1_0, .int .i64 a1_1, .int .i64 a1_2, .int .i64 a1_3] 54⟩, ⟨g1, g1 + 1, bx g1 #[.slice A0_0 l0_0.length c0_0] 31⟩] w')) ?_ ?_
            rotate_left
            · intro hJ1
              refine join_ (σ := Nat) 8 #[true, false, true, false, true, true, false, false, false, false, true, false, false] (fun s_ => [(10, .pointer (some ⟨s_, 0, none⟩))]) (fun s_ w' => (w'.cell? ⟨g1, 0, none⟩ = some (.slice A0_0 l0_0.length c0_0) ∧ w'.cell? ⟨g2, 0, none⟩ = some (.int .i64 a1_0) ∧ w'.cell? ⟨g2, 1, none⟩ = some (.int .i64 a1_1) ∧ w'.cell? ⟨g2, 2, none⟩ = some (.int .i64 a1_2) ∧ w'.cell? ⟨g2, 3, none⟩ = some (.int .i64 a1_3)) ∧ (Stk w [⟨s_, s_ + 1, bx s_ #[.slice none 0 0] 33⟩, ⟨g2, g2 + 1, bx g2 #[.int .i64 a1_0, .int .i64 a1_1, .int .i64 a1_2, .int .i64 a1_3] 54⟩, ⟨g1, g1 + 1, bx g1 #[.slice A0_0 l0_0.length c0_0] 31⟩] w')) ?_ ?_
              rotate_left
              · intro hJ10
                refine two_ (i := 1) (j := 10) (Ni := some 27) (Nj := some 10) #[true, true, true, false, true, true, false, false, false, false, false, false, false] #[true, false, true, false, true, true, false, false, false, false, true, false, false] rfl rfl rfl rfl (by kernel_rfl) (by decide) (by decide) (fun K hK => ?_) (fun K hK => ?_)
                · skip
                  refine goes_ Try.func21 (by kernel_rfl) rfl #[.agg #[.slice A0_0 l0_0.length c0_0]] (by rfl) rfl rfl (by (try simp only [List.map_toArray, List.map_cons, List.map_nil]); first | done | rfl) ?_
                  (refine (laws_toMemory.calls _ _ _ _ _ ?side1 ?side2 H2.out).mono ?_)
                  (case side1 => exact Kd.C_below HR0_0.out HS4.out.hb)
                  (case side2 => exact HC0_0.out)
                  rintro e w9 ⟨v0_, rfl, ho0, hb⟩
                  refine ⟨_, rfl, ?_⟩
                  obtain ⟨A9_0, c9_0, e9_0⟩ := Kd.S_slice ho0
                  subst e9_0
                  obtain ⟨lo9, hi9, hst⟩ := HS4.out.push hb (P := fun lo_ hi_ w_ => Kd.S (Kd.slice 5 (Kd.int .u8)) 67 w_ w.heap.size (fun k_ => lo_ ≤ k_ ∧ k_ < hi_) (.slice A9_0 r2_0.length c9_0) r2_0) (fun w_ ha_ => S_held ho0 HS4.out.hb.size ha_)
                  have HS9 : Aside0 (Stk w [⟨lo9, hi9, fun w_ => Kd.S (Kd.slice 5 (Kd.int .u8)) 67 w_ w.heap.size (fun k_ => lo9 ≤ k_ ∧ k_ < hi9) (.slice A9_0 r2_0.length c9_0) r2_0⟩, ⟨g2, g2 + 1, bx g2 #[.int .i64 a1_0, .int .i64 a1_1, .int .i64 a1_2, .int .i64 a1_3] 54⟩, ⟨g1, g1 + 1, bx g1 #[.slice A0_0 l0_0.length c0_0] 31⟩] w9) := ⟨hst⟩
                  clear hst hb HS4 ho0
                  refine hK.out _ _ ⟨(blk_cell (show bx g1 #[.slice A0_0 l0_0.length c0_0] 31 w9 from HS9.out.get 2 rfl) 0).trans rfl, (blk_cell (show bx g2 #[.int .i64 a1_0, .int .i64 a1_1, .int .i64 a1_2, .int .i64 a1_3] 54 w9 from HS9.out.get 1 rfl) 0).trans rfl, (blk_cell (show bx g2 #[.int .i64 a1_0, .int .i64 a1_1, .int .i64 a1_2, .int .i64 a1_3] 54 w9 from HS9.out.get 1 rfl) 1).trans rfl, (blk_cell (show bx g2 #[.int .i64 a1_0, .int .i64 a1_1, .int .i64 a1_2, .int .i64 a1_3] 54 w9 from HS9.out.get 1 rfl) 2).trans rfl, (blk_cell (show bx g2 #[.int .i64 a1_0, .int .i64 a1_1, .int .i64 a1_2, .int .i64 a1_3] 54 w9 from HS9.out.get 1 rfl) 3).trans rfl⟩ (fun hHeld => ?_)
                  clear hK K
                  refine norm_ (a' := ?_) ?_ ?_
                  rotate_left
                  · show Act.put _ (some 27) _ = _
                    simp only [Act.put, List.setIfInBounds_toArray, List.set_cons_zero, List.set_cons_succ, i64_w, i32_w]
                    rfl
                  exact norm_ (by first | (simp only [putAll, Act.put, List.setIfInBounds_toArray, List.set_cons_zero, List.set_cons_succ]; done) | (simp only [putAll, Act.put, List.setIfInBounds_toArray, List.set_cons_zero, List.set_cons_succ]; rfl)) (hJ1 ⟨lo9, hi9, A9_0, c9_0⟩ _ ⟨hHeld, HS9.out⟩)
                · skip
                  refine box_step ?hg (N := 10) ?hd (cs := #[.slice none 0 0]) (t := 33) ?hr ?_
                  (case hd => rfl)
                  (case hg => rfl)
                  (case hr => first | (go_simp; done) | (go_simp; rfl))
                  intro g36 hg w36 hbox hb
                  have HS36 : Aside0 (Stk w [⟨g36, g36 + 1, bx g36 #[.slice none 0 0] 33⟩, ⟨g2, g2 + 1, bx g2 #[.int .i64 a1_0, .int .i64 a1_1, .int .i64 a1_2, .int .i64 a1_3] 54⟩, ⟨g1, g1 + 1, bx g1 #[.slice A0_0 l0_0.length c0_0] 31⟩] w36) := ⟨HS4.out.box hb hg hbox⟩
                  clear hb hbox hg HS4
                  refine hK.out _ _ ⟨(blk_cell (show bx g1 #[.slice A0_0 l0_0.length c0_0] 31 w36 from HS36.out.get 2 rfl) 0).trans rfl, (blk_cell (show bx g2 #[.int .i64 a1_0, .int .i64 a1_1, .int .i64 a1_2, .int .i64 a1_3] 54 w36 from HS36.out.get 1 rfl) 0).trans rfl, (blk_cell (show bx g2 #[.int .i64 a1_0, .int .i64 a1_1, .int .i64 a1_2, .int .i64 a1_3] 54 w36 from HS36.out.get 1 rfl) 1).trans rfl, (blk_cell (show bx g2 #[.int .i64 a1_0, .int .i64 a1_1, .int .i64 a1_2, .int .i64 a1_3] 54 w36 from HS36.out.get 1 rfl) 2).trans rfl, (blk_cell (show bx g2 #[.int .i64 a1_0, .int .i64 a1_1, .int .i64 a1_2, .int .i64 a1_3] 54 w36 from HS36.out.get 1 rfl) 3).trans rfl⟩ (fun hHeld => ?_)
                  clear hK K
                  refine norm_ (a' := ?_) ?_ ?_
                  rotate_left
                  · show Act.put _ (some 10) _ = _
                    simp only [Act.put, List.setIfInBounds_toArray, List.set_cons_zero, List.set_cons_succ, i64_w, i32_w]
                    rfl
                  exact norm_ (by first | (simp only [putAll, Act.put, List.setIfInBounds_toArray, List.set_cons_zero, List.set_cons_succ]; done) | (simp only [putAll, Act.put, List.setIfInBounds_toArray, List.set_cons_zero, List.set_cons_succ]; rfl)) (hJ10 g36 _ ⟨hHeld, HS36.out⟩)
              · skip
                rintro g36 wJ4_10 ⟨hS_, h0_⟩
                have HSJ4_10 : Aside0 (Stk w [⟨g36, g36 + 1, bx g36 #[.slice none 0 0] 33⟩, ⟨g2, g2 + 1, bx g2 #[.int .i64 a1_0, .int .i64 a1_1, .int .i64 a1_2, .int .i64 a1_3] 54⟩, ⟨g1, g1 + 1, bx g1 #[.slice A0_0 l0_0.length c0_0] 31⟩] wJ4_10) := ⟨h0_⟩
                clear h0_ HS4
                have hHeld : wJ4_10.cell? ⟨g1, 0, none⟩ = some (.slice A0_0 l0_0.length c0_0) ∧ wJ4_10.cell? ⟨g2, 0, none⟩ = some (.int .i64 a1_0) ∧ wJ4_10.cell? ⟨g2, 1, none⟩ = some (.int .i64 a1_1) ∧ wJ4_10.cell? ⟨g2, 2, none⟩ = some (.int .i64 a1_2) ∧ wJ4_10.cell? ⟨g2, 3, none⟩ = some (.int .i64 a1_3) := hS_
                refine norm_ (a' := ?_) ?_ ?_
                rotate_left
                · simp only [putAll, Act.put, List.setIfInBounds_toArray, List.set_cons_zero, List.set_cons_succ]
                  rfl
                refine one_ (i := 1) (N := some 27) #[true, true, true, false, true, true, false, false, false, false, true, false, false] rfl rfl (by kernel_rfl) (by decide) (fun K hK => ?_)
                refine goes_ Try.func21 (by kernel_rfl) rfl #[.agg #[.slice A0_0 l0_0.length c0_0]] (by rfl) rfl rfl (by (try simp only [List.map_toArray, List.map_cons, List.map_nil]); first | done | rfl) ?_
                (refine (laws_toMemory.calls _ _ _ _ _ ?side1 ?side2 H2.out).mono ?_)
                (case side1 => exact Kd.C_below HR0_0.out HSJ4_10.out.hb)
                (case side2 => exact HC0_0.out)
                rintro e w9 ⟨v0_, rfl, ho0, hb⟩
                refine ⟨_, rfl, ?_⟩
                obtain ⟨A9_0, c9_0, e9_0⟩ := Kd.S_slice ho0
                subst e9_0
                obtain ⟨lo9, hi9, hst⟩ := HSJ4_10.out.push hb (P := fun lo_ hi_ w_ => Kd.S (Kd.slice 5 (Kd.int .u8)) 67 w_ w.heap.size (fun k_ => lo_ ≤ k_ ∧ k_ < hi_) (.slice A9_0 r2_0.length c9_0) r2_0) (fun w_ ha_ => S_held ho0 HSJ4_10.out.hb.size ha_)
                have HS9 : Aside0 (Stk w [⟨lo9, hi9, fun w_ => Kd.S (Kd.slice 5 (Kd.int .u8)) 67 w_ w.heap.size (fun k_ => lo9 ≤ k_ ∧ k_ < hi9) (.slice A9_0 r2_0.length c9_0) r2_0⟩, ⟨g36, g36 + 1, bx g36 #[.slice none 0 0] 33⟩, ⟨g2, g2 + 1, bx g2 #[.int .i64 a1_0, .int .i64 a1_1, .int .i64 a1_2, .int .i64 a1_3] 54⟩, ⟨g1, g1 + 1, bx g1 #[.slice A0_0 l0_0.length c0_0] 31⟩] w9) := ⟨hst⟩
                clear hst hb HSJ4_10 ho0
                refine hK.out _ _ ⟨(blk_cell (show bx g1 #[.slice A0_0 l0_0.length c0_0] 31 w9 from HS9.out.get 3 rfl) 0).trans rfl, (blk_cell (show bx g2 #[.int .i64 a1_0, .int .i64 a1_1, .int .i64 a1_2, .int .i64 a1_3] 54 w9 from HS9.out.get 2 rfl) 0).trans rfl, (blk_cell (show bx g2 #[.int .i64 a1_0, .int .i64 a1_1, .int .i64 a1_2, .int .i64 a1_3] 54 w9 from HS9.out.get 2 rfl) 1).trans rfl, (blk_cell (show bx g2 #[.int .i64 a1_0, .int .i64 a1_1, .int .i64 a1_2, .int .i64 a1_3] 54 w9 from HS9.out.get 2 rfl) 2).trans rfl, (blk_cell (show bx g2 #[.int .i64 a1_0, .int .i64 a1_1, .int .i64 a1_2, .int .i64 a1_3] 54 w9 from HS9.out.get 2 rfl) 3).trans rfl⟩ (fun hHeld => ?_)
                clear hK K
                refine norm_ (a' := ?_) ?_ ?_
                rotate_left
                · show Act.put _ (some 27) _ = _
                  simp only [Act.put, List.setIfInBounds_toArray, List.set_cons_zero, List.set_cons_succ, i64_w, i32_w]
                  rfl
                exact norm_ (by first | (simp only [putAll, Act.put, List.setIfInBounds_toArray, List.set_cons_zero, List.set_cons_succ]; done) | (simp only [putAll, Act.put, List.setIfInBounds_toArray, List.set_cons_zero, List.set_cons_succ]; rfl)) (hJ1_10 ⟨g36, lo9, hi9, A9_0, c9_0⟩ _ ⟨hHeld, (HS9.out.front 1 rfl)⟩)
            · skip
              rintro ⟨lo9, hi9, A9_0, c9_0⟩ wJ4_1 ⟨hS_, h0_⟩
              have HSJ4_1 : Aside0 (Stk w [⟨lo9, hi9, fun w_ => Kd.S (Kd.slice 5 (Kd.int .u8)) 67 w_ w.heap.size (fun k_ => lo9 ≤ k_ ∧ k_ < hi9) (.slice A9_0 r2_0.length c9_0) r2_0⟩, ⟨g2, g2 + 1, bx g2 #[.int .i64 a1_0, .int .i64 a1_1, .int .i64 a1_2, .int .i64 a1_3] 54⟩, ⟨g1, g1 + 1, bx g1 #[.slice A0_0 l0_0.length c0_0] 31⟩] wJ4_1) := ⟨h0_⟩
              clear h0_ HS4
              have hHeld : wJ4_1.cell? ⟨g1, 0, none⟩ = some (.slice A0_0 l0_0.length c0_0) ∧ wJ4_1.cell? ⟨g2, 0, none⟩ = some (.int .i64 a1_0) ∧ wJ4_1.cell? ⟨g2, 1, none⟩ = some (.int .i64 a1_1) ∧ wJ4_1.cell? ⟨g2, 2, none⟩ = some (.int .i64 a1_2) ∧ wJ4_1.cell? ⟨g2, 3, none⟩ = some (.int .i64 a1_3) := hS_
              refine norm_ (a' := ?_) ?_ ?_
              rotate_left
              · simp only [putAll, Act.put, List.setIfInBounds_toArray, List.set_cons_zero, List.set_cons_succ]
                rfl
              refine two_ (i := 3) (j := 10) (Ni := some 29) (Nj := some 10) #[true, true, true, true, true, true, false, false, false, false, false, false, false] #[true, true, true, false, true, true, false, false, false, false, true, false, false] rfl rfl rfl rfl (by kernel_rfl) (by decide) (by decide) (fun K hK => ?_) (fun K hK => ?_)
              · skip
                refine goes_ Try.func33 (by kernel_rfl) rfl #[.agg #[.int .i64 a1_0, .int .i64 a1_1, .int .i64 a1_2, .int .i64 a1_3]] (by rfl) rfl rfl (by (try simp only [List.map_toArray, List.map_cons, List.map_nil]); first | done | rfl) ?_
                (refine (laws_toWindow.calls _ _ _ _ _ _ _ _ _ H3.out).mono ?_)
                rintro e w15 ⟨rfl, hb⟩
                refine ⟨_, rfl, ?_⟩
                have HS15 : Aside0 (Stk w [⟨lo9, hi9, fun w_ => Kd.S (Kd.slice 5 (Kd.int .u8)) 67 w_ w.heap.size (fun k_ => lo9 ≤ k_ ∧ k_ < hi9) (.slice A9_0 r2_0.length c9_0) r2_0⟩, ⟨g2, g2 + 1, bx g2 #[.int .i64 a1_0, .int .i64 a1_1, .int .i64 a1_2, .int .i64 a1_3] 54⟩, ⟨g1, g1 + 1, bx g1 #[.slice A0_0 l0_0.length c0_0] 31⟩] w15) := ⟨HSJ4_1.out.below hb⟩
                clear hb HSJ4_1
                refine hK.out _ _ ⟨(blk_cell (show bx g1 #[.slice A0_0 l0_0.length c0_0] 31 w15 from HS15.out.get 2 rfl) 0).trans rfl, (blk_cell (show bx g2 #[.int .i64 a1_0, .int .i64 a1_1, .int .i64 a1_2, .int .i64 a1_3] 54 w15 from HS15.out.get 1 rfl) 0).trans rfl, (blk_cell (show bx g2 #[.int .i64 a1_0, .int .i64 a1_1, .int .i64 a1_2, .int .i64 a1_3] 54 w15 from HS15.out.get 1 rfl) 1).trans rfl, (blk_cell (show bx g2 #[.int .i64 a1_0, .int .i64 a1_1, .int .i64 a1_2, .int .i64 a1_3] 54 w15 from HS15.out.get 1 rfl) 2).trans rfl, (blk_cell (show bx g2 #[.int .i64 a1_0, .int .i64 a1_1, .int .i64 a1_2, .int .i64 a1_3] 54 w15 from HS15.out.get 1 rfl) 3).trans rfl⟩ (fun hHeld => ?_)
                clear hK K
                refine norm_ (a' := ?_) ?_ ?_
                rotate_left
                · show Act.put _ (some 29) _ = _
                  simp only [Act.put, List.setIfInBounds_toArray, List.set_cons_zero, List.set_cons_succ, i64_w, i32_w]
                  rfl
                exact norm_ (by first | (simp only [putAll, Act.put, List.setIfInBounds_toArray, List.set_cons_zero, List.set_cons_succ]; done) | (simp only [putAll, Act.put, List.setIfInBounds_toArray, List.set_cons_zero, List.set_cons_succ]; rfl)) (hJ1_3 ⟨lo9, hi9, A9_0, c9_0⟩ _ ⟨hHeld, HS15.out⟩)
              · skip
                refine box_step ?hg (N := 10) ?hd (cs := #[.slice none 0 0]) (t := 33) ?hr ?_
                (case hd => rfl)
                (case hg => rfl)
                (case hr => first | (go_simp; done) | (go_simp; rfl))
                intro g36 hg w36 hbox hb
                have HS36 : Aside0 (Stk w [⟨g36, g36 + 1, bx g36 #[.slice none 0 0] 33⟩, ⟨lo9, hi9, fun w_ => Kd.S (Kd.slice 5 (Kd.int .u8)) 67 w_ w.heap.size (fun k_ => lo9 ≤ k_ ∧ k_ < hi9) (.slice A9_0 r2_0.length c9_0) r2_0⟩, ⟨g2, g2 + 1, bx g2 #[.int .i64 a1_0, .int .i64 a1_1, .int .i64 a1_2, .int .i64 a1_3] 54⟩, ⟨g1, g1 + 1, bx g1 #[.slice A0_0 l0_0.length c0_0] 31⟩] w36) := ⟨HSJ4_1.out.box hb hg hbox⟩
                clear hb hbox hg HSJ4_1
                refine hK.out _ _ ⟨(blk_cell (show bx g1 #[.slice A0_0 l0_0.length c0_0] 31 w36 from HS36.out.get 3 rfl) 0).trans rfl, (blk_cell (show bx g2 #[.int .i64 a1_0, .int .i64 a1_1, .int .i64 a1_2, .int .i64 a1_3] 54 w36 from HS36.out.get 2 rfl) 0).trans rfl, (blk_cell (show bx g2 #[.int .i64 a1_0, .int .i64 a1_1, .int .i64 a1_2, .int .i64 a1_3] 54 w36 from HS36.out.get 2 rfl) 1).trans rfl, (blk_cell (show bx g2 #[.int .i64 a1_0, .int .i64 a1_1, .int .i64 a1_2, .int .i64 a1_3] 54 w36 from HS36.out.get 2 rfl) 2).trans rfl, (blk_cell (show bx g2 #[.int .i64 a1_0, .int .i64 a1_1, .int .i64 a1_2, .int .i64 a1_3] 54 w36 from HS36.out.get 2 rfl) 3).trans rfl⟩ (fun hHeld => ?_)
                clear hK K
                refine norm_ (a' := ?_) ?_ ?_
                rotate_left
                · show Act.put _ (some 10) _ = _
                  simp only [Act.put, List.setIfInBounds_toArray, List.set_cons_zero, List.set_cons_succ, i64_w, i32_w]
                  rfl
                exact norm_ (by first | (simp only [putAll, Act.put, List.setIfInBounds_toArray, List.set_cons_zero, List.set_cons_succ]; done) | (simp only [putAll, Act.put, List.setIfInBounds_toArray, List.set_cons_zero, List.set_cons_succ]; rfl)) (hJ1_10 ⟨g36, lo9, hi9, A9_0, c9_0⟩ _ ⟨hHeld, HS36.out⟩)
          · skip
            rintro ⟨g36, lo9, hi9, A9_0, c9_0⟩ wJ4_1_10 ⟨hS_, h0_⟩
            have HSJ4_1_10 : Aside0 (Stk w [⟨g36, g36 + 1, bx g36 #[.slice none 0 0] 33⟩, ⟨lo9, hi9, fun w_ => Kd.S (Kd.slice 5 (Kd.int .u8)) 67 w_ w.heap.size (fun k_ => lo9 ≤ k_ ∧ k_ < hi9) (.slice A9_0 r2_0.length c9_0) r2_0⟩, ⟨g2, g2 + 1, bx g2 #[.int .i64 a1_0, .int .i64 a1_1, .int .i64 a1_2, .int .i64 a1_3] 54⟩, ⟨g1, g1 + 1, bx g1 #[.slice A0_0 l0_0.length c0_0] 31⟩] wJ4_1_10) := ⟨h0_⟩
            clear h0_ HS4
            have hHeld : wJ4_1_10.cell? ⟨g1, 0, none⟩ = some (.slice A0_0 l0_0.length c0_0) ∧ wJ4_1_10.cell? ⟨g2, 0, none⟩ = some (.int .i64 a1_0) ∧ wJ4_1_10.cell? ⟨g2, 1, none⟩ = some (.int .i64 a1_1) ∧ wJ4_1_10.cell? ⟨g2, 2, none⟩ = some (.int .i64 a1_2) ∧ wJ4_1_10.cell? ⟨g2, 3, none⟩ = some (.int .i64 a1_3) := hS_
            refine norm_ (a' := ?_) ?_ ?_
            rotate_left
            · simp only [putAll, Act.put, List.setIfInBounds_toArray, List.set_cons_zero, List.set_cons_succ]
              rfl
            refine one_ (i := 3) (N := some 29) #[true, true, true, true, true, true, false, false, false, false, true, false, false] rfl rfl (by kernel_rfl) (by decide) (fun K hK => ?_)
            refine goes_ Try.func33 (by kernel_rfl) rfl #[.agg #[.int .i64 a1_0, .int .i64 a1_1, .int .i64 a1_2, .int .i64 a1_3]] (by rfl) rfl rfl (by (try simp only [List.map_toArray, List.map_cons, List.map_nil]); first | done | rfl) ?_
            (refine (laws_toWindow.calls _ _ _ _ _ _ _ _ _ H3.out).mono ?_)
            rintro e w15 ⟨rfl, hb⟩
            refine ⟨_, rfl, ?_⟩
            have HS15 : Aside0 (Stk w [⟨g36, g36 + 1, bx g36 #[.slice none 0 0] 33⟩, ⟨lo9, hi9, fun w_ => Kd.S (Kd.slice 5 (Kd.int .u8)) 67 w_ w.heap.size (fun k_ => lo9 ≤ k_ ∧ k_ < hi9) (.slice A9_0 r2_0.length c9_0) r2_0⟩, ⟨g2, g2 + 1, bx g2 #[.int .i64 a1_0, .int .i64 a1_1, .int .i64 a1_2, .int .i64 a1_3] 54⟩, ⟨g1, g1 + 1, bx g1 #[.slice A0_0 l0_0.length c0_0] 31⟩] w15) := ⟨HSJ4_1_10.out.below hb⟩
            clear hb HSJ4_1_10
            refine hK.out _ _ ⟨(blk_cell (show bx g1 #[.slice A0_0 l0_0.length c0_0] 31 w15 from HS15.out.get 3 rfl) 0).trans rfl, (blk_cell (show bx g2 #[.int .i64 a1_0, .int .i64 a1_1, .int .i64 a1_2, .int .i64 a1_3] 54 w15 from HS15.out.get 2 rfl) 0).trans rfl, (blk_cell (show bx g2 #[.int .i64 a1_0, .int .i64 a1_1, .int .i64 a1_2, .int .i64 a1_3] 54 w15 from HS15.out.get 2 rfl) 1).trans rfl, (blk_cell (show bx g2 #[.int .i64 a1_0, .int .i64 a1_1, .int .i64 a1_2, .int .i64 a1_3] 54 w15 from HS15.out.get 2 rfl) 2).trans rfl, (blk_cell (show bx g2 #[.int .i64 a1_0, .int .i64 a1_1, .int .i64 a1_2, .int .i64 a1_3] 54 w15 from HS15.out.get 2 rfl) 3).trans rfl⟩ (fun hHeld => ?_)
            clear hK K
            refine norm_ (a' := ?_) ?_ ?_
            rotate_left
            · show Act.put _ (some 29) _ = _
              simp only [Act.put, List.setIfInBounds_toArray, List.set_cons_zero, List.set_cons_succ, i64_w, i32_w]
              rfl
            exact norm_ (by first | (simp only [putAll, Act.put, List.setIfInBounds_toArray, List.set_cons_zero, List.set_cons_succ]; done) | (simp only [putAll, Act.put, List.setIfInBounds_toArray, List.set_cons_zero, List.set_cons_succ]; rfl)) (hJ1_3_10 ⟨g36, lo9, hi9, A9_0, c9_0⟩ _ ⟨hHeld, HS15.out⟩)
        · skip
          rintro ⟨lo9, hi9, A9_0, c9_0⟩ wJ4_1_3 ⟨hS_, h0_⟩
          have HSJ4_1_3 : Aside0 (Stk w [⟨lo9, hi9, fun w_ => Kd.S (Kd.slice 5 (Kd.int .u8)) 67 w_ w.heap.size (fun k_ => lo9 ≤ k_ ∧ k_ < hi9) (.slice A9_0 r2_0.length c9_0) r2_0⟩, ⟨g2, g2 + 1, bx g2 #[.int .i64 a1_0, .int .i64 a1_1, .int .i64 a1_2, .int .i64 a1_3] 54⟩, ⟨g1, g1 + 1, bx g1 #[.slice A0_0 l0_0.length c0_0] 31⟩] wJ4_1_3) := ⟨h0_⟩
          clear h0_ HS4
          have hHeld : wJ4_1_3.cell? ⟨g1, 0, none⟩ = some (.slice A0_0 l0_0.length c0_0) ∧ wJ4_1_3.cell? ⟨g2, 0, none⟩ = some (.int .i64 a1_0) ∧ wJ4_1_3.cell? ⟨g2, 1, none⟩ = some (.int .i64 a1_1) ∧ wJ4_1_3.cell? ⟨g2, 2, none⟩ = some (.int .i64 a1_2) ∧ wJ4_1_3.cell? ⟨g2, 3, none⟩ = some (.int .i64 a1_3) := hS_
          refine norm_ (a' := ?_) ?_ ?_
          rotate_left
          · simp only [putAll, Act.put, List.setIfInBounds_toArray, List.set_cons_zero, List.set_cons_succ]
            rfl
          refine two_ (i := 6) (j := 10) (Ni := some 32) (Nj := some 10) #[true, true, true, true, true, true, true, false, false, false, false, false, false] #[true, true, true, true, true, true, false, false, false, false, true, false, false] rfl rfl rfl rfl (by kernel_rfl) (by decide) (by decide) (fun K hK => ?_) (fun K hK => ?_)
          · skip
            refine goes_ Try.func32 (by kernel_rfl) rfl #[.agg #[.slice A9_0 r2_0.length c9_0], .agg #[.int .i64 r3_0, .int .i64 r3_1, .int .i64 r3_2, .int .i64 r3_3], .int .i64 a2_0, .int .u8 a3_0] (by rfl) rfl rfl (by (try simp only [List.map_toArray, List.map_cons, List.map_nil]); first | done | rfl) ?_
            (refine (spec_WriteAt.calls _ _ _ _ _ _ _ _ _ _ _ _ ?side1 ?side2 H4.out).mono ?_)
            (case side1 => exact (Kd.S_reads' ((show Kd.S (Kd.slice 5 (Kd.int .u8)) 67 wJ4_1_3 w.heap.size (fun k_ => lo9 ≤ k_ ∧ k_ < hi9) (.slice A9_0 r2_0.length c9_0) r2_0 from HSJ4_1_3.out.get 0 rfl))).2.2)
            (case side2 => exact (Kd.S_reads' ((show Kd.S (Kd.slice 5 (Kd.int .u8)) 67 wJ4_1_3 w.heap.size (fun k_ => lo9 ≤ k_ ∧ k_ < hi9) (.slice A9_0 r2_0.length c9_0) r2_0 from HSJ4_1_3.out.get 0 rfl))).2.1)
            rintro e w24 ⟨v0_, rfl, ho0, hb⟩
            refine ⟨_, rfl, ?_⟩
            obtain ⟨A24_0, c24_0, e24_0⟩ := Kd.S_slice ho0
            subst e24_0
            obtain ⟨lo24, hi24, hst⟩ := HSJ4_1_3.out.push hb (P := fun lo_ hi_ w_ => Kd.S (Kd.slice 5 (Kd.int .u8)) 67 w_ w.heap.size (fun k_ => lo_ ≤ k_ ∧ k_ < hi_) (.slice A24_0 r4_0.length c24_0) r4_0) (fun w_ ha_ => S_held ho0 HSJ4_1_3.out.hb.size ha_)
            have HS24 : Aside0 (Stk w [⟨lo24, hi24, fun w_ => Kd.S (Kd.slice 5 (Kd.int .u8)) 67 w_ w.heap.size (fun k_ => lo24 ≤ k_ ∧ k_ < hi24) (.slice A24_0 r4_0.length c24_0) r4_0⟩, ⟨lo9, hi9, fun w_ => Kd.S (Kd.slice 5 (Kd.int .u8)) 67 w_ w.heap.size (fun k_ => lo9 ≤ k_ ∧ k_ < hi9) (.slice A9_0 r2_0.length c9_0) r2_0⟩, ⟨g2, g2 + 1, bx g2 #[.int .i64 a1_0, .int .i64 a1_1, .int .i64 a1_2, .int .i64 a1_3] 54⟩, ⟨g1, g1 + 1, bx g1 #[.slice A0_0 l0_0.length c0_0] 31⟩] w24) := ⟨hst⟩
            clear hst hb HSJ4_1_3 ho0
            refine hK.out _ _ ⟨(blk_cell (show bx g1 #[.slice A0_0 l0_0.length c0_0] 31 w24 from HS24.out.get 3 rfl) 0).trans rfl, (blk_cell (show bx g2 #[.int .i64 a1_0, .int .i64 a1_1, .int .i64 a1_2, .int .i64 a1_3] 54 w24 from HS24.out.get 2 rfl) 0).trans rfl, (blk_cell (show bx g2 #[.int .i64 a1_0, .int .i64 a1_1, .int .i64 a1_2, .int .i64 a1_3] 54 w24 from HS24.out.get 2 rfl) 1).trans rfl, (blk_cell (show bx g2 #[.int .i64 a1_0, .int .i64 a1_1, .int .i64 a1_2, .int .i64 a1_3] 54 w24 from HS24.out.get 2 rfl) 2).trans rfl, (blk_cell (show bx g2 #[.int .i64 a1_0, .int .i64 a1_1, .int .i64 a1_2, .int .i64 a1_3] 54 w24 from HS24.out.get 2 rfl) 3).trans rfl⟩ (fun hHeld => ?_)
            clear hK K
            refine norm_ (a' := ?_) ?_ ?_
            rotate_left
            · show Act.put _ (some 32) _ = _
              simp only [Act.put, List.setIfInBounds_toArray, List.set_cons_zero, List.set_cons_succ, i64_w, i32_w]
              rfl
            refine pure_ (i := 7) (N := some 25) (v := ?_) (a' := ?_) #[true, true, true, true, true, true, true, true, false, false, false, false, false] rfl rfl (by kernel_rfl) (fun _ _ _ h => h) (Or.inl ⟨by rfl, ?_⟩) ?_ ?_
            rotate_left
            · intro w'
              go_simp
              with_reducible rfl
            rotate_left
            · simp only [Act.put, List.setIfInBounds_toArray, List.set_cons_zero, List.set_cons_succ, i64_w, i32_w]
              rfl
            refine pure_ (i := 8) (N := some 33) (v := ?_) (a' := ?_) #[true, true, true, true, true, true, true, true, true, false, false, false, false] rfl rfl (by kernel_rfl) (fun _ _ _ h => h) (Or.inl ⟨by rfl, ?_⟩) ?_ ?_
            rotate_left
            · intro w'
              go_simp
              with_reducible rfl
            rotate_left
            · simp only [Act.put, List.setIfInBounds_toArray, List.set_cons_zero, List.set_cons_succ, i64_w, i32_w]
              rfl
            refine pure_ (i := 9) (N := some 34) (v := ?_) (a' := ?_) #[true, true, true, true, true, true, true, true, true, true, false, false, false] rfl rfl (by kernel_rfl) (fun _ _ _ h => h) (Or.inl ⟨by rfl, ?_⟩) ?_ ?_
            rotate_left
            · intro w'
              go_simp
              with_reducible rfl
            rotate_left
            · simp only [Act.put, List.setIfInBounds_toArray, List.set_cons_zero, List.set_cons_succ, i64_w, i32_w]
              rfl
            exact norm_ (by first | (simp only [putAll, Act.put, List.setIfInBounds_toArray, List.set_cons_zero, List.set_cons_succ]; done) | (simp only [putAll, Act.put, List.setIfInBounds_toArray, List.set_cons_zero, List.set_cons_succ]; rfl)) (hJ1_3_6 ⟨lo24, hi24, A24_0, c24_0, lo9, hi9, A9_0, c9_0⟩ _ ⟨hHeld, HS24.out⟩)
          · skip
            refine box_step ?hg (N := 10) ?hd (cs := #[.slice none 0 0]) (t := 33) ?hr ?_
            (case hd => rfl)
            (case hg => rfl)
            (case hr => first | (go_simp; done) | (go_simp; rfl))
            intro g36 hg w36 hbox hb
            have HS36 : Aside0 (Stk w [⟨g36, g36 + 1, bx g36 #[.slice none 0 0] 33⟩, ⟨lo9, hi9, fun w_ => Kd.S (Kd.slice 5 (Kd.int .u8)) 67 w_ w.heap.size (fun k_ => lo9 ≤ k_ ∧ k_ < hi9) (.slice A9_0 r2_0.length c9_0) r2_0⟩, ⟨g2, g2 + 1, bx g2 #[.int .i64 a1_0, .int .i64 a1_1, .int .i64 a1_2, .int .i64 a1_3] 54⟩, ⟨g1, g1 + 1, bx g1 #[.slice A0_0 l0_0.length c0_0] 31⟩] w36) := ⟨HSJ4_1_3.out.box hb hg hbox⟩
            clear hb hbox hg HSJ4_1_3
            refine hK.out _ _ ⟨(blk_cell (show bx g1 #[.slice A0_0 l0_0.length c0_0] 31 w36 from HS36.out.get 3 rfl) 0).trans rfl, (blk_cell (show bx g2 #[.int .i64 a1_0, .int .i64 a1_1, .int .i64 a1_2, .int .i64 a1_3] 54 w36 from HS36.out.get 2 rfl) 0).trans rfl, (blk_cell (show bx g2 #[.int .i64 a1_0, .int .i64 a1_1, .int .i64 a1_2, .int .i64 a1_3] 54 w36 from HS36.out.get 2 rfl) 1).trans rfl, (blk_cell (show bx g2 #[.int .i64 a1_0, .int .i64 a1_1, .int .i64 a1_2, .int .i64 a1_3] 54 w36 from HS36.out.get 2 rfl) 2).trans rfl, (blk_cell (show bx g2 #[.int .i64 a1_0, .int .i64 a1_1, .int .i64 a1_2, .int .i64 a1_3] 54 w36 from HS36.out.get 2 rfl) 3).trans rfl⟩ (fun hHeld => ?_)
            clear hK K
            refine norm_ (a' := ?_) ?_ ?_
            rotate_left
            · show Act.put _ (some 10) _ = _
              simp only [Act.put, List.setIfInBounds_toArray, List.set_cons_zero, List.set_cons_succ, i64_w, i32_w]
              rfl
            exact norm_ (by first | (simp only [putAll, Act.put, List.setIfInBounds_toArray, List.set_cons_zero, List.set_cons_succ]; done) | (simp only [putAll, Act.put, List.setIfInBounds_toArray, List.set_cons_zero, List.set_cons_succ]; rfl)) (hJ1_3_10 ⟨g36, lo9, hi9, A9_0, c9_0⟩ _ ⟨hHeld, HS36.out⟩)
      · skip
        rintro ⟨g36, lo9, hi9, A9_0, c9_0⟩ wJ4_1_3_10 ⟨hS_, h0_⟩
        have HSJ4_1_3_10 : Aside0 (Stk w [⟨g36, g36 + 1, bx g36 #[.slice none 0 0] 33⟩, ⟨lo9, hi9, fun w_ => Kd.S (Kd.slice 5 (Kd.int .u8)) 67 w_ w.heap.size (fun k_ => lo9 ≤ k_ ∧ k_ < hi9) (.slice A9_0 r2_0.length c9_0) r2_0⟩, ⟨g2, g2 + 1, bx g2 #[.int .i64 a1_0, .int .i64 a1_1, .int .i64 a1_2, .int .i64 a1_3] 54⟩, ⟨g1, g1 + 1, bx g1 #[.slice A0_0 l0_0.length c0_0] 31⟩] wJ4_1_3_10) := ⟨h0_⟩
        clear h0_ HS4
        have hHeld : wJ4_1_3_10.cell? ⟨g1, 0, none⟩ = some (.slice A0_0 l0_0.length c0_0) ∧ wJ4_1_3_10.cell? ⟨g2, 0, none⟩ = some (.int .i64 a1_0) ∧ wJ4_1_3_10.cell? ⟨g2, 1, none⟩ = some (.int .i64 a1_1) ∧ wJ4_1_3_10.cell? ⟨g2, 2, none⟩ = some (.int .i64 a1_2) ∧ wJ4_1_3_10.cell? ⟨g2, 3, none⟩ = some (.int .i64 a1_3) := hS_
        refine norm_ (a' := ?_) ?_ ?_
        rotate_left
        · simp only [putAll, Act.put, List.setIfInBounds_toArray, List.set_cons_zero, List.set_cons_succ]
          rfl
        refine one_ (i := 6) (N := some 32) #[true, true, true, true, true, true, true, false, false, false, true, false, false] rfl rfl (by kernel_rfl) (by decide) (fun K hK => ?_)
        refine goes_ Try.func32 (by kernel_rfl) rfl #[.agg #[.slice A9_0 r2_0.length c9_0], .agg #[.int .i64 r3_0, .int .i64 r3_1, .int .i64 r3_2, .int .i64 r3_3], .int .i64 a2_0, .int .u8 a3_0] (by rfl) rfl rfl (by (try simp only [List.map_toArray, List.map_cons, List.map_nil]); first | done | rfl) ?_
        (refine (spec_WriteAt.calls _ _ _ _ _ _ _ _ _ _ _ _ ?side1 ?side2 H4.out).mono ?_)
        (case side1 => exact (Kd.S_reads' ((show Kd.S (Kd.slice 5 (Kd.int .u8)) 67 wJ4_1_3_10 w.heap.size (fun k_ => lo9 ≤ k_ ∧ k_ < hi9) (.slice A9_0 r2_0.length c9_0) r2_0 from HSJ4_1_3_10.out.get 1 rfl))).2.2)
        (case side2 => exact (Kd.S_reads' ((show Kd.S (Kd.slice 5 (Kd.int .u8)) 67 wJ4_1_3_10 w.heap.size (fun k_ => lo9 ≤ k_ ∧ k_ < hi9) (.slice A9_0 r2_0.length c9_0) r2_0 from HSJ4_1_3_10.out.get 1 rfl))).2.1)
        rintro e w24 ⟨v0_, rfl, ho0, hb⟩
        refine ⟨_, rfl, ?_⟩
        obtain ⟨A24_0, c24_0, e24_0⟩ := Kd.S_slice ho0
        subst e24_0
        obtain ⟨lo24, hi24, hst⟩ := HSJ4_1_3_10.out.push hb (P := fun lo_ hi_ w_ => Kd.S (Kd.slice 5 (Kd.int .u8)) 67 w_ w.heap.size (fun k_ => lo_ ≤ k_ ∧ k_ < hi_) (.slice A24_0 r4_0.length c24_0) r4_0) (fun w_ ha_ => S_held ho0 HSJ4_1_3_10.out.hb.size ha_)
        have HS24 : Aside0 (Stk w [⟨lo24, hi24, fun w_ => Kd.S (Kd.slice 5 (Kd.int .u8)) 67 w_ w.heap.size (fun k_ => lo24 ≤ k_ ∧ k_ < hi24) (.slice A24_0 r4_0.length c24_0) r4_0⟩, ⟨g36, g36 + 1, bx g36 #[.slice none 0 0] 33⟩, ⟨lo9, hi9, fun w_ => Kd.S (Kd.slice 5 (Kd.int .u8)) 67 w_ w.heap.size (fun k_ => lo9 ≤ k_ ∧ k_ < hi9) (.slice A9_0 r2_0.length c9_0) r2_0⟩, ⟨g2, g2 + 1, bx g2 #[.int .i64 a1_0, .int .i64 a1_1, .int .i64 a1_2, .int .i64 a1_3] 54⟩, ⟨g1, g1 + 1, bx g1 #[.slice A0_0 l0_0.length c0_0] 31⟩] w24) := ⟨hst⟩
        clear hst hb HSJ4_1_3_10 ho0
        refine hK.out _ _ ⟨(blk_cell (show bx g1 #[.slice A0_0 l0_0.length c0_0] 31 w24 from HS24.out.get 4 rfl) 0).trans rfl, (blk_cell (show bx g2 #[.int .i64 a1_0, .int .i64 a1_1, .int .i64 a1_2, .int .i64 a1_3] 54 w24 from HS24.out.get 3 rfl) 0).trans rfl, (blk_cell (show bx g2 #[.int .i64 a1_0, .int .i64 a1_1, .int .i64 a1_2, .int .i64 a1_3] 54 w24 from HS24.out.get 3 rfl) 1).trans rfl, (blk_cell (show bx g2 #[.int .i64 a1_0, .int .i64 a1_1, .int .i64 a1_2, .int .i64 a1_3] 54 w24 from HS24.out.get 3 rfl) 2).trans rfl, (blk_cell (show bx g2 #[.int .i64 a1_0, .int .i64 a1_1, .int .i64 a1_2, .int .i64 a1_3] 54 w24 from HS24.out.get 3 rfl) 3).trans rfl⟩ (fun hHeld => ?_)
        clear hK K
        refine norm_ (a' := ?_) ?_ ?_
        rotate_left
        · show Act.put _ (some 32) _ = _
          simp only [Act.put, List.setIfInBounds_toArray, List.set_cons_zero, List.set_cons_succ, i64_w, i32_w]
          rfl
        refine pure_ (i := 7) (N := some 25) (v := ?_) (a' := ?_) #[true, true, true, true, true, true, true, true, false, false, true, false, false] rfl rfl (by kernel_rfl) (fun _ _ _ h => h) (Or.inl ⟨by rfl, ?_⟩) ?_ ?_
        rotate_left
        · intro w'
          go_simp
          with_reducible rfl
        rotate_left
        · simp only [Act.put, List.setIfInBounds_toArray, List.set_cons_zero, List.set_cons_succ, i64_w, i32_w]
          rfl
        refine pure_ (i := 8) (N := some 33) (v := ?_) (a' := ?_) #[true, true, true, true, true, true, true, true, true, false, true, false, false] rfl rfl (by kernel_rfl) (fun _ _ _ h => h) (Or.inl ⟨by rfl, ?_⟩) ?_ ?_
        rotate_left
        · intro w'
          go_simp
          with_reducible rfl
        rotate_left
        · simp only [Act.put, List.setIfInBounds_toArray, List.set_cons_zero, List.set_cons_succ, i64_w, i32_w]
          rfl
        refine pure_ (i := 9) (N := some 34) (v := ?_) (a' := ?_) #[true, true, true, true, true, true, true, true, true, true, true, false, false] rfl rfl (by kernel_rfl) (fun _ _ _ h => h) (Or.inl ⟨by rfl, ?_⟩) ?_ ?_
        rotate_left
        · intro w'
          go_simp
          with_reducible rfl
        rotate_left
        · simp only [Act.put, List.setIfInBounds_toArray, List.set_cons_zero, List.set_cons_succ, i64_w, i32_w]
          rfl
        exact norm_ (by first | (simp only [putAll, Act.put, List.setIfInBounds_toArray, List.set_cons_zero, List.set_cons_succ]; done) | (simp only [putAll, Act.put, List.setIfInBounds_toArray, List.set_cons_zero, List.set_cons_succ]; rfl)) (hJ1_3_6_10 ⟨g36, lo24, hi24, A24_0, c24_0, lo9, hi9, A9_0, c9_0⟩ _ ⟨hHeld, (HS24.out.front 1 rfl)⟩)
    · skip
      rintro ⟨lo24, hi24, A24_0, c24_0, lo9, hi9, A9_0, c9_0⟩ wJ4_1_3_6 ⟨hS_, h0_⟩
      have HSJ4_1_3_6 : Aside0 (Stk w [⟨lo24, hi24, fun w_ => Kd.S (Kd.slice 5 (Kd.int .u8)) 67 w_ w.heap.size (fun k_ => lo24 ≤ k_ ∧ k_ < hi24) (.slice A24_0 r4_0.length c24_0) r4_0⟩, ⟨lo9, hi9, fun w_ => Kd.S (Kd.slice 5 (Kd.int .u8)) 67 w_ w.heap.size (fun k_ => lo9 ≤ k_ ∧ k_ < hi9) (.slice A9_0 r2_0.length c9_0) r2_0⟩, ⟨g2, g2 + 1, bx g2 #[.int .i64 a1_0, .int .i64 a1_1, .int .i64 a1_2, .int .i64 a1_3] 54⟩, ⟨g1, g1 + 1, bx g1 #[.slice A0_0 l0_0.length c0_0] 31⟩] wJ4_1_3_6) := ⟨h0_⟩
      clear h0_ HS4
      have hHeld : wJ4_1_3_6.cell? ⟨g1, 0, none⟩ = some (.slice A0_0 l0_0.length c0_0) ∧ wJ4_1_3_6.cell? ⟨g2, 0, none⟩ = some (.int .i64 a1_0) ∧ wJ4_1_3_6.cell? ⟨g2, 1, none⟩ = some (.int .i64 a1_1) ∧ wJ4_1_3_6.cell? ⟨g2, 2, none⟩ = some (.int .i64 a1_2) ∧ wJ4_1_3_6.cell? ⟨g2, 3, none⟩ = some (.int .i64 a1_3) := hS_
      refine norm_ (a' := ?_) ?_ ?_
      rotate_left
      · simp only [putAll, Act.put, List.setIfInBounds_toArray, List.set_cons_zero, List.set_cons_succ]
        rfl
      refine one_ (i := 10) (N := some 10) #[true, true, true, true, true, true, true, true, true, true, true, false, false] rfl rfl (by kernel_rfl) (by decide) (fun K hK => ?_)
      refine box_step ?hg (N := 10) ?hd (cs := #[.slice none 0 0]) (t := 33) ?hr ?_
      (case hd => rfl)
      (case hg => rfl)
      (case hr => first | (go_simp; done) | (go_simp; rfl))
      intro g36 hg w36 hbox hb
      have HS36 : Aside0 (Stk w [⟨g36, g36 + 1, bx g36 #[.slice none 0 0] 33⟩, ⟨lo24, hi24, fun w_ => Kd.S (Kd.slice 5 (Kd.int .u8)) 67 w_ w.heap.size (fun k_ => lo24 ≤ k_ ∧ k_ < hi24) (.slice A24_0 r4_0.length c24_0) r4_0⟩, ⟨lo9, hi9, fun w_ => Kd.S (Kd.slice 5 (Kd.int .u8)) 67 w_ w.heap.size (fun k_ => lo9 ≤ k_ ∧ k_ < hi9) (.slice A9_0 r2_0.length c9_0) r2_0⟩, ⟨g2, g2 + 1, bx g2 #[.int .i64 a1_0, .int .i64 a1_1, .int .i64 a1_2, .int .i64 a1_3] 54⟩, ⟨g1, g1 + 1, bx g1 #[.slice A0_0 l0_0.length c0_0] 31⟩] w36) := ⟨HSJ4_1_3_6.out.box hb hg hbox⟩
      clear hb hbox hg HSJ4_1_3_6
      refine hK.out _ _ ⟨(blk_cell (show bx g1 #[.slice A0_0 l0_0.length c0_0] 31 w36 from HS36.out.get 4 rfl) 0).trans rfl, (blk_cell (show bx g2 #[.int .i64 a1_0, .int .i64 a1_1, .int .i64 a1_2, .int .i64 a1_3] 54 w36 from HS36.out.get 3 rfl) 0).trans rfl, (blk_cell (show bx g2 #[.int .i64 a1_0, .int .i64 a1_1, .int .i64 a1_2, .int .i64 a1_3] 54 w36 from HS36.out.get 3 rfl) 1).trans rfl, (blk_cell (show bx g2 #[.int .i64 a1_0, .int .i64 a1_1, .int .i64 a1_2, .int .i64 a1_3] 54 w36 from HS36.out.get 3 rfl) 2).trans rfl, (blk_cell (show bx g2 #[.int .i64 a1_0, .int .i64 a1_1, .int .i64 a1_2, .int .i64 a1_3] 54 w36 from HS36.out.get 3 rfl) 3).trans rfl⟩ (fun hHeld => ?_)
      clear hK K
      refine norm_ (a' := ?_) ?_ ?_
      rotate_left
      · show Act.put _ (some 10) _ = _
        simp only [Act.put, List.setIfInBounds_toArray, List.set_cons_zero, List.set_cons_succ, i64_w, i32_w]
        rfl
      exact norm_ (by first | (simp only [putAll, Act.put, List.setIfInBounds_toArray, List.set_cons_zero, List.set_cons_succ]; done) | (simp only [putAll, Act.put, List.setIfInBounds_toArray, List.set_cons_zero, List.set_cons_succ]; rfl)) (hJ1_3_6_10 ⟨g36, lo24, hi24, A24_0, c24_0, lo9, hi9, A9_0, c9_0⟩ _ ⟨hHeld, HS36.out⟩)
  rintro ⟨g36, lo24, hi24, A24_0, c24_0, lo9, hi9, A9_0, c9_0⟩ wJ4_1_3_6_10 ⟨hS_, h0_⟩
  have HSJ4_1_3_6_10 : Aside0 (Stk w [⟨g36, g36 + 1, bx g36 #[.slice none 0 0] 33⟩, ⟨lo24, hi24, fun w_ => Kd.S (Kd.slice 5 (Kd.int .u8)) 67 w_ w.heap.size (fun k_ => lo24 ≤ k_ ∧ k_ < hi24) (.slice A24_0 r4_0.length c24_0) r4_0⟩, ⟨lo9, hi9, fun w_ => Kd.S (Kd.slice 5 (Kd.int .u8)) 67 w_ w.heap.size (fun k_ => lo9 ≤ k_ ∧ k_ < hi9) (.slice A9_0 r2_0.length c9_0) r2_0⟩, ⟨g2, g2 + 1, bx g2 #[.int .i64 a1_0, .int .i64 a1_1, .int .i64 a1_2, .int .i64 a1_3] 54⟩, ⟨g1, g1 + 1, bx g1 #[.slice A0_0 l0_0.length c0_0] 31⟩] wJ4_1_3_6_10) := ⟨h0_⟩
  clear h0_ HS4
  have hHeld : wJ4_1_3_6_10.cell? ⟨g1, 0, none⟩ = some (.slice A0_0 l0_0.length c0_0) ∧ wJ4_1_3_6_10.cell? ⟨g2, 0, none⟩ = some (.int .i64 a1_0) ∧ wJ4_1_3_6_10.cell? ⟨g2, 1, none⟩ = some (.int .i64 a1_1) ∧ wJ4_1_3_6_10.cell? ⟨g2, 2, none⟩ = some (.int .i64 a1_2) ∧ wJ4_1_3_6_10.cell? ⟨g2, 3, none⟩ = some (.int .i64 a1_3) := hS_
  refine norm_ (a' := ?_) ?_ ?_
  rotate_left
  · simp only [putAll, Act.put, List.setIfInBounds_toArray, List.set_cons_zero, List.set_cons_succ]
    rfl
  refine one_ (i := 11) (N := none) #[true, true, true, true, true, true, true, true, true, true, true, true, false] rfl rfl (by kernel_rfl) (by decide) (fun K hK => ?_)
  have B46_11_g36 : bx g36 #[.slice none 0 0] 33 wJ4_1_3_6_10 := HSJ4_1_3_6_10.out.get 0 rfl
  have hcz46_11_g36_0 : (wJ4_1_3_6_10).cell? ⟨g36, 0, none⟩ = some (.slice none 0 0) := (blk_cell B46_11_g36 0).trans rfl
  have hfz46_11_g36_0 := blk_frozen B46_11_g36 0
  clear B46_11_g36
  have hne11_g2 : g2 ≠ g36 := HSJ4_1_3_6_10.out.ne 3 0 (by decide) rfl rfl
  have hne11_g2' : g36 ≠ g2 := fun e_ => hne11_g2 e_.symm
  have hne11_g1 : g1 ≠ g36 := HSJ4_1_3_6_10.out.ne 4 0 (by decide) rfl rfl
  have hne11_g1' : g36 ≠ g1 := fun e_ => hne11_g1 e_.symm
  refine skip_ (w1 := ?_) (by rfl) rfl ?_ ?_
  rotate_left
  · go_simp
    rfl
  have HS47 : Aside0 (Stk w [⟨g36, g36 + 1, bx g36 #[.slice A24_0 r4_0.length c24_0] 33⟩, ⟨lo24, hi24, fun w_ => Kd.S (Kd.slice 5 (Kd.int .u8)) 67 w_ w.heap.size (fun k_ => lo24 ≤ k_ ∧ k_ < hi24) (.slice A24_0 r4_0.length c24_0) r4_0⟩, ⟨lo9, hi9, fun w_ => Kd.S (Kd.slice 5 (Kd.int .u8)) 67 w_ w.heap.size (fun k_ => lo9 ≤ k_ ∧ k_ < hi9) (.slice A9_0 r2_0.length c9_0) r2_0⟩, ⟨g2, g2 + 1, bx g2 #[.int .i64 a1_0, .int .i64 a1_1, .int .i64 a1_2, .int .i64 a1_3] 54⟩, ⟨g1, g1 + 1, bx g1 #[.slice A0_0 l0_0.length c0_0] 31⟩] ((wJ4_1_3_6_10).setCell ⟨g36, 0, none⟩ (.slice A24_0 r4_0.length c24_0))) := ⟨(HSJ4_1_3_6_10.out.put 0 rfl 0 (.slice A24_0 r4_0.length c24_0))⟩
  clear HSJ4_1_3_6_10
  (try clear hcz46_11_g36_0 hfz46_11_g36_0 hne11_g2 hne11_g2' hne11_g1 hne11_g1')
  refine hK.out _ _ ⟨(blk_cell (show bx g1 #[.slice A0_0 l0_0.length c0_0] 31 ((wJ4_1_3_6_10).setCell ⟨g36, 0, none⟩ (.slice A24_0 r4_0.length c24_0)) from HS47.out.get 4 rfl) 0).trans rfl, (blk_cell (show bx g2 #[.int .i64 a1_0, .int .i64 a1_1, .int .i64 a1_2, .int .i64 a1_3] 54 ((wJ4_1_3_6_10).setCell ⟨g36, 0, none⟩ (.slice A24_0 r4_0.length c24_0)) from HS47.out.get 3 rfl) 0).trans rfl, (blk_cell (show bx g2 #[.int .i64 a1_0, .int .i64 a1_1, .int .i64 a1_2, .int .i64 a1_3] 54 ((wJ4_1_3_6_10).setCell ⟨g36, 0, none⟩ (.slice A24_0 r4_0.length c24_0)) from HS47.out.get 3 rfl) 1).trans rfl, (blk_cell (show bx g2 #[.int .i64 a1_0, .int .i64 a1_1, .int .i64 a1_2, .int .i64 a1_3] 54 ((wJ4_1_3_6_10).setCell ⟨g36, 0, none⟩ (.slice A24_0 r4_0.length c24_0)) from HS47.out.get 3 rfl) 2).trans rfl, (blk_cell (show bx g2 #[.int .i64 a1_0, .int .i64 a1_1, .int .i64 a1_2, .int .i64 a1_3] 54 ((wJ4_1_3_6_10).setCell ⟨g36, 0, none⟩ (.slice A24_0 r4_0.length c24_0)) from HS47.out.get 3 rfl) 3).trans rfl⟩ (fun hHeld => ?_)
  clear hK K
  refine pure_ (i := 12) (N := some 11) (v := ?_) (a' := ?_) #[true, true, true, true, true, true, true, true, true, true, true, true, true] rfl rfl (by kernel_rfl) (fun _ _ _ h => h) (Or.inl ⟨by rfl, ?_⟩) ?_ ?_
  rotate_left
  · intro w'
    go_simp
    with_reducible rfl
  rotate_left
  · simp only [Act.put, List.setIfInBounds_toArray, List.set_cons_zero, List.set_cons_succ, i64_w, i32_w]
    rfl
  refine done_ (by kernel_rfl) ?_
  have B47_g1 : bx g1 #[.slice A0_0 l0_0.length c0_0] 31 ((wJ4_1_3_6_10).setCell ⟨g36, 0, none⟩ (.slice A24_0 r4_0.length c24_0)) := HS47.out.get 4 rfl
  have hcz47_g1_0 : ((wJ4_1_3_6_10).setCell ⟨g36, 0, none⟩ (.slice A24_0 r4_0.length c24_0)).cell? ⟨g1, 0, none⟩ = some (.slice A0_0 l0_0.length c0_0) := (blk_cell B47_g1 0).trans rfl
  have hfz47_g1_0 := blk_frozen B47_g1 0
  clear B47_g1
  go_wp2_with (first | ((with_reducible refine gate_callee (f := 21) rfl ?_); refine goesL_ (some 36) rfl rfl Try.func21 (by kernel_rfl) rfl #[.agg #[.slice A0_0 l0_0.length c0_0]] rfl (by (try simp only [List.map_toArray, List.map_cons, List.map_nil]); first | done | rfl) ?_; (refine (laws_toMemory.calls _ _ _ _ _ ?side1 ?side2 H2.out).mono ?_); (case side1 => exact Kd.C_below HR0_0.out HS47.out.hb); (case side2 => exact HC0_0.out); rintro e w48 ⟨v0_, rfl, ho0, hb⟩; refine ⟨_, rfl, ?_⟩; (try clear hcz47_g1_0 hfz47_g1_0); obtain ⟨A48_0, c48_0, e48_0⟩ := Kd.S_slice ho0; subst e48_0; obtain ⟨lo48, hi48, hst⟩ := HS47.out.push hb (P := fun lo_ hi_ w_ => Kd.S (Kd.slice 5 (Kd.int .u8)) 67 w_ w.heap.size (fun k_ => lo_ ≤ k_ ∧ k_ < hi_) (.slice A48_0 r2_0.length c48_0) r2_0) (fun w_ ha_ => S_held ho0 HS47.out.hb.size ha_); have HS48 : Aside0 (Stk w [⟨lo48, hi48, fun w_ => Kd.S (Kd.slice 5 (Kd.int .u8)) 67 w_ w.heap.size (fun k_ => lo48 ≤ k_ ∧ k_ < hi48) (.slice A48_0 r2_0.length c48_0) r2_0⟩, ⟨g36, g36 + 1, bx g36 #[.slice A24_0 r4_0.length c24_0] 33⟩, ⟨lo24, hi24, fun w_ => Kd.S (Kd.slice 5 (Kd.int .u8)) 67 w_ w.heap.size (fun k_ => lo24 ≤ k_ ∧ k_ < hi24) (.slice A24_0 r4_0.length c24_0) r4_0⟩, ⟨lo9, hi9, fun w_ => Kd.S (Kd.slice 5 (Kd.int .u8)) 67 w_ w.heap.size (fun k_ => lo9 ≤ k_ ∧ k_ < hi9) (.slice A9_0 r2_0.length c9_0) r2_0⟩, ⟨g2, g2 + 1, bx g2 #[.int .i64 a1_0, .int .i64 a1_1, .int .i64 a1_2, .int .i64 a1_3] 54⟩, ⟨g1, g1 + 1, bx g1 #[.slice A0_0 l0_0.length c0_0] 31⟩] w48) := ⟨hst⟩; clear hst hb HS47 ho0) | ((with_reducible refine gate_dst (N := 12) rfl ?_); refine box_event ?hg (N := 12) ?hd (cs := #[.slice none 0 0]) (t := 33) ?hr ?_; (case hd => rfl); (case hg => rfl); (case hr => first | (go_simp; done) | (go_simp; rfl)); intro g49 hg w49 hbox hb; have HS49 : Aside0 (Stk w [⟨g49, g49 + 1, bx g49 #[.slice none 0 0] 33⟩, ⟨lo48, hi48, fun w_ => Kd.S (Kd.slice 5 (Kd.int .u8)) 67 w_ w.heap.size (fun k_ => lo48 ≤ k_ ∧ k_ < hi48) (.slice A48_0 r2_0.length c48_0) r2_0⟩, ⟨g36, g36 + 1, bx g36 #[.slice A24_0 r4_0.length c24_0] 33⟩, ⟨lo24, hi24, fun w_ => Kd.S (Kd.slice 5 (Kd.int .u8)) 67 w_ w.heap.size (fun k_ => lo24 ≤ k_ ∧ k_ < hi24) (.slice A24_0 r4_0.length c24_0) r4_0⟩, ⟨lo9, hi9, fun w_ => Kd.S (Kd.slice 5 (Kd.int .u8)) 67 w_ w.heap.size (fun k_ => lo9 ≤ k_ ∧ k_ < hi9) (.slice A9_0 r2_0.length c9_0) r2_0⟩, ⟨g2, g2 + 1, bx g2 #[.int .i64 a1_0, .int .i64 a1_1, .int .i64 a1_2, .int .i64 a1_3] 54⟩, ⟨g1, g1 + 1, bx g1 #[.slice A0_0 l0_0.length c0_0] 31⟩] w49) := ⟨HS48.out.box hb hg hbox⟩; clear hb hbox hg HS48; have B49_g49 : bx g49 #[.slice none 0 0] 33 w49 := HS49.out.get 0 rfl; have hcz49_g49_0 : (w49).cell? ⟨g49, 0, none⟩ = some (.slice none 0 0) := (blk_cell B49_g49 0).trans rfl; have hfz49_g49_0 := blk_frozen B49_g49 0; clear B49_g49))
  have HS50 : Aside0 (Stk w [⟨g49, g49 + 1, bx g49 #[.slice A48_0 r2_0.length c48_0] 33⟩, ⟨lo48, hi48, fun w_ => Kd.S (Kd.slice 5 (Kd.int .u8)) 67 w_ w.heap.size (fun k_ => lo48 ≤ k_ ∧ k_ < hi48) (.slice A48_0 r2_0.length c48_0) r2_0⟩, ⟨g36, g36 + 1, bx g36 #[.slice A24_0 r4_0.length c24_0] 33⟩, ⟨lo24, hi24, fun w_ => Kd.S (Kd.slice 5 (Kd.int .u8)) 67 w_ w.heap.size (fun k_ => lo24 ≤ k_ ∧ k_ < hi24) (.slice A24_0 r4_0.length c24_0) r4_0⟩, ⟨lo9, hi9, fun w_ => Kd.S (Kd.slice 5 (Kd.int .u8)) 67 w_ w.heap.size (fun k_ => lo9 ≤ k_ ∧ k_ < hi9) (.slice A9_0 r2_0.length c9_0) r2_0⟩, ⟨g2, g2 + 1, bx g2 #[.int .i64 a1_0, .int .i64 a1_1, .int .i64 a1_2, .int .i64 a1_3] 54⟩, ⟨g1, g1 + 1, bx g1 #[.slice A0_0 l0_0.length c0_0] 31⟩] ((w49).setCell ⟨g49, 0, none⟩ (.slice A48_0 r2_0.length c48_0))) := ⟨(HS49.out.put 0 rfl 0 (.slice A48_0 r2_0.length c48_0))⟩
  clear HS49
  (try clear hcz49_g49_0 hfz49_g49_0)
  have HS51 : Aside0 (Stk w [⟨g49, g49 + 1, bx g49 #[.slice A48_0 r2_0.length c48_0] 33⟩, ⟨lo48, hi48, fun w_ => Kd.S (Kd.slice 5 (Kd.int .u8)) 67 w_ w.heap.size (fun k_ => lo48 ≤ k_ ∧ k_ < hi48) (.slice A48_0 r2_0.length c48_0) r2_0⟩, ⟨g36, g36 + 1, bx g36 #[.slice A24_0 r4_0.length c24_0] 33⟩, ⟨lo24, hi24, fun w_ => Kd.S (Kd.slice 5 (Kd.int .u8)) 67 w_ w.heap.size (fun k_ => lo24 ≤ k_ ∧ k_ < hi24) (.slice A24_0 r4_0.length c24_0) r4_0⟩, ⟨lo9, hi9, fun w_ => Kd.S (Kd.slice 5 (Kd.int .u8)) 67 w_ w.heap.size (fun k_ => lo9 ≤ k_ ∧ k_ < hi9) (.slice A9_0 r2_0.length c9_0) r2_0⟩, ⟨g2, g2 + 1, bx g2 #[.int .i64 a1_0, .int .i64 a1_1, .int .i64 a1_2, .int .i64 a1_3] 54⟩, ⟨g1, g1 + 1, bx g1 #[.slice A0_0 l0_0.length c0_0] 31⟩] ((w49).setCell ⟨g49, 0, none⟩ (.slice A48_0 r2_0.length c48_0)).drew) := ⟨HS50.out.drew⟩
  clear HS50
  refine start_ (n := 12) (S := fun w' => w'.cell? ⟨g49, 0, none⟩ = some (.slice A48_0 r2_0.length c48_0) ∧ w'.cell? ⟨g2, 0, none⟩ = some (.int .i64 a1_0) ∧ w'.cell? ⟨g2, 1, none⟩ = some (.int .i64 a1_1) ∧ w'.cell? ⟨g2, 2, none⟩ = some (.int .i64 a1_2) ∧ w'.cell? ⟨g2, 3, none⟩ = some (.int .i64 a1_3)) (ds := []) #[false, false, false, false, false, false, false, false, false, false, false, false] (by kernel_rfl) rfl rfl ⟨(blk_cell (show bx g49 #[.slice A48_0 r2_0.length c48_0] 33 (((w49).setCell ⟨g49, 0, none⟩ (.slice A48_0 r2_0.length c48_0)).drew) from HS51.out.get 0 rfl) 0).trans rfl, (blk_cell (show bx g2 #[.int .i64 a1_0, .int .i64 a1_1, .int .i64 a1_2, .int .i64 a1_3] 54 (((w49).setCell ⟨g49, 0, none⟩ (.slice A48_0 r2_0.length c48_0)).drew) from HS51.out.get 5 rfl) 0).trans rfl, (blk_cell (show bx g2 #[.int .i64 a1_0, .int .i64 a1_1, .int .i64 a1_2, .int .i64 a1_3] 54 (((w49).setCell ⟨g49, 0, none⟩ (.slice A48_0 r2_0.length c48_0)).drew) from HS51.out.get 5 rfl) 1).trans rfl, (blk_cell (show bx g2 #[.int .i64 a1_0, .int .i64 a1_1, .int .i64 a1_2, .int .i64 a1_3] 54 (((w49).setCell ⟨g49, 0, none⟩ (.slice A48_0 r2_0.length c48_0)).drew) from HS51.out.get 5 rfl) 2).trans rfl, (blk_cell (show bx g2 #[.int .i64 a1_0, .int .i64 a1_1, .int .i64 a1_2, .int .i64 a1_3] 54 (((w49).setCell ⟨g49, 0, none⟩ (.slice A48_0 r2_0.length c48_0)).drew) from HS51.out.get 5 rfl) 3).trans rfl⟩ (fun hHeld => ?_)
  generalize ((w49).setCell ⟨g49, 0, none⟩ (.slice A48_0 r2_0.length c48_0)).drew = w51 at HS51 hHeld ⊢
  refine pure_ (i := 3) (N := some 41) (v := ?_) (a' := ?_) #[false, false, false, true, false, false, false, false, false, false, false, false] rfl rfl (by kernel_rfl) (fun _ _ _ h => h) (Or.inl ⟨by rfl, ?_⟩) ?_ ?_
  rotate_left
  · intro w'
    go_simp
    with_reducible rfl
  rotate_left
  · simp only [Act.put, List.setIfInBounds_toArray, List.set_cons_zero, List.set_cons_succ, i64_w, i32_w]
    rfl
  refine pure_ (i := 4) (N := some 42) (v := ?_) (a' := ?_) #[false, false, false, true, true, false, false, false, false, false, false, false] rfl rfl (by kernel_rfl) (fun _ _ _ h => h) (Or.inl ⟨by rfl, ?_⟩) ?_ ?_
  rotate_left
  · intro w'
    go_simp
    with_reducible rfl
  rotate_left
  · simp only [Act.put, List.setIfInBounds_toArray, List.set_cons_zero, List.set_cons_succ, i64_w, i32_w]
    rfl
  refine take_ (i := 0) (N := some 38) (v := ?_) (a' := ?_) #[true, false, false, true, true, false, false, false, false, false, false, false] rfl rfl (by kernel_rfl) (fun _ _ _ h => h) (Or.inl ⟨by rfl, ?_⟩) hHeld ?_ ?_
  rotate_left
  · rintro w' ⟨s0, s1, s2, s3, s4⟩
    go_simp
    with_reducible rfl
  rotate_left
  · simp only [Act.put, List.setIfInBounds_toArray, List.set_cons_zero, List.set_cons_succ, i64_w, i32_w]
    rfl
  refine take_ (i := 1) (N := some 39) (v := ?_) (a' := ?_) #[true, true, false, true, true, false, false, false, false, false, false, false] rfl rfl (by kernel_rfl) (fun _ _ _ h => h) (Or.inl ⟨by rfl, ?_⟩) hHeld ?_ ?_
  rotate_left
  · rintro w' ⟨s0, s1, s2, s3, s4⟩
    go_simp
    with_reducible rfl
  rotate_left
  · simp only [Act.put, List.setIfInBounds_toArray, List.set_cons_zero, List.set_cons_succ, i64_w, i32_w]
    rfl
  refine join_ (σ := Nat × Nat × Nat × Option Addr × Nat) 2 #[true, true, true, true, true, true, true, true, true, true, false, false] (fun s_ => [(40, .agg #[.int .i64 r3_0, .int .i64 r3_1, .int .i64 r3_2, .int .i64 r3_3]), (43, .tuple #[.agg #[.slice s_.2.2.2.1 r4_0.length s_.2.2.2.2], .bool r4_1]), (13, .pointer (some ⟨s_.1, 0, none⟩)), (37, .tuple #[.agg #[.slice s_.2.2.2.1 r4_0.length s_.2.2.2.2], .bool r4_1]), (44, .agg #[.slice s_.2.2.2.1 r4_0.length s_.2.2.2.2]), (45, .bool r4_1)]) (fun s_ w' => (w'.cell? ⟨g49, 0, none⟩ = some (.slice A48_0 r2_0.length c48_0) ∧ w'.cell? ⟨g2, 0, none⟩ = some (.int .i64 a1_0) ∧ w'.cell? ⟨g2, 1, none⟩ = some (.int .i64 a1_1) ∧ w'.cell? ⟨g2, 2, none⟩ = some (.int .i64 a1_2) ∧ w'.cell? ⟨g2, 3, none⟩ = some (.int .i64 a1_3)) ∧ (Stk w [⟨s_.1, s_.1 + 1, bx s_.1 #[.slice none 0 0] 33⟩, ⟨s_.2.1, s_.2.2.1, fun w_ => Kd.S (Kd.slice 5 (Kd.int .u8)) 67 w_ w.heap.size (fun k_ => s_.2.1 ≤ k_ ∧ k_ < s_.2.2.1) (.slice s_.2.2.2.1 r4_0.length s_.2.2.2.2) r4_0⟩, ⟨g49, g49 + 1, bx g49 #[.slice A48_0 r2_0.length c48_0] 33⟩, ⟨lo48, hi48, fun w_ => Kd.S (Kd.slice 5 (Kd.int .u8)) 67 w_ w.heap.size (fun k_ => lo48 ≤ k_ ∧ k_ < hi48) (.slice A48_0 r2_0.length c48_0) r2_0⟩, ⟨g36, g36 + 1, bx g36 #[.slice A24_0 r4_0.length c24_0] 33⟩, ⟨lo24, hi24, fun w_ => Kd.S (Kd.slice 5 (Kd.int .u8)) 67 w_ w.heap.size (fun k_ => lo24 ≤ k_ ∧ k_ < hi24) (.slice A24_0 r4_0.length c24_0) r4_0⟩, ⟨lo9, hi9, fun w_ => Kd.S (Kd.slice 5 (Kd.int .u8)) 67 w_ w.heap.size (fun k_ => lo9 ≤ k_ ∧ k_ < hi9) (.slice A9_0 r2_0.length c9_0) r2_0⟩, ⟨g2, g2 + 1, bx g2 #[.int .i64 a1_0, .int .i64 a1_1, .int .i64 a1_2, .int .i64 a1_3] 54⟩, ⟨g1, g1 + 1, bx g1 #[.slice A0_0 l0_0.length c0_0] 31⟩] w')) ?_ ?_
  rotate_left
  · intro hJ2_5_9
    refine join_ (σ := Nat × Nat × Option Addr × Nat) 3 #[true, true, true, true, true, true, true, true, true, false, false, false] (fun s_ => [(40, .agg #[.int .i64 r3_0, .int .i64 r3_1, .int .i64 r3_2, .int .i64 r3_3]), (43, .tuple #[.agg #[.slice s_.2.2.1 r4_0.length s_.2.2.2], .bool r4_1]), (37, .tuple #[.agg #[.slice s_.2.2.1 r4_0.length s_.2.2.2], .bool r4_1]), (44, .agg #[.slice s_.2.2.1 r4_0.length s_.2.2.2]), (45, .bool r4_1)]) (fun s_ w' => (w'.cell? ⟨g49, 0, none⟩ = some (.slice A48_0 r2_0.length c48_0) ∧ w'.cell? ⟨g2, 0, none⟩ = some (.int .i64 a1_0) ∧ w'.cell? ⟨g2, 1, none⟩ = some (.int .i64 a1_1) ∧ w'.cell? ⟨g2, 2, none⟩ = some (.int .i64 a1_2) ∧ w'.cell? ⟨g2, 3, none⟩ = some (.int .i64 a1_3)) ∧ (Stk w [⟨s_.1, s_.2.1, fun w_ => Kd.S (Kd.slice 5 (Kd.int .u8)) 67 w_ w.heap.size (fun k_ => s_.1 ≤ k_ ∧ k_ < s_.2.1) (.slice s_.2.2.1 r4_0.length s_.2.2.2) r4_0⟩, ⟨g49, g49 + 1, bx g49 #[.slice A48_0 r2_0.length c48_0] 33⟩, ⟨lo48, hi48, fun w_ => Kd.S (Kd.slice 5 (Kd.int .u8)) 67 w_ w.heap.size (fun k_ => lo48 ≤ k_ ∧ k_ < hi48) (.slice A48_0 r2_0.length c48_0) r2_0⟩, ⟨g36, g36 + 1, bx g36 #[.slice A24_0 r4_0.length c24_0] 33⟩, ⟨lo24, hi24, fun w_ => Kd.S (Kd.slice 5 (Kd.int .u8)) 67 w_ w.heap.size (fun k_ => lo24 ≤ k_ ∧ k_ < hi24) (.slice A24_0 r4_0.length c24_0) r4_0⟩, ⟨lo9, hi9, fun w_ => Kd.S (Kd.slice 5 (Kd.int .u8)) 67 w_ w.heap.size (fun k_ => lo9 ≤ k_ ∧ k_ < hi9) (.slice A9_0 r2_0.length c9_0) r2_0⟩, ⟨g2, g2 + 1, bx g2 #[.int .i64 a1_0, .int .i64 a1_1, .int .i64 a1_2, .int .i64 a1_3] 54⟩, ⟨g1, g1 + 1, bx g1 #[.slice A0_0 l0_0.length c0_0] 31⟩] w')) ?_ ?_
    rotate_left
    · intro hJ2_5
      refine join_ (σ := Nat) 6 #[true, true, true, true, true, false, false, false, false, true, false, false] (fun s_ => [(40, .agg #[.int .i64 r3_0, .int .i64 r3_1, .int .i64 r3_2, .int .i64 r3_3]), (13, .pointer (some ⟨s_, 0, none⟩))]) (fun s_ w' => (w'.cell? ⟨g49, 0, none⟩ = some (.slice A48_0 r2_0.length c48_0) ∧ w'.cell? ⟨g2, 0, none⟩ = some (.int .i64 a1_0) ∧ w'.cell? ⟨g2, 1, none⟩ = some (.int .i64 a1_1) ∧ w'.cell? ⟨g2, 2, none⟩ = some (.int .i64 a1_2) ∧ w'.cell? ⟨g2, 3, none⟩ = some (.int .i64 a1_3)) ∧ (Stk w [⟨s_, s_ + 1, bx s_ #[.slice none 0 0] 33⟩, ⟨g49, g49 + 1, bx g49 #[.slice A48_0 r2_0.length c48_0] 33⟩, ⟨lo48, hi48, fun w_ => Kd.S (Kd.slice 5 (Kd.int .u8)) 67 w_ w.heap.size (fun k_ => lo48 ≤ k_ ∧ k_ < hi48) (.slice A48_0 r2_0.length c48_0) r2_0⟩, ⟨g36, g36 + 1, bx g36 #[.slice A24_0 r4_0.length c24_0] 33⟩, ⟨lo24, hi24, fun w_ => Kd.S (Kd.slice 5 (Kd.int .u8)) 67 w_ w.heap.size (fun k_ => lo24 ≤ k_ ∧ k_ < hi24) (.slice A24_0 r4_0.length c24_0) r4_0⟩, ⟨lo9, hi9, fun w_ => Kd.S (Kd.slice 5 (Kd.int .u8)) 67 w_ w.heap.size (fun k_ => lo9 ≤ k_ ∧ k_ < hi9) (.slice A9_0 r2_0.length c9_0) r2_0⟩, ⟨g2, g2 + 1, bx g2 #[.int .i64 a1_0, .int .i64 a1_1, .int .i64 a1_2, .int .i64 a1_3] 54⟩, ⟨g1, g1 + 1, bx g1 #[.slice A0_0 l0_0.length c0_0] 31⟩] w')) ?_ ?_
      rotate_left
      · intro hJ2_9
        refine join_ (σ := Unit) 7 #[true, true, true, true, true, false, false, false, false, false, false, false] (fun s_ => [(40, .agg #[.int .i64 r3_0, .int .i64 r3_1, .int .i64 r3_2, .int .i64 r3_3])]) (fun s_ w' => (w'.cell? ⟨g49, 0, none⟩ = some (.slice A48_0 r2_0.length c48_0) ∧ w'.cell? ⟨g2, 0, none⟩ = some (.int .i64 a1_0) ∧ w'.cell? ⟨g2, 1, none⟩ = some (.int .i64 a1_1) ∧ w'.cell? ⟨g2, 2, none⟩ = some (.int .i64 a1_2) ∧ w'.cell? ⟨g2, 3, none⟩ = some (.int .i64 a1_3)) ∧ (Stk w [⟨g49, g49 + 1, bx g49 #[.slice A48_0 r2_0.length c48_0] 33⟩, ⟨lo48, hi48, fun w_ => Kd.S (Kd.slice 5 (Kd.int .u8)) 67 w_ w.heap.size (fun k_ => lo48 ≤ k_ ∧ k_ < hi48) (.slice A48_0 r2_0.length c48_0) r2_0⟩, ⟨g36, g36 + 1, bx g36 #[.slice A24_0 r4_0.length c24_0] 33⟩, ⟨lo24, hi24, fun w_ => Kd.S (Kd.slice 5 (Kd.int .u8)) 67 w_ w.heap.size (fun k_ => lo24 ≤ k_ ∧ k_ < hi24) (.slice A24_0 r4_0.length c24_0) r4_0⟩, ⟨lo9, hi9, fun w_ => Kd.S (Kd.slice 5 (Kd.int .u8)) 67 w_ w.heap.size (fun k_ => lo9 ≤ k_ ∧ k_ < hi9) (.slice A9_0 r2_0.length c9_0) r2_0⟩, ⟨g2, g2 + 1, bx g2 #[.int .i64 a1_0, .int .i64 a1_1, .int .i64 a1_2, .int .i64 a1_3] 54⟩, ⟨g1, g1 + 1, bx g1 #[.slice A0_0 l0_0.length c0_0] 31⟩] w')) ?_ ?_
        rotate_left
        · intro hJ2
          refine join_ (σ := Nat) 7 #[true, true, false, true, true, false, false, false, false, true, false, false] (fun s_ => [(13, .pointer (some ⟨s_, 0, none⟩))]) (fun s_ w' => (w'.cell? ⟨g49, 0, none⟩ = some (.slice A48_0 r2_0.length c48_0) ∧ w'.cell? ⟨g2, 0, none⟩ = some (.int .i64 a1_0) ∧ w'.cell? ⟨g2, 1, none⟩ = some (.int .i64 a1_1) ∧ w'.cell? ⟨g2, 2, none⟩ = some (.int .i64 a1_2) ∧ w'.cell? ⟨g2, 3, none⟩ = some (.int .i64 a1_3)) ∧ (Stk w [⟨s_, s_ + 1, bx s_ #[.slice none 0 0] 33⟩, ⟨g49, g49 + 1, bx g49 #[.slice A48_0 r2_0.length c48_0] 33⟩, ⟨lo48, hi48, fun w_ => Kd.S (Kd.slice 5 (Kd.int .u8)) 67 w_ w.heap.size (fun k_ => lo48 ≤ k_ ∧ k_ < hi48) (.slice A48_0 r2_0.length c48_0) r2_0⟩, ⟨g36, g36 + 1, bx g36 #[.slice A24_0 r4_0.length c24_0] 33⟩, ⟨lo24, hi24, fun w_ => Kd.S (Kd.slice 5 (Kd.int .u8)) 67 w_ w.heap.size (fun k_ => lo24 ≤ k_ ∧ k_ < hi24) (.slice A24_0 r4_0.length c24_0) r4_0⟩, ⟨lo9, hi9, fun w_ => Kd.S (Kd.slice 5 (Kd.int .u8)) 67 w_ w.heap.size (fun k_ => lo9 ≤ k_ ∧ k_ < hi9) (.slice A9_0 r2_0.length c9_0) r2_0⟩, ⟨g2, g2 + 1, bx g2 #[.int .i64 a1_0, .int .i64 a1_1, .int .i64 a1_2, .int .i64 a1_3] 54⟩, ⟨g1, g1 + 1, bx g1 #[.slice A0_0 l0_0.length c0_0] 31⟩] w')) ?_ ?_
          rotate_left
          · intro hJ9
            refine two_ (i := 2) (j := 9) (Ni := some 40) (Nj := some 13) #[true, true, true, true, true, false, false, false, false, false, false, false] #[true, true, false, true, true, false, false, false, false, true, false, false] rfl rfl rfl rfl (by kernel_rfl) (by decide) (by decide) (fun K hK => ?_) (fun K hK => ?_)
            · skip
              refine goes_ Try.func33 (by kernel_rfl) rfl #[.agg #[.int .i64 a1_0, .int .i64 a1_1, .int .i64 a1_2, .int .i64 a1_3]] (by rfl) rfl rfl (by (try simp only [List.map_toArray, List.map_cons, List.map_nil]); first | done | rfl) ?_
              (refine (laws_toWindow.calls _ _ _ _ _ _ _ _ _ H3.out).mono ?_)
              rintro e w59 ⟨rfl, hb⟩
              refine ⟨_, rfl, ?_⟩
              have HS59 : Aside0 (Stk w [⟨g49, g49 + 1, bx g49 #[.slice A48_0 r2_0.length c48_0] 33⟩, ⟨lo48, hi48, fun w_ => Kd.S (Kd.slice 5 (Kd.int .u8)) 67 w_ w.heap.size (fun k_ => lo48 ≤ k_ ∧ k_ < hi48) (.slice A48_0 r2_0.length c48_0) r2_0⟩, ⟨g36, g36 + 1, bx g36 #[.slice A24_0 r4_0.length c24_0] 33⟩, ⟨lo24, hi24, fun w_ => Kd.S (Kd.slice 5 (Kd.int .u8)) 67 w_ w.heap.size (fun k_ => lo24 ≤ k_ ∧ k_ < hi24) (.slice A24_0 r4_0.length c24_0) r4_0⟩, ⟨lo9, hi9, fun w_ => Kd.S (Kd.slice 5 (Kd.int .u8)) 67 w_ w.heap.size (fun k_ => lo9 ≤ k_ ∧ k_ < hi9) (.slice A9_0 r2_0.length c9_0) r2_0⟩, ⟨g2, g2 + 1, bx g2 #[.int .i64 a1_0, .int .i64 a1_1, .int .i64 a1_2, .int .i64 a1_3] 54⟩, ⟨g1, g1 + 1, bx g1 #[.slice A0_0 l0_0.length c0_0] 31⟩] w59) := ⟨HS51.out.below hb⟩
              clear hb HS51
              refine hK.out _ _ ⟨(blk_cell (show bx g49 #[.slice A48_0 r2_0.length c48_0] 33 w59 from HS59.out.get 0 rfl) 0).trans rfl, (blk_cell (show bx g2 #[.int .i64 a1_0, .int .i64 a1_1, .int .i64 a1_2, .int .i64 a1_3] 54 w59 from HS59.out.get 5 rfl) 0).trans rfl, (blk_cell (show bx g2 #[.int .i64 a1_0, .int .i64 a1_1, .int .i64 a1_2, .int .i64 a1_3] 54 w59 from HS59.out.get 5 rfl) 1).trans rfl, (blk_cell (show bx g2 #[.int .i64 a1_0, .int .i64 a1_1, .int .i64 a1_2, .int .i64 a1_3] 54 w59 from HS59.out.get 5 rfl) 2).trans rfl, (blk_cell (show bx g2 #[.int .i64 a1_0, .int .i64 a1_1, .int .i64 a1_2, .int .i64 a1_3] 54 w59 from HS59.out.get 5 rfl) 3).trans rfl⟩ (fun hHeld => ?_)
              clear hK K
              refine norm_ (a' := ?_) ?_ ?_
              rotate_left
              · show Act.put _ (some 40) _ = _
                simp only [Act.put, List.setIfInBounds_toArray, List.set_cons_zero, List.set_cons_succ, i64_w, i32_w]
                rfl
              exact norm_ (by first | (simp only [putAll, Act.put, List.setIfInBounds_toArray, List.set_cons_zero, List.set_cons_succ]; done) | (simp only [putAll, Act.put, List.setIfInBounds_toArray, List.set_cons_zero, List.set_cons_succ]; rfl)) (hJ2 () _ ⟨hHeld, HS59.out⟩)
            · skip
              refine box_step ?hg (N := 13) ?hd (cs := #[.slice none 0 0]) (t := 33) ?hr ?_
              (case hd => rfl)
              (case hg => rfl)
              (case hr => first | (go_simp; done) | (go_simp; rfl))
              intro g80 hg w80 hbox hb
              have HS80 : Aside0 (Stk w [⟨g80, g80 + 1, bx g80 #[.slice none 0 0] 33⟩, ⟨g49, g49 + 1, bx g49 #[.slice A48_0 r2_0.length c48_0] 33⟩, ⟨lo48, hi48, fun w_ => Kd.S (Kd.slice 5 (Kd.int .u8)) 67 w_ w.heap.size (fun k_ => lo48 ≤ k_ ∧ k_ < hi48) (.slice A48_0 r2_0.length c48_0) r2_0⟩, ⟨g36, g36 + 1, bx g36 #[.slice A24_0 r4_0.length c24_0] 33⟩, ⟨lo24, hi24, fun w_ => Kd.S (Kd.slice 5 (Kd.int .u8)) 67 w_ w.heap.size (fun k_ => lo24 ≤ k_ ∧ k_ < hi24) (.slice A24_0 r4_0.length c24_0) r4_0⟩, ⟨lo9, hi9, fun w_ => Kd.S (Kd.slice 5 (Kd.int .u8)) 67 w_ w.heap.size (fun k_ => lo9 ≤ k_ ∧ k_ < hi9) (.slice A9_0 r2_0.length c9_0) r2_0⟩, ⟨g2, g2 + 1, bx g2 #[.int .i64 a1_0, .int .i64 a1_1, .int .i64 a1_2, .int .i64 a1_3] 54⟩, ⟨g1, g1 + 1, bx g1 #[.slice A0_0 l0_0.length c0_0] 31⟩] w80) := ⟨HS51.out.box hb hg hbox⟩
              clear hb hbox hg HS51
              refine hK.out _ _ ⟨(blk_cell (show bx g49 #[.slice A48_0 r2_0.length c48_0] 33 w80 from HS80.out.get 1 rfl) 0).trans rfl, (blk_cell (show bx g2 #[.int .i64 a1_0, .int .i64 a1_1, .int .i64 a1_2, .int .i64 a1_3] 54 w80 from HS80.out.get 6 rfl) 0).trans rfl, (blk_cell (show bx g2 #[.int .i64 a1_0, .int .i64 a1_1, .int .i64 a1_2, .int .i64 a1_3] 54 w80 from HS80.out.get 6 rfl) 1).trans rfl, (blk_cell (show bx g2 #[.int .i64 a1_0, .int .i64 a1_1, .int .i64 a1_2, .int .i64 a1_3] 54 w80 from HS80.out.get 6 rfl) 2).trans rfl, (blk_cell (show bx g2 #[.int .i64 a1_0, .int .i64 a1_1, .int .i64 a1_2, .int .i64 a1_3] 54 w80 from HS80.out.get 6 rfl) 3).trans rfl⟩ (fun hHeld => ?_)
              clear hK K
              refine norm_ (a' := ?_) ?_ ?_
              rotate_left
              · show Act.put _ (some 13) _ = _
                simp only [Act.put, List.setIfInBounds_toArray, List.set_cons_zero, List.set_cons_succ, i64_w, i32_w]
                rfl
              exact norm_ (by first | (simp only [putAll, Act.put, List.setIfInBounds_toArray, List.set_cons_zero, List.set_cons_succ]; done) | (simp only [putAll, Act.put, List.setIfInBounds_toArray, List.set_cons_zero, List.set_cons_succ]; rfl)) (hJ9 g80 _ ⟨hHeld, HS80.out⟩)
          · skip
            rintro g80 wJ51_9 ⟨hS_, h0_⟩
            have HSJ51_9 : Aside0 (Stk w [⟨g80, g80 + 1, bx g80 #[.slice none 0 0] 33⟩, ⟨g49, g49 + 1, bx g49 #[.slice A48_0 r2_0.length c48_0] 33⟩, ⟨lo48, hi48, fun w_ => Kd.S (Kd.slice 5 (Kd.int .u8)) 67 w_ w.heap.size (fun k_ => lo48 ≤ k_ ∧ k_ < hi48) (.slice A48_0 r2_0.length c48_0) r2_0⟩, ⟨g36, g36 + 1, bx g36 #[.slice A24_0 r4_0.length c24_0] 33⟩, ⟨lo24, hi24, fun w_ => Kd.S (Kd.slice 5 (Kd.int .u8)) 67 w_ w.heap.size (fun k_ => lo24 ≤ k_ ∧ k_ < hi24) (.slice A24_0 r4_0.length c24_0) r4_0⟩, ⟨lo9, hi9, fun w_ => Kd.S (Kd.slice 5 (Kd.int .u8)) 67 w_ w.heap.size (fun k_ => lo9 ≤ k_ ∧ k_ < hi9) (.slice A9_0 r2_0.length c9_0) r2_0⟩, ⟨g2, g2 + 1, bx g2 #[.int .i64 a1_0, .int .i64 a1_1, .int .i64 a1_2, .int .i64 a1_3] 54⟩, ⟨g1, g1 + 1, bx g1 #[.slice A0_0 l0_0.length c0_0] 31⟩] wJ51_9) := ⟨h0_⟩
            clear h0_ HS51
            have hHeld : wJ51_9.cell? ⟨g49, 0, none⟩ = some (.slice A48_0 r2_0.length c48_0) ∧ wJ51_9.cell? ⟨g2, 0, none⟩ = some (.int .i64 a1_0) ∧ wJ51_9.cell? ⟨g2, 1, none⟩ = some (.int .i64 a1_1) ∧ wJ51_9.cell? ⟨g2, 2, none⟩ = some (.int .i64 a1_2) ∧ wJ51_9.cell? ⟨g2, 3, none⟩ = some (.int .i64 a1_3) := hS_
            refine norm_ (a' := ?_) ?_ ?_
            rotate_left
            · simp only [putAll, Act.put, List.setIfInBounds_toArray, List.set_cons_zero, List.set_cons_succ]
              rfl
            refine one_ (i := 2) (N := some 40) #[true, true, true, true, true, false, false, false, false, true, false, false] rfl rfl (by kernel_rfl) (by decide) (fun K hK => ?_)
            refine goes_ Try.func33 (by kernel_rfl) rfl #[.agg #[.int .i64 a1_0, .int .i64 a1_1, .int .i64 a1_2, .int .i64 a1_3]] (by rfl) rfl rfl (by (try simp only [List.map_toArray, List.map_cons, List.map_nil]); first | done | rfl) ?_
            (refine (laws_toWindow.calls _ _ _ _ _ _ _ _ _ H3.out).mono ?_)
            rintro e w59 ⟨rfl, hb⟩
            refine ⟨_, rfl, ?_⟩
            have HS59 : Aside0 (Stk w [⟨g80, g80 + 1, bx g80 #[.slice none 0 0] 33⟩, ⟨g49, g49 + 1, bx g49 #[.slice A48_0 r2_0.length c48_0] 33⟩, ⟨lo48, hi48, fun w_ => Kd.S (Kd.slice 5 (Kd.int .u8)) 67 w_ w.heap.size (fun k_ => lo48 ≤ k_ ∧ k_ < hi48) (.slice A48_0 r2_0.length c48_0) r2_0⟩, ⟨g36, g36 + 1, bx g36 #[.slice A24_0 r4_0.length c24_0] 33⟩, ⟨lo24, hi24, fun w_ => Kd.S (Kd.slice 5 (Kd.int .u8)) 67 w_ w.heap.size (fun k_ => lo24 ≤ k_ ∧ k_ < hi24) (.slice A24_0 r4_0.length c24_0) r4_0⟩, ⟨lo9, hi9, fun w_ => Kd.S (Kd.slice 5 (Kd.int .u8)) 67 w_ w.heap.size (fun k_ => lo9 ≤ k_ ∧ k_ < hi9) (.slice A9_0 r2_0.length c9_0) r2_0⟩, ⟨g2, g2 + 1, bx g2 #[.int .i64 a1_0, .int .i64 a1_1, .int .i64 a1_2, .int .i64 a1_3] 54⟩, ⟨g1, g1 + 1, bx g1 #[.slice A0_0 l0_0.length c0_0] 31⟩] w59) := ⟨HSJ51_9.out.below hb⟩
            clear hb HSJ51_9
            refine hK.out _ _ ⟨(blk_cell (show bx g49 #[.slice A48_0 r2_0.length c48_0] 33 w59 from HS59.out.get 1 rfl) 0).trans rfl, (blk_cell (show bx g2 #[.int .i64 a1_0, .int .i64 a1_1, .int .i64 a1_2, .int .i64 a1_3] 54 w59 from HS59.out.get 6 rfl) 0).trans rfl, (blk_cell (show bx g2 #[.int .i64 a1_0, .int .i64 a1_1, .int .i64 a1_2, .int .i64 a1_3] 54 w59 from HS59.out.get 6 rfl) 1).trans rfl, (blk_cell (show bx g2 #[.int .i64 a1_0, .int .i64 a1_1, .int .i64 a1_2, .int .i64 a1_3] 54 w59 from HS59.out.get 6 rfl) 2).trans rfl, (blk_cell (show bx g2 #[.int .i64 a1_0, .int .i64 a1_1, .int .i64 a1_2, .int .i64 a1_3] 54 w59 from HS59.out.get 6 rfl) 3).trans rfl⟩ (fun hHeld => ?_)
            clear hK K
            refine norm_ (a' := ?_) ?_ ?_
            rotate_left
            · show Act.put _ (some 40) _ = _
              simp only [Act.put, List.setIfInBounds_toArray, List.set_cons_zero, List.set_cons_succ, i64_w, i32_w]
              rfl
            exact norm_ (by first | (simp only [putAll, Act.put, List.setIfInBounds_toArray, List.set_cons_zero, List.set_cons_succ]; done) | (simp only [putAll, Act.put, List.setIfInBounds_toArray, List.set_cons_zero, List.set_cons_succ]; rfl)) (hJ2_9 g80 _ ⟨hHeld, HS59.out⟩)
        · skip
          rintro _ wJ51_2 ⟨hS_, h0_⟩
          have HSJ51_2 : Aside0 (Stk w [⟨g49, g49 + 1, bx g49 #[.slice A48_0 r2_0.length c48_0] 33⟩, ⟨lo48, hi48, fun w_ => Kd.S (Kd.slice 5 (Kd.int .u8)) 67 w_ w.heap.size (fun k_ => lo48 ≤ k_ ∧ k_ < hi48) (.slice A48_0 r2_0.length c48_0) r2_0⟩, ⟨g36, g36 + 1, bx g36 #[.slice A24_0 r4_0.length c24_0] 33⟩, ⟨lo24, hi24, fun w_ => Kd.S (Kd.slice 5 (Kd.int .u8)) 67 w_ w.heap.size (fun k_ => lo24 ≤ k_ ∧ k_ < hi24) (.slice A24_0 r4_0.length c24_0) r4_0⟩, ⟨lo9, hi9, fun w_ => Kd.S (Kd.slice 5 (Kd.int .u8)) 67 w_ w.heap.size (fun k_ => lo9 ≤ k_ ∧ k_ < hi9) (.slice A9_0 r2_0.length c9_0) r2_0⟩, ⟨g2, g2 + 1, bx g2 #[.int .i64 a1_0, .int .i64 a1_1, .int .i64 a1_2, .int .i64 a1_3] 54⟩, ⟨g1, g1 + 1, bx g1 #[.slice A0_0 l0_0.length c0_0] 31⟩] wJ51_2) := ⟨h0_⟩
          clear h0_ HS51
          have hHeld : wJ51_2.cell? ⟨g49, 0, none⟩ = some (.slice A48_0 r2_0.length c48_0) ∧ wJ51_2.cell? ⟨g2, 0, none⟩ = some (.int .i64 a1_0) ∧ wJ51_2.cell? ⟨g2, 1, none⟩ = some (.int .i64 a1_1) ∧ wJ51_2.cell? ⟨g2, 2, none⟩ = some (.int .i64 a1_2) ∧ wJ51_2.cell? ⟨g2, 3, none⟩ = some (.int .i64 a1_3) := hS_
          refine norm_ (a' := ?_) ?_ ?_
          rotate_left
          · simp only [putAll, Act.put, List.setIfInBounds_toArray, List.set_cons_zero, List.set_cons_succ]
            rfl
          refine two_ (i := 5) (j := 9) (Ni := some 43) (Nj := some 13) #[true, true, true, true, true, true, false, false, false, false, false, false] #[true, true, true, true, true, false, false, false, false, true, false, false] rfl rfl rfl rfl (by kernel_rfl) (by decide) (by decide) (fun K hK => ?_) (fun K hK => ?_)
          · skip
            refine goes_ Try.func34 (by kernel_rfl) rfl #[.agg #[.slice A48_0 r2_0.length c48_0], .agg #[.int .i64 r3_0, .int .i64 r3_1, .int .i64 r3_2, .int .i64 r3_3], .int .i64 a2_0, .int .u8 a3_0] (by rfl) rfl rfl (by (try simp only [List.map_toArray, List.map_cons, List.map_nil]); first | done | rfl) ?_
            (refine (impl_WriteAt.calls _ _ _ _ _ _ _ _ _ _ _ _ ?side1 ?side2 H5.out).mono ?_)
            (case side1 => exact (Kd.S_reads' ((show Kd.S (Kd.slice 5 (Kd.int .u8)) 67 wJ51_2 w.heap.size (fun k_ => lo48 ≤ k_ ∧ k_ < hi48) (.slice A48_0 r2_0.length c48_0) r2_0 from HSJ51_2.out.get 1 rfl))).2.2)
            (case side2 => exact (Kd.S_reads' ((show Kd.S (Kd.slice 5 (Kd.int .u8)) 67 wJ51_2 w.heap.size (fun k_ => lo48 ≤ k_ ∧ k_ < hi48) (.slice A48_0 r2_0.length c48_0) r2_0 from HSJ51_2.out.get 1 rfl))).2.1)
            rintro e w68 ⟨v0_, rfl, ho0, hb⟩
            refine ⟨_, rfl, ?_⟩
            obtain ⟨A68_0, c68_0, e68_0⟩ := Kd.S_slice ho0
            subst e68_0
            obtain ⟨lo68, hi68, hst⟩ := HSJ51_2.out.push hb (P := fun lo_ hi_ w_ => Kd.S (Kd.slice 5 (Kd.int .u8)) 67 w_ w.heap.size (fun k_ => lo_ ≤ k_ ∧ k_ < hi_) (.slice A68_0 r4_0.length c68_0) r4_0) (fun w_ ha_ => S_held ho0 HSJ51_2.out.hb.size ha_)
            have HS68 : Aside0 (Stk w [⟨lo68, hi68, fun w_ => Kd.S (Kd.slice 5 (Kd.int .u8)) 67 w_ w.heap.size (fun k_ => lo68 ≤ k_ ∧ k_ < hi68) (.slice A68_0 r4_0.length c68_0) r4_0⟩, ⟨g49, g49 + 1, bx g49 #[.slice A48_0 r2_0.length c48_0] 33⟩, ⟨lo48, hi48, fun w_ => Kd.S (Kd.slice 5 (Kd.int .u8)) 67 w_ w.heap.size (fun k_ => lo48 ≤ k_ ∧ k_ < hi48) (.slice A48_0 r2_0.length c48_0) r2_0⟩, ⟨g36, g36 + 1, bx g36 #[.slice A24_0 r4_0.length c24_0] 33⟩, ⟨lo24, hi24, fun w_ => Kd.S (Kd.slice 5 (Kd.int .u8)) 67 w_ w.heap.size (fun k_ => lo24 ≤ k_ ∧ k_ < hi24) (.slice A24_0 r4_0.length c24_0) r4_0⟩, ⟨lo9, hi9, fun w_ => Kd.S (Kd.slice 5 (Kd.int .u8)) 67 w_ w.heap.size (fun k_ => lo9 ≤ k_ ∧ k_ < hi9) (.slice A9_0 r2_0.length c9_0) r2_0⟩, ⟨g2, g2 + 1, bx g2 #[.int .i64 a1_0, .int .i64 a1_1, .int .i64 a1_2, .int .i64 a1_3] 54⟩, ⟨g1, g1 + 1, bx g1 #[.slice A0_0 l0_0.length c0_0] 31⟩] w68) := ⟨hst⟩
            clear hst hb HSJ51_2 ho0
            refine hK.out _ _ ⟨(blk_cell (show bx g49 #[.slice A48_0 r2_0.length c48_0] 33 w68 from HS68.out.get 1 rfl) 0).trans rfl, (blk_cell (show bx g2 #[.int .i64 a1_0, .int .i64 a1_1, .int .i64 a1_2, .int .i64 a1_3] 54 w68 from HS68.out.get 6 rfl) 0).trans rfl, (blk_cell (show bx g2 #[.int .i64 a1_0, .int .i64 a1_1, .int .i64 a1_2, .int .i64 a1_3] 54 w68 from HS68.out.get 6 rfl) 1).trans rfl, (blk_cell (show bx g2 #[.int .i64 a1_0, .int .i64 a1_1, .int .i64 a1_2, .int .i64 a1_3] 54 w68 from HS68.out.get 6 rfl) 2).trans rfl, (blk_cell (show bx g2 #[.int .i64 a1_0, .int .i64 a1_1, .int .i64 a1_2, .int .i64 a1_3] 54 w68 from HS68.out.get 6 rfl) 3).trans rfl⟩ (fun hHeld => ?_)
            clear hK K
            refine norm_ (a' := ?_) ?_ ?_
            rotate_left
            · show Act.put _ (some 43) _ = _
              simp only [Act.put, List.setIfInBounds_toArray, List.set_cons_zero, List.set_cons_succ, i64_w, i32_w]
              rfl
            refine pure_ (i := 6) (N := some 37) (v := ?_) (a' := ?_) #[true, true, true, true, true, true, true, false, false, false, false, false] rfl rfl (by kernel_rfl) (fun _ _ _ h => h) (Or.inl ⟨by rfl, ?_⟩) ?_ ?_
            rotate_left
            · intro w'
              go_simp
              with_reducible rfl
            rotate_left
            · simp only [Act.put, List.setIfInBounds_toArray, List.set_cons_zero, List.set_cons_succ, i64_w, i32_w]
              rfl
            refine pure_ (i := 7) (N := some 44) (v := ?_) (a' := ?_) #[true, true, true, true, true, true, true, true, false, false, false, false] rfl rfl (by kernel_rfl) (fun _ _ _ h => h) (Or.inl ⟨by rfl, ?_⟩) ?_ ?_
            rotate_left
            · intro w'
              go_simp
              with_reducible rfl
            rotate_left
            · simp only [Act.put, List.setIfInBounds_toArray, List.set_cons_zero, List.set_cons_succ, i64_w, i32_w]
              rfl
            refine pure_ (i := 8) (N := some 45) (v := ?_) (a' := ?_) #[true, true, true, true, true, true, true, true, true, false, false, false] rfl rfl (by kernel_rfl) (fun _ _ _ h => h) (Or.inl ⟨by rfl, ?_⟩) ?_ ?_
            rotate_left
            · intro w'
              go_simp
              with_reducible rfl
            rotate_left
            · simp only [Act.put, List.setIfInBounds_toArray, List.set_cons_zero, List.set_cons_succ, i64_w, i32_w]
              rfl
            exact norm_ (by first | (simp only [putAll, Act.put, List.setIfInBounds_toArray, List.set_cons_zero, List.set_cons_succ]; done) | (simp only [putAll, Act.put, List.setIfInBounds_toArray, List.set_cons_zero, List.set_cons_succ]; rfl)) (hJ2_5 ⟨lo68, hi68, A68_0, c68_0⟩ _ ⟨hHeld, HS68.out⟩)
          · skip
            refine box_step ?hg (N := 13) ?hd (cs := #[.slice none 0 0]) (t := 33) ?hr ?_
            (case hd => rfl)
            (case hg => rfl)
            (case hr => first | (go_simp; done) | (go_simp; rfl))
            intro g80 hg w80 hbox hb
            have HS80 : Aside0 (Stk w [⟨g80, g80 + 1, bx g80 #[.slice none 0 0] 33⟩, ⟨g49, g49 + 1, bx g49 #[.slice A48_0 r2_0.length c48_0] 33⟩, ⟨lo48, hi48, fun w_ => Kd.S (Kd.slice 5 (Kd.int .u8)) 67 w_ w.heap.size (fun k_ => lo48 ≤ k_ ∧ k_ < hi48) (.slice A48_0 r2_0.length c48_0) r2_0⟩, ⟨g36, g36 + 1, bx g36 #[.slice A24_0 r4_0.length c24_0] 33⟩, ⟨lo24, hi24, fun w_ => Kd.S (Kd.slice 5 (Kd.int .u8)) 67 w_ w.heap.size (fun k_ => lo24 ≤ k_ ∧ k_ < hi24) (.slice A24_0 r4_0.length c24_0) r4_0⟩, ⟨lo9, hi9, fun w_ => Kd.S (Kd.slice 5 (Kd.int .u8)) 67 w_ w.heap.size (fun k_ => lo9 ≤ k_ ∧ k_ < hi9) (.slice A9_0 r2_0.length c9_0) r2_0⟩, ⟨g2, g2 + 1, bx g2 #[.int .i64 a1_0, .int .i64 a1_1, .int .i64 a1_2, .int .i64 a1_3] 54⟩, ⟨g1, g1 + 1, bx g1 #[.slice A0_0 l0_0.length c0_0] 31⟩] w80) := ⟨HSJ51_2.out.box hb hg hbox⟩
            clear hb hbox hg HSJ51_2
            refine hK.out _ _ ⟨(blk_cell (show bx g49 #[.slice A48_0 r2_0.length c48_0] 33 w80 from HS80.out.get 1 rfl) 0).trans rfl, (blk_cell (show bx g2 #[.int .i64 a1_0, .int .i64 a1_1, .int .i64 a1_2, .int .i64 a1_3] 54 w80 from HS80.out.get 6 rfl) 0).trans rfl, (blk_cell (show bx g2 #[.int .i64 a1_0, .int .i64 a1_1, .int .i64 a1_2, .int .i64 a1_3] 54 w80 from HS80.out.get 6 rfl) 1).trans rfl, (blk_cell (show bx g2 #[.int .i64 a1_0, .int .i64 a1_1, .int .i64 a1_2, .int .i64 a1_3] 54 w80 from HS80.out.get 6 rfl) 2).trans rfl, (blk_cell (show bx g2 #[.int .i64 a1_0, .int .i64 a1_1, .int .i64 a1_2, .int .i64 a1_3] 54 w80 from HS80.out.get 6 rfl) 3).trans rfl⟩ (fun hHeld => ?_)
            clear hK K
            refine norm_ (a' := ?_) ?_ ?_
            rotate_left
            · show Act.put _ (some 13) _ = _
              simp only [Act.put, List.setIfInBounds_toArray, List.set_cons_zero, List.set_cons_succ, i64_w, i32_w]
              rfl
            exact norm_ (by first | (simp only [putAll, Act.put, List.setIfInBounds_toArray, List.set_cons_zero, List.set_cons_succ]; done) | (simp only [putAll, Act.put, List.setIfInBounds_toArray, List.set_cons_zero, List.set_cons_succ]; rfl)) (hJ2_9 g80 _ ⟨hHeld, HS80.out⟩)
      · skip
        rintro g80 wJ51_2_9 ⟨hS_, h0_⟩
        have HSJ51_2_9 : Aside0 (Stk w [⟨g80, g80 + 1, bx g80 #[.slice none 0 0] 33⟩, ⟨g49, g49 + 1, bx g49 #[.slice A48_0 r2_0.length c48_0] 33⟩, ⟨lo48, hi48, fun w_ => Kd.S (Kd.slice 5 (Kd.int .u8)) 67 w_ w.heap.size (fun k_ => lo48 ≤ k_ ∧ k_ < hi48) (.slice A48_0 r2_0.length c48_0) r2_0⟩, ⟨g36, g36 + 1, bx g36 #[.slice A24_0 r4_0.length c24_0] 33⟩, ⟨lo24, hi24, fun w_ => Kd.S (Kd.slice 5 (Kd.int .u8)) 67 w_ w.heap.size (fun k_ => lo24 ≤ k_ ∧ k_ < hi24) (.slice A24_0 r4_0.length c24_0) r4_0⟩, ⟨lo9, hi9, fun w_ => Kd.S (Kd.slice 5 (Kd.int .u8)) 67 w_ w.heap.size (fun k_ => lo9 ≤ k_ ∧ k_ < hi9) (.slice A9_0 r2_0.length c9_0) r2_0⟩, ⟨g2, g2 + 1, bx g2 #[.int .i64 a1_0, .int .i64 a1_1, .int .i64 a1_2, .int .i64 a1_3] 54⟩, ⟨g1, g1 + 1, bx g1 #[.slice A0_0 l0_0.length c0_0] 31⟩] wJ51_2_9) := ⟨h0_⟩
        clear h0_ HS51
        have hHeld : wJ51_2_9.cell? ⟨g49, 0, none⟩ = some (.slice A48_0 r2_0.length c48_0) ∧ wJ51_2_9.cell? ⟨g2, 0, none⟩ = some (.int .i64 a1_0) ∧ wJ51_2_9.cell? ⟨g2, 1, none⟩ = some (.int .i64 a1_1) ∧ wJ51_2_9.cell? ⟨g2, 2, none⟩ = some (.int .i64 a1_2) ∧ wJ51_2_9.cell? ⟨g2, 3, none⟩ = some (.int .i64 a1_3) := hS_
        refine norm_ (a' := ?_) ?_ ?_
        rotate_left
        · simp only [putAll, Act.put, List.setIfInBounds_toArray, List.set_cons_zero, List.set_cons_succ]
          rfl
        refine one_ (i := 5) (N := some 43) #[true, true, true, true, true, true, false, false, false, true, false, false] rfl rfl (by kernel_rfl) (by decide) (fun K hK => ?_)
        refine goes_ Try.func34 (by kernel_rfl) rfl #[.agg #[.slice A48_0 r2_0.length c48_0], .agg #[.int .i64 r3_0, .int .i64 r3_1, .int .i64 r3_2, .int .i64 r3_3], .int .i64 a2_0, .int .u8 a3_0] (by rfl) rfl rfl (by (try simp only [List.map_toArray, List.map_cons, List.map_nil]); first | done | rfl) ?_
        (refine (impl_WriteAt.calls _ _ _ _ _ _ _ _ _ _ _ _ ?side1 ?side2 H5.out).mono ?_)
        (case side1 => exact (Kd.S_reads' ((show Kd.S (Kd.slice 5 (Kd.int .u8)) 67 wJ51_2_9 w.heap.size (fun k_ => lo48 ≤ k_ ∧ k_ < hi48) (.slice A48_0 r2_0.length c48_0) r2_0 from HSJ51_2_9.out.get 2 rfl))).2.2)
        (case side2 => exact (Kd.S_reads' ((show Kd.S (Kd.slice 5 (Kd.int .u8)) 67 wJ51_2_9 w.heap.size (fun k_ => lo48 ≤ k_ ∧ k_ < hi48) (.slice A48_0 r2_0.length c48_0) r2_0 from HSJ51_2_9.out.get 2 rfl))).2.1)
        rintro e w68 ⟨v0_, rfl, ho0, hb⟩
        refine ⟨_, rfl, ?_⟩
        obtain ⟨A68_0, c68_0, e68_0⟩ := Kd.S_slice ho0
        subst e68_0
        obtain ⟨lo68, hi68, hst⟩ := HSJ51_2_9.out.push hb (P := fun lo_ hi_ w_ => Kd.S (Kd.slice 5 (Kd.int .u8)) 67 w_ w.heap.size (fun k_ => lo_ ≤ k_ ∧ k_ < hi_) (.slice A68_0 r4_0.length c68_0) r4_0) (fun w_ ha_ => S_held ho0 HSJ51_2_9.out.hb.size ha_)
        have HS68 : Aside0 (Stk w [⟨lo68, hi68, fun w_ => Kd.S (Kd.slice 5 (Kd.int .u8)) 67 w_ w.heap.size (fun k_ => lo68 ≤ k_ ∧ k_ < hi68) (.slice A68_0 r4_0.length c68_0) r4_0⟩, ⟨g80, g80 + 1, bx g80 #[.slice none 0 0] 33⟩, ⟨g49, g49 + 1, bx g49 #[.slice A48_0 r2_0.length c48_0] 33⟩, ⟨lo48, hi48, fun w_ => Kd.S (Kd.slice 5 (Kd.int .u8)) 67 w_ w.heap.size (fun k_ => lo48 ≤ k_ ∧ k_ < hi48) (.slice A48_0 r2_0.length c48_0) r2_0⟩, ⟨g36, g36 + 1, bx g36 #[.slice A24_0 r4_0.length c24_0] 33⟩, ⟨lo24, hi24, fun w_ => Kd.S (Kd.slice 5 (Kd.int .u8)) 67 w_ w.heap.size (fun k_ => lo24 ≤ k_ ∧ k_ < hi24) (.slice A24_0 r4_0.length c24_0) r4_0⟩, ⟨lo9, hi9, fun w_ => Kd.S (Kd.slice 5 (Kd.int .u8)) 67 w_ w.heap.size (fun k_ => lo9 ≤ k_ ∧ k_ < hi9) (.slice A9_0 r2_0.length c9_0) r2_0⟩, ⟨g2, g2 + 1, bx g2 #[.int .i64 a1_0, .int .i64 a1_1, .int .i64 a1_2, .int .i64 a1_3] 54⟩, ⟨g1, g1 + 1, bx g1 #[.slice A0_0 l0_0.length c0_0] 31⟩] w68) := ⟨hst⟩
        clear hst hb HSJ51_2_9 ho0
        refine hK.out _ _ ⟨(blk_cell (show bx g49 #[.slice A48_0 r2_0.length c48_0] 33 w68 from HS68.out.get 2 rfl) 0).trans rfl, (blk_cell (show bx g2 #[.int .i64 a1_0, .int .i64 a1_1, .int .i64 a1_2, .int .i64 a1_3] 54 w68 from HS68.out.get 7 rfl) 0).trans rfl, (blk_cell (show bx g2 #[.int .i64 a1_0, .int .i64 a1_1, .int .i64 a1_2, .int .i64 a1_3] 54 w68 from HS68.out.get 7 rfl) 1).trans rfl, (blk_cell (show bx g2 #[.int .i64 a1_0, .int .i64 a1_1, .int .i64 a1_2, .int .i64 a1_3] 54 w68 from HS68.out.get 7 rfl) 2).trans rfl, (blk_cell (show bx g2 #[.int .i64 a1_0, .int .i64 a1_1, .int .i64 a1_2, .int .i64 a1_3] 54 w68 from HS68.out.get 7 rfl) 3).trans rfl⟩ (fun hHeld => ?_)
        clear hK K
        refine norm_ (a' := ?_) ?_ ?_
        rotate_left
        · show Act.put _ (some 43) _ = _
          simp only [Act.put, List.setIfInBounds_toArray, List.set_cons_zero, List.set_cons_succ, i64_w, i32_w]
          rfl
        refine pure_ (i := 6) (N := some 37) (v := ?_) (a' := ?_) #[true, true, true, true, true, true, true, false, false, true, false, false] rfl rfl (by kernel_rfl) (fun _ _ _ h => h) (Or.inl ⟨by rfl, ?_⟩) ?_ ?_
        rotate_left
        · intro w'
          go_simp
          with_reducible rfl
        rotate_left
        · simp only [Act.put, List.setIfInBounds_toArray, List.set_cons_zero, List.set_cons_succ, i64_w, i32_w]
          rfl
        refine pure_ (i := 7) (N := some 44) (v := ?_) (a' := ?_) #[true, true, true, true, true, true, true, true, false, true, false, false] rfl rfl (by kernel_rfl) (fun _ _ _ h => h) (Or.inl ⟨by rfl, ?_⟩) ?_ ?_
        rotate_left
        · intro w'
          go_simp
          with_reducible rfl
        rotate_left
        · simp only [Act.put, List.setIfInBounds_toArray, List.set_cons_zero, List.set_cons_succ, i64_w, i32_w]
          rfl
        refine pure_ (i := 8) (N := some 45) (v := ?_) (a' := ?_) #[true, true, true, true, true, true, true, true, true, true, false, false] rfl rfl (by kernel_rfl) (fun _ _ _ h => h) (Or.inl ⟨by rfl, ?_⟩) ?_ ?_
        rotate_left
        · intro w'
          go_simp
          with_reducible rfl
        rotate_left
        · simp only [Act.put, List.setIfInBounds_toArray, List.set_cons_zero, List.set_cons_succ, i64_w, i32_w]
          rfl
        exact norm_ (by first | (simp only [putAll, Act.put, List.setIfInBounds_toArray, List.set_cons_zero, List.set_cons_succ]; done) | (simp only [putAll, Act.put, List.setIfInBounds_toArray, List.set_cons_zero, List.set_cons_succ]; rfl)) (hJ2_5_9 ⟨g80, lo68, hi68, A68_0, c68_0⟩ _ ⟨hHeld, (HS68.out.front 1 rfl)⟩)
    · skip
      rintro ⟨lo68, hi68, A68_0, c68_0⟩ wJ51_2_5 ⟨hS_, h0_⟩
      have HSJ51_2_5 : Aside0 (Stk w [⟨lo68, hi68, fun w_ => Kd.S (Kd.slice 5 (Kd.int .u8)) 67 w_ w.heap.size (fun k_ => lo68 ≤ k_ ∧ k_ < hi68) (.slice A68_0 r4_0.length c68_0) r4_0⟩, ⟨g49, g49 + 1, bx g49 #[.slice A48_0 r2_0.length c48_0] 33⟩, ⟨lo48, hi48, fun w_ => Kd.S (Kd.slice 5 (Kd.int .u8)) 67 w_ w.heap.size (fun k_ => lo48 ≤ k_ ∧ k_ < hi48) (.slice A48_0 r2_0.length c48_0) r2_0⟩, ⟨g36, g36 + 1, bx g36 #[.slice A24_0 r4_0.length c24_0] 33⟩, ⟨lo24, hi24, fun w_ => Kd.S (Kd.slice 5 (Kd.int .u8)) 67 w_ w.heap.size (fun k_ => lo24 ≤ k_ ∧ k_ < hi24) (.slice A24_0 r4_0.length c24_0) r4_0⟩, ⟨lo9, hi9, fun w_ => Kd.S (Kd.slice 5 (Kd.int .u8)) 67 w_ w.heap.size (fun k_ => lo9 ≤ k_ ∧ k_ < hi9) (.slice A9_0 r2_0.length c9_0) r2_0⟩, ⟨g2, g2 + 1, bx g2 #[.int .i64 a1_0, .int .i64 a1_1, .int .i64 a1_2, .int .i64 a1_3] 54⟩, ⟨g1, g1 + 1, bx g1 #[.slice A0_0 l0_0.length c0_0] 31⟩] wJ51_2_5) := ⟨h0_⟩
      clear h0_ HS51
      have hHeld : wJ51_2_5.cell? ⟨g49, 0, none⟩ = some (.slice A48_0 r2_0.length c48_0) ∧ wJ51_2_5.cell? ⟨g2, 0, none⟩ = some (.int .i64 a1_0) ∧ wJ51_2_5.cell? ⟨g2, 1, none⟩ = some (.int .i64 a1_1) ∧ wJ51_2_5.cell? ⟨g2, 2, none⟩ = some (.int .i64 a1_2) ∧ wJ51_2_5.cell? ⟨g2, 3, none⟩ = some (.int .i64 a1_3) := hS_
      refine norm_ (a' := ?_) ?_ ?_
      rotate_left
      · simp only [putAll, Act.put, List.setIfInBounds_toArray, List.set_cons_zero, List.set_cons_succ]
        rfl
      refine one_ (i := 9) (N := some 13) #[true, true, true, true, true, true, true, true, true, true, false, false] rfl rfl (by kernel_rfl) (by decide) (fun K hK => ?_)
      refine box_step ?hg (N := 13) ?hd (cs := #[.slice none 0 0]) (t := 33) ?hr ?_
      (case hd => rfl)
      (case hg => rfl)
      (case hr => first | (go_simp; done) | (go_simp; rfl))
      intro g80 hg w80 hbox hb
      have HS80 : Aside0 (Stk w [⟨g80, g80 + 1, bx g80 #[.slice none 0 0] 33⟩, ⟨lo68, hi68, fun w_ => Kd.S (Kd.slice 5 (Kd.int .u8)) 67 w_ w.heap.size (fun k_ => lo68 ≤ k_ ∧ k_ < hi68) (.slice A68_0 r4_0.length c68_0) r4_0⟩, ⟨g49, g49 + 1, bx g49 #[.slice A48_0 r2_0.length c48_0] 33⟩, ⟨lo48, hi48, fun w_ => Kd.S (Kd.slice 5 (Kd.int .u8)) 67 w_ w.heap.size (fun k_ => lo48 ≤ k_ ∧ k_ < hi48) (.slice A48_0 r2_0.length c48_0) r2_0⟩, ⟨g36, g36 + 1, bx g36 #[.slice A24_0 r4_0.length c24_0] 33⟩, ⟨lo24, hi24, fun w_ => Kd.S (Kd.slice 5 (Kd.int .u8)) 67 w_ w.heap.size (fun k_ => lo24 ≤ k_ ∧ k_ < hi24) (.slice A24_0 r4_0.length c24_0) r4_0⟩, ⟨lo9, hi9, fun w_ => Kd.S (Kd.slice 5 (Kd.int .u8)) 67 w_ w.heap.size (fun k_ => lo9 ≤ k_ ∧ k_ < hi9) (.slice A9_0 r2_0.length c9_0) r2_0⟩, ⟨g2, g2 + 1, bx g2 #[.int .i64 a1_0, .int .i64 a1_1, .int .i64 a1_2, .int .i64 a1_3] 54⟩, ⟨g1, g1 + 1, bx g1 #[.slice A0_0 l0_0.length c0_0] 31⟩] w80) := ⟨HSJ51_2_5.out.box hb hg hbox⟩
      clear hb hbox hg HSJ51_2_5
      refine hK.out _ _ ⟨(blk_cell (show bx g49 #[.slice A48_0 r2_0.length c48_0] 33 w80 from HS80.out.get 2 rfl) 0).trans rfl, (blk_cell (show bx g2 #[.int .i64 a1_0, .int .i64 a1_1, .int .i64 a1_2, .int .i64 a1_3] 54 w80 from HS80.out.get 7 rfl) 0).trans rfl, (blk_cell (show bx g2 #[.int .i64 a1_0, .int .i64 a1_1, .int .i64 a1_2, .int .i64 a1_3] 54 w80 from HS80.out.get 7 rfl) 1).trans rfl, (blk_cell (show bx g2 #[.int .i64 a1_0, .int .i64 a1_1, .int .i64 a1_2, .int .i64 a1_3] 54 w80 from HS80.out.get 7 rfl) 2).trans rfl, (blk_cell (show bx g2 #[.int .i64 a1_0, .int .i64 a1_1, .int .i64 a1_2, .int .i64 a1_3] 54 w80 from HS80.out.get 7 rfl) 3).trans rfl⟩ (fun hHeld => ?_)
      clear hK K
      refine norm_ (a' := ?_) ?_ ?_
      rotate_left
      · show Act.put _ (some 13) _ = _
        simp only [Act.put, List.setIfInBounds_toArray, List.set_cons_zero, List.set_cons_succ, i64_w, i32_w]
        rfl
      exact norm_ (by first | (simp only [putAll, Act.put, List.setIfInBounds_toArray, List.set_cons_zero, List.set_cons_succ]; done) | (simp only [putAll, Act.put, List.setIfInBounds_toArray, List.set_cons_zero, List.set_cons_succ]; rfl)) (hJ2_5_9 ⟨g80, lo68, hi68, A68_0, c68_0⟩ _ ⟨hHeld, HS80.out⟩)
  rintro ⟨g80, lo68, hi68, A68_0, c68_0⟩ wJ51_2_5_9 ⟨hS_, h0_⟩
  have HSJ51_2_5_9 : Aside0 (Stk w [⟨g80, g80 + 1, bx g80 #[.slice none 0 0] 33⟩, ⟨lo68, hi68, fun w_ => Kd.S (Kd.slice 5 (Kd.int .u8)) 67 w_ w.heap.size (fun k_ => lo68 ≤ k_ ∧ k_ < hi68) (.slice A68_0 r4_0.length c68_0) r4_0⟩, ⟨g49, g49 + 1, bx g49 #[.slice A48_0 r2_0.length c48_0] 33⟩, ⟨lo48, hi48, fun w_ => Kd.S (Kd.slice 5 (Kd.int .u8)) 67 w_ w.heap.size (fun k_ => lo48 ≤ k_ ∧ k_ < hi48) (.slice A48_0 r2_0.length c48_0) r2_0⟩, ⟨g36, g36 + 1, bx g36 #[.slice A24_0 r4_0.length c24_0] 33⟩, ⟨lo24, hi24, fun w_ => Kd.S (Kd.slice 5 (Kd.int .u8)) 67 w_ w.heap.size (fun k_ => lo24 ≤ k_ ∧ k_ < hi24) (.slice A24_0 r4_0.length c24_0) r4_0⟩, ⟨lo9, hi9, fun w_ => Kd.S (Kd.slice 5 (Kd.int .u8)) 67 w_ w.heap.size (fun k_ => lo9 ≤ k_ ∧ k_ < hi9) (.slice A9_0 r2_0.length c9_0) r2_0⟩, ⟨g2, g2 + 1, bx g2 #[.int .i64 a1_0, .int .i64 a1_1, .int .i64 a1_2, .int .i64 a1_3] 54⟩, ⟨g1, g1 + 1, bx g1 #[.slice A0_0 l0_0.length c0_0] 31⟩] wJ51_2_5_9) := ⟨h0_⟩
  clear h0_ HS51
  have hHeld : wJ51_2_5_9.cell? ⟨g49, 0, none⟩ = some (.slice A48_0 r2_0.length c48_0) ∧ wJ51_2_5_9.cell? ⟨g2, 0, none⟩ = some (.int .i64 a1_0) ∧ wJ51_2_5_9.cell? ⟨g2, 1, none⟩ = some (.int .i64 a1_1) ∧ wJ51_2_5_9.cell? ⟨g2, 2, none⟩ = some (.int .i64 a1_2) ∧ wJ51_2_5_9.cell? ⟨g2, 3, none⟩ = some (.int .i64 a1_3) := hS_
  refine norm_ (a' := ?_) ?_ ?_
  rotate_left
  · simp only [putAll, Act.put, List.setIfInBounds_toArray, List.set_cons_zero, List.set_cons_succ]
    rfl
  refine one_ (i := 10) (N := none) #[true, true, true, true, true, true, true, true, true, true, true, false] rfl rfl (by kernel_rfl) (by decide) (fun K hK => ?_)
  have B90_10_g80 : bx g80 #[.slice none 0 0] 33 wJ51_2_5_9 := HSJ51_2_5_9.out.get 0 rfl
  have hcz90_10_g80_0 : (wJ51_2_5_9).cell? ⟨g80, 0, none⟩ = some (.slice none 0 0) := (blk_cell B90_10_g80 0).trans rfl
  have hfz90_10_g80_0 := blk_frozen B90_10_g80 0
  clear B90_10_g80
  have hne10_g49 : g49 ≠ g80 := HSJ51_2_5_9.out.ne 2 0 (by decide) rfl rfl
  have hne10_g49' : g80 ≠ g49 := fun e_ => hne10_g49 e_.symm
  have hne10_g2 : g2 ≠ g80 := HSJ51_2_5_9.out.ne 7 0 (by decide) rfl rfl
  have hne10_g2' : g80 ≠ g2 := fun e_ => hne10_g2 e_.symm
  refine skip_ (w1 := ?_) (by rfl) rfl ?_ ?_
  rotate_left
  · go_simp
    rfl
  have HS91 : Aside0 (Stk w [⟨g80, g80 + 1, bx g80 #[.slice A68_0 r4_0.length c68_0] 33⟩, ⟨lo68, hi68, fun w_ => Kd.S (Kd.slice 5 (Kd.int .u8)) 67 w_ w.heap.size (fun k_ => lo68 ≤ k_ ∧ k_ < hi68) (.slice A68_0 r4_0.length c68_0) r4_0⟩, ⟨g49, g49 + 1, bx g49 #[.slice A48_0 r2_0.length c48_0] 33⟩, ⟨lo48, hi48, fun w_ => Kd.S (Kd.slice 5 (Kd.int .u8)) 67 w_ w.heap.size (fun k_ => lo48 ≤ k_ ∧ k_ < hi48) (.slice A48_0 r2_0.length c48_0) r2_0⟩, ⟨g36, g36 + 1, bx g36 #[.slice A24_0 r4_0.length c24_0] 33⟩, ⟨lo24, hi24, fun w_ => Kd.S (Kd.slice 5 (Kd.int .u8)) 67 w_ w.heap.size (fun k_ => lo24 ≤ k_ ∧ k_ < hi24) (.slice A24_0 r4_0.length c24_0) r4_0⟩, ⟨lo9, hi9, fun w_ => Kd.S (Kd.slice 5 (Kd.int .u8)) 67 w_ w.heap.size (fun k_ => lo9 ≤ k_ ∧ k_ < hi9) (.slice A9_0 r2_0.length c9_0) r2_0⟩, ⟨g2, g2 + 1, bx g2 #[.int .i64 a1_0, .int .i64 a1_1, .int .i64 a1_2, .int .i64 a1_3] 54⟩, ⟨g1, g1 + 1, bx g1 #[.slice A0_0 l0_0.length c0_0] 31⟩] ((wJ51_2_5_9).setCell ⟨g80, 0, none⟩ (.slice A68_0 r4_0.length c68_0))) := ⟨(HSJ51_2_5_9.out.put 0 rfl 0 (.slice A68_0 r4_0.length c68_0))⟩
  clear HSJ51_2_5_9
  (try clear hcz90_10_g80_0 hfz90_10_g80_0 hne10_g49 hne10_g49' hne10_g2 hne10_g2')
  refine hK.out _ _ ⟨(blk_cell (show bx g49 #[.slice A48_0 r2_0.length c48_0] 33 ((wJ51_2_5_9).setCell ⟨g80, 0, none⟩ (.slice A68_0 r4_0.length c68_0)) from HS91.out.get 2 rfl) 0).trans rfl, (blk_cell (show bx g2 #[.int .i64 a1_0, .int .i64 a1_1, .int .i64 a1_2, .int .i64 a1_3] 54 ((wJ51_2_5_9).setCell ⟨g80, 0, none⟩ (.slice A68_0 r4_0.length c68_0)) from HS91.out.get 7 rfl) 0).trans rfl, (blk_cell (show bx g2 #[.int .i64 a1_0, .int .i64 a1_1, .int .i64 a1_2, .int .i64 a1_3] 54 ((wJ51_2_5_9).setCell ⟨g80, 0, none⟩ (.slice A68_0 r4_0.length c68_0)) from HS91.out.get 7 rfl) 1).trans rfl, (blk_cell (show bx g2 #[.int .i64 a1_0, .int .i64 a1_1, .int .i64 a1_2, .int .i64 a1_3] 54 ((wJ51_2_5_9).setCell ⟨g80, 0, none⟩ (.slice A68_0 r4_0.length c68_0)) from HS91.out.get 7 rfl) 2).trans rfl, (blk_cell (show bx g2 #[.int .i64 a1_0, .int .i64 a1_1, .int .i64 a1_2, .int .i64 a1_3] 54 ((wJ51_2_5_9).setCell ⟨g80, 0, none⟩ (.slice A68_0 r4_0.length c68_0)) from HS91.out.get 7 rfl) 3).trans rfl⟩ (fun hHeld => ?_)
  clear hK K
  refine pure_ (i := 11) (N := some 14) (v := ?_) (a' := ?_) #[true, true, true, true, true, true, true, true, true, true, true, true] rfl rfl (by kernel_rfl) (fun _ _ _ h => h) (Or.inl ⟨by rfl, ?_⟩) ?_ ?_
  rotate_left
  · intro w'
    go_simp
    with_reducible rfl
  rotate_left
  · simp only [Act.put, List.setIfInBounds_toArray, List.set_cons_zero, List.set_cons_succ, i64_w, i32_w]
    rfl
  refine done_ (by kernel_rfl) ?_
  have B91_g80 : bx g80 #[.slice A68_0 r4_0.length c68_0] 33 ((wJ51_2_5_9).setCell ⟨g80, 0, none⟩ (.slice A68_0 r4_0.length c68_0)) := HS91.out.get 0 rfl
  have hcz91_g80_0 : ((wJ51_2_5_9).setCell ⟨g80, 0, none⟩ (.slice A68_0 r4_0.length c68_0)).cell? ⟨g80, 0, none⟩ = some (.slice A68_0 r4_0.length c68_0) := (blk_cell B91_g80 0).trans rfl
  have hfz91_g80_0 := blk_frozen B91_g80 0
  clear B91_g80
  have B91_g36 : bx g36 #[.slice A24_0 r4_0.length c24_0] 33 ((wJ51_2_5_9).setCell ⟨g80, 0, none⟩ (.slice A68_0 r4_0.length c68_0)) := HS91.out.get 4 rfl
  have hcz91_g36_0 : ((wJ51_2_5_9).setCell ⟨g80, 0, none⟩ (.slice A68_0 r4_0.length c68_0)).cell? ⟨g36, 0, none⟩ = some (.slice A24_0 r4_0.length c24_0) := (blk_cell B91_g36 0).trans rfl
  have hfz91_g36_0 := blk_frozen B91_g36 0
  clear B91_g36
  go_wp2_with (first | ((with_reducible refine gate_callee (f := 23) rfl ?_); refine goesL_ (some 48) rfl rfl Try.func23 (by kernel_rfl) rfl #[.agg #[.slice A68_0 r4_0.length c68_0], .agg #[.slice A24_0 r4_0.length c24_0]] rfl (by (try simp only [List.map_toArray, List.map_cons, List.map_nil]); first | done | rfl) ?_; (refine (laws_eqMemory.calls _ _ _ _ _ _ _ _ _ ?side1 ?side2 ?side3 ?side4 H6.out).mono ?_); (case side1 => exact (Kd.S_reads' ((show Kd.S (Kd.slice 5 (Kd.int .u8)) 67 ((wJ51_2_5_9).setCell ⟨g80, 0, none⟩ (.slice A68_0 r4_0.length c68_0)) w.heap.size (fun k_ => lo68 ≤ k_ ∧ k_ < hi68) (.slice A68_0 r4_0.length c68_0) r4_0 from HS91.out.get 1 rfl))).2.2); (case side2 => exact (Kd.S_reads' ((show Kd.S (Kd.slice 5 (Kd.int .u8)) 67 ((wJ51_2_5_9).setCell ⟨g80, 0, none⟩ (.slice A68_0 r4_0.length c68_0)) w.heap.size (fun k_ => lo68 ≤ k_ ∧ k_ < hi68) (.slice A68_0 r4_0.length c68_0) r4_0 from HS91.out.get 1 rfl))).2.1); (case side3 => exact (Kd.S_reads' ((show Kd.S (Kd.slice 5 (Kd.int .u8)) 67 ((wJ51_2_5_9).setCell ⟨g80, 0, none⟩ (.slice A68_0 r4_0.length c68_0)) w.heap.size (fun k_ => lo24 ≤ k_ ∧ k_ < hi24) (.slice A24_0 r4_0.length c24_0) r4_0 from HS91.out.get 5 rfl))).2.2); (case side4 => exact (Kd.S_reads' ((show Kd.S (Kd.slice 5 (Kd.int .u8)) 67 ((wJ51_2_5_9).setCell ⟨g80, 0, none⟩ (.slice A68_0 r4_0.length c68_0)) w.heap.size (fun k_ => lo24 ≤ k_ ∧ k_ < hi24) (.slice A24_0 r4_0.length c24_0) r4_0 from HS91.out.get 5 rfl))).2.1); rintro e w92 ⟨rfl, hb⟩; refine ⟨_, rfl, ?_⟩; (try clear hcz91_g80_0 hfz91_g80_0 hcz91_g36_0 hfz91_g36_0); have HS92 : Aside0 (Stk w [⟨g80, g80 + 1, bx g80 #[.slice A68_0 r4_0.length c68_0] 33⟩, ⟨lo68, hi68, fun w_ => Kd.S (Kd.slice 5 (Kd.int .u8)) 67 w_ w.heap.size (fun k_ => lo68 ≤ k_ ∧ k_ < hi68) (.slice A68_0 r4_0.length c68_0) r4_0⟩, ⟨g49, g49 + 1, bx g49 #[.slice A48_0 r2_0.length c48_0] 33⟩, ⟨lo48, hi48, fun w_ => Kd.S (Kd.slice 5 (Kd.int .u8)) 67 w_ w.heap.size (fun k_ => lo48 ≤ k_ ∧ k_ < hi48) (.slice A48_0 r2_0.length c48_0) r2_0⟩, ⟨g36, g36 + 1, bx g36 #[.slice A24_0 r4_0.length c24_0] 33⟩, ⟨lo24, hi24, fun w_ => Kd.S (Kd.slice 5 (Kd.int .u8)) 67 w_ w.heap.size (fun k_ => lo24 ≤ k_ ∧ k_ < hi24) (.slice A24_0 r4_0.length c24_0) r4_0⟩, ⟨lo9, hi9, fun w_ => Kd.S (Kd.slice 5 (Kd.int .u8)) 67 w_ w.heap.size (fun k_ => lo9 ≤ k_ ∧ k_ < hi9) (.slice A9_0 r2_0.length c9_0) r2_0⟩, ⟨g2, g2 + 1, bx g2 #[.int .i64 a1_0, .int .i64 a1_1, .int .i64 a1_2, .int .i64 a1_3] 54⟩, ⟨g1, g1 + 1, bx g1 #[.slice A0_0 l0_0.length c0_0] 31⟩] w92) := ⟨HS91.out.below hb⟩; clear hb HS91))
  have HS93 : Aside0 (Stk w [⟨g80, g80 + 1, bx g80 #[.slice A68_0 r4_0.length c68_0] 33⟩, ⟨lo68, hi68, fun w_ => Kd.S (Kd.slice 5 (Kd.int .u8)) 67 w_ w.heap.size (fun k_ => lo68 ≤ k_ ∧ k_ < hi68) (.slice A68_0 r4_0.length c68_0) r4_0⟩, ⟨g49, g49 + 1, bx g49 #[.slice A48_0 r2_0.length c48_0] 33⟩, ⟨lo48, hi48, fun w_ => Kd.S (Kd.slice 5 (Kd.int .u8)) 67 w_ w.heap.size (fun k_ => lo48 ≤ k_ ∧ k_ < hi48) (.slice A48_0 r2_0.length c48_0) r2_0⟩, ⟨g36, g36 + 1, bx g36 #[.slice A24_0 r4_0.length c24_0] 33⟩, ⟨lo24, hi24, fun w_ => Kd.S (Kd.slice 5 (Kd.int .u8)) 67 w_ w.heap.size (fun k_ => lo24 ≤ k_ ∧ k_ < hi24) (.slice A24_0 r4_0.length c24_0) r4_0⟩, ⟨lo9, hi9, fun w_ => Kd.S (Kd.slice 5 (Kd.int .u8)) 67 w_ w.heap.size (fun k_ => lo9 ≤ k_ ∧ k_ < hi9) (.slice A9_0 r2_0.length c9_0) r2_0⟩, ⟨g2, g2 + 1, bx g2 #[.int .i64 a1_0, .int .i64 a1_1, .int .i64 a1_2, .int .i64 a1_3] 54⟩, ⟨g1, g1 + 1, bx g1 #[.slice A0_0 l0_0.length c0_0] 31⟩] (w92).drew) := ⟨HS92.out.drew⟩
  clear HS92
  refine start_ (n := 5) (S := fun w' => w'.cell? ⟨g49, 0, none⟩ = some (.slice A48_0 r2_0.length c48_0) ∧ w'.cell? ⟨g1, 0, none⟩ = some (.slice A0_0 l0_0.length c0_0)) (ds := []) #[false, false, false, false, false] (by kernel_rfl) rfl rfl ⟨(blk_cell (show bx g49 #[.slice A48_0 r2_0.length c48_0] 33 ((w92).drew) from HS93.out.get 2 rfl) 0).trans rfl, (blk_cell (show bx g1 #[.slice A0_0 l0_0.length c0_0] 31 ((w92).drew) from HS93.out.get 8 rfl) 0).trans rfl⟩ (fun hHeld => ?_)
  generalize (w92).drew = w93 at HS93 hHeld ⊢
  refine take_ (i := 0) (N := some 55) (v := ?_) (a' := ?_) #[true, false, false, false, false] rfl rfl (by kernel_rfl) (fun _ _ _ h => h) (Or.inl ⟨by rfl, ?_⟩) hHeld ?_ ?_
  rotate_left
  · rintro w' ⟨s0, s1⟩
    go_simp
    with_reducible rfl
  rotate_left
  · simp only [Act.put, List.setIfInBounds_toArray, List.set_cons_zero, List.set_cons_succ, i64_w, i32_w]
    rfl
  refine take_ (i := 1) (N := some 56) (v := ?_) (a' := ?_) #[true, true, false, false, false] rfl rfl (by kernel_rfl) (fun _ _ _ h => h) (Or.inl ⟨by rfl, ?_⟩) hHeld ?_ ?_
  rotate_left
  · rintro w' ⟨s0, s1⟩
    go_simp
    with_reducible rfl
  rotate_left
  · simp only [Act.put, List.setIfInBounds_toArray, List.set_cons_zero, List.set_cons_succ, i64_w, i32_w]
    rfl
  refine one_ (i := 2) (N := some 57) #[true, true, true, false, false] rfl rfl (by kernel_rfl) (by decide) (fun K hK => ?_)
  refine goes_ Try.func21 (by kernel_rfl) rfl #[.agg #[.slice A0_0 l0_0.length c0_0]] (by rfl) rfl rfl (by (try simp only [List.map_toArray, List.map_cons, List.map_nil]); first | done | rfl) ?_
  (refine (laws_toMemory.calls _ _ _ _ _ ?side1 ?side2 H2.out).mono ?_)
  (case side1 => exact Kd.C_below HR0_0.out HS93.out.hb)
  (case side2 => exact HC0_0.out)
  rintro e w94 ⟨v0_, rfl, ho0, hb⟩
  refine ⟨_, rfl, ?_⟩
  obtain ⟨A94_0, c94_0, e94_0⟩ := Kd.S_slice ho0
  subst e94_0
  obtain ⟨lo94, hi94, hst⟩ := HS93.out.push hb (P := fun lo_ hi_ w_ => Kd.S (Kd.slice 5 (Kd.int .u8)) 67 w_ w.heap.size (fun k_ => lo_ ≤ k_ ∧ k_ < hi_) (.slice A94_0 r2_0.length c94_0) r2_0) (fun w_ ha_ => S_held ho0 HS93.out.hb.size ha_)
  have HS94 : Aside0 (Stk w [⟨lo94, hi94, fun w_ => Kd.S (Kd.slice 5 (Kd.int .u8)) 67 w_ w.heap.size (fun k_ => lo94 ≤ k_ ∧ k_ < hi94) (.slice A94_0 r2_0.length c94_0) r2_0⟩, ⟨g80, g80 + 1, bx g80 #[.slice A68_0 r4_0.length c68_0] 33⟩, ⟨lo68, hi68, fun w_ => Kd.S (Kd.slice 5 (Kd.int .u8)) 67 w_ w.heap.size (fun k_ => lo68 ≤ k_ ∧ k_ < hi68) (.slice A68_0 r4_0.length c68_0) r4_0⟩, ⟨g49, g49 + 1, bx g49 #[.slice A48_0 r2_0.length c48_0] 33⟩, ⟨lo48, hi48, fun w_ => Kd.S (Kd.slice 5 (Kd.int .u8)) 67 w_ w.heap.size (fun k_ => lo48 ≤ k_ ∧ k_ < hi48) (.slice A48_0 r2_0.length c48_0) r2_0⟩, ⟨g36, g36 + 1, bx g36 #[.slice A24_0 r4_0.length c24_0] 33⟩, ⟨lo24, hi24, fun w_ => Kd.S (Kd.slice 5 (Kd.int .u8)) 67 w_ w.heap.size (fun k_ => lo24 ≤ k_ ∧ k_ < hi24) (.slice A24_0 r4_0.length c24_0) r4_0⟩, ⟨lo9, hi9, fun w_ => Kd.S (Kd.slice 5 (Kd.int .u8)) 67 w_ w.heap.size (fun k_ => lo9 ≤ k_ ∧ k_ < hi9) (.slice A9_0 r2_0.length c9_0) r2_0⟩, ⟨g2, g2 + 1, bx g2 #[.int .i64 a1_0, .int .i64 a1_1, .int .i64 a1_2, .int .i64 a1_3] 54⟩, ⟨g1, g1 + 1, bx g1 #[.slice A0_0 l0_0.length c0_0] 31⟩] w94) := ⟨hst⟩
  clear hst hb HS93 ho0
  refine hK.out _ _ ⟨(blk_cell (show bx g49 #[.slice A48_0 r2_0.length c48_0] 33 w94 from HS94.out.get 3 rfl) 0).trans rfl, (blk_cell (show bx g1 #[.slice A0_0 l0_0.length c0_0] 31 w94 from HS94.out.get 9 rfl) 0).trans rfl⟩ (fun hHeld => ?_)
  clear hK K
  refine norm_ (a' := ?_) ?_ ?_
  rotate_left
  · show Act.put _ (some 57) _ = _
    simp only [Act.put, List.setIfInBounds_toArray, List.set_cons_zero, List.set_cons_succ, i64_w, i32_w]
    rfl
  refine one_ (i := 3) (N := some 58) #[true, true, true, true, false] rfl rfl (by kernel_rfl) (by decide) (fun K hK => ?_)
  refine goes_ Try.func23 (by kernel_rfl) rfl #[.agg #[.slice A48_0 r2_0.length c48_0], .agg #[.slice A94_0 r2_0.length c94_0]] (by rfl) rfl rfl (by (try simp only [List.map_toArray, List.map_cons, List.map_nil]); first | done | rfl) ?_
  (refine (laws_eqMemory.calls _ _ _ _ _ _ _ _ _ ?side1 ?side2 ?side3 ?side4 H7.out).mono ?_)
  (case side1 => exact (Kd.S_reads' ((show Kd.S (Kd.slice 5 (Kd.int .u8)) 67 w94 w.heap.size (fun k_ => lo48 ≤ k_ ∧ k_ < hi48) (.slice A48_0 r2_0.length c48_0) r2_0 from HS94.out.get 4 rfl))).2.2)
  (case side2 => exact (Kd.S_reads' ((show Kd.S (Kd.slice 5 (Kd.int .u8)) 67 w94 w.heap.size (fun k_ => lo48 ≤ k_ ∧ k_ < hi48) (.slice A48_0 r2_0.length c48_0) r2_0 from HS94.out.get 4 rfl))).2.1)
  (case side3 => exact (Kd.S_reads' ((show Kd.S (Kd.slice 5 (Kd.int .u8)) 67 w94 w.heap.size (fun k_ => lo94 ≤ k_ ∧ k_ < hi94) (.slice A94_0 r2_0.length c94_0) r2_0 from HS94.out.get 0 rfl))).2.2)
  (case side4 => exact (Kd.S_reads' ((show Kd.S (Kd.slice 5 (Kd.int .u8)) 67 w94 w.heap.size (fun k_ => lo94 ≤ k_ ∧ k_ < hi94) (.slice A94_0 r2_0.length c94_0) r2_0 from HS94.out.get 0 rfl))).2.1)
  rintro e w95 ⟨rfl, hb⟩
  refine ⟨_, rfl, ?_⟩
  have HS95 : Aside0 (Stk w [⟨lo94, hi94, fun w_ => Kd.S (Kd.slice 5 (Kd.int .u8)) 67 w_ w.heap.size (fun k_ => lo94 ≤ k_ ∧ k_ < hi94) (.slice A94_0 r2_0.length c94_0) r2_0⟩, ⟨g80, g80 + 1, bx g80 #[.slice A68_0 r4_0.length c68_0] 33⟩, ⟨lo68, hi68, fun w_ => Kd.S (Kd.slice 5 (Kd.int .u8)) 67 w_ w.heap.size (fun k_ => lo68 ≤ k_ ∧ k_ < hi68) (.slice A68_0 r4_0.length c68_0) r4_0⟩, ⟨g49, g49 + 1, bx g49 #[.slice A48_0 r2_0.length c48_0] 33⟩, ⟨lo48, hi48, fun w_ => Kd.S (Kd.slice 5 (Kd.int .u8)) 67 w_ w.heap.size (fun k_ => lo48 ≤ k_ ∧ k_ < hi48) (.slice A48_0 r2_0.length c48_0) r2_0⟩, ⟨g36, g36 + 1, bx g36 #[.slice A24_0 r4_0.length c24_0] 33⟩, ⟨lo24, hi24, fun w_ => Kd.S (Kd.slice 5 (Kd.int .u8)) 67 w_ w.heap.size (fun k_ => lo24 ≤ k_ ∧ k_ < hi24) (.slice A24_0 r4_0.length c24_0) r4_0⟩, ⟨lo9, hi9, fun w_ => Kd.S (Kd.slice 5 (Kd.int .u8)) 67 w_ w.heap.size (fun k_ => lo9 ≤ k_ ∧ k_ < hi9) (.slice A9_0 r2_0.length c9_0) r2_0⟩, ⟨g2, g2 + 1, bx g2 #[.int .i64 a1_0, .int .i64 a1_1, .int .i64 a1_2, .int .i64 a1_3] 54⟩, ⟨g1, g1 + 1, bx g1 #[.slice A0_0 l0_0.length c0_0] 31⟩] w95) := ⟨HS94.out.below hb⟩
  clear hb HS94
  refine hK.out _ _ ⟨(blk_cell (show bx g49 #[.slice A48_0 r2_0.length c48_0] 33 w95 from HS95.out.get 3 rfl) 0).trans rfl, (blk_cell (show bx g1 #[.slice A0_0 l0_0.length c0_0] 31 w95 from HS95.out.get 9 rfl) 0).trans rfl⟩ (fun hHeld => ?_)
  clear hK K
  refine norm_ (a' := ?_) ?_ ?_
  rotate_left
  · show Act.put _ (some 58) _ = _
    simp only [Act.put, List.setIfInBounds_toArray, List.set_cons_zero, List.set_cons_succ, i64_w, i32_w]
    rfl
  refine pure_ (i := 4) (N := some 59) (v := ?_) (a' := ?_) #[true, true, true, true, true] rfl rfl (by kernel_rfl) (fun _ _ _ h => h) (Or.inl ⟨by rfl, ?_⟩) ?_ ?_
  rotate_left
  · intro w'
    go_simp
    with_reducible rfl
  rotate_left
  · simp only [Act.put, List.setIfInBounds_toArray, List.set_cons_zero, List.set_cons_succ, i64_w, i32_w]
    rfl
  refine done_ (by kernel_rfl) ?_
  have B95_g49 : bx g49 #[.slice A48_0 r2_0.length c48_0] 33 w95 := HS95.out.get 3 rfl
  have hcz95_g49_0 : (w95).cell? ⟨g49, 0, none⟩ = some (.slice A48_0 r2_0.length c48_0) := (blk_cell B95_g49 0).trans rfl
  have hfz95_g49_0 := blk_frozen B95_g49 0
  clear B95_g49
  go_wp2_with (first | ((with_reducible refine gate_callee (f := 25) rfl ?_); refine goesL_ (some 62) rfl rfl Try.func25 (by kernel_rfl) rfl #[.agg #[.slice A48_0 r2_0.length c48_0], .int .i64 1] rfl (by (try simp only [List.map_toArray, List.map_cons, List.map_nil]); first | done | rfl) ?_; (refine (laws_markMemory.calls (fun k_ => lo48 ≤ k_ ∧ k_ < hi48) _ _ _ _ _ w _ HS95.out.hb ?side1 H8.out).mono ?_); (case side1 => exact (show Kd.S (Kd.slice 5 (Kd.int .u8)) 67 w95 w.heap.size (fun k_ => lo48 ≤ k_ ∧ k_ < hi48) (.slice A48_0 r2_0.length c48_0) r2_0 from HS95.out.get 4 rfl)); rintro e w96 ⟨rfl, ho0, hb, hk⟩; refine ⟨_, rfl, ?_⟩; (try clear hcz95_g49_0 hfz95_g49_0); have HS96 : Aside0 (Stk w [⟨lo94, hi94, fun w_ => Kd.S (Kd.slice 5 (Kd.int .u8)) 67 w_ w.heap.size (fun k_ => lo94 ≤ k_ ∧ k_ < hi94) (.slice A94_0 r2_0.length c94_0) r2_0⟩, ⟨g80, g80 + 1, bx g80 #[.slice A68_0 r4_0.length c68_0] 33⟩, ⟨lo68, hi68, fun w_ => Kd.S (Kd.slice 5 (Kd.int .u8)) 67 w_ w.heap.size (fun k_ => lo68 ≤ k_ ∧ k_ < hi68) (.slice A68_0 r4_0.length c68_0) r4_0⟩, ⟨g49, g49 + 1, bx g49 #[.slice A48_0 r2_0.length c48_0] 33⟩, ⟨lo48, hi48, fun w_ => Kd.S (Kd.slice 5 (Kd.int .u8)) 67 w_ w.heap.size (fun k_ => lo48 ≤ k_ ∧ k_ < hi48) (.slice A48_0 r2_0.length c48_0) r8_1⟩, ⟨g36, g36 + 1, bx g36 #[.slice A24_0 r4_0.length c24_0] 33⟩, ⟨lo24, hi24, fun w_ => Kd.S (Kd.slice 5 (Kd.int .u8)) 67 w_ w.heap.size (fun k_ => lo24 ≤ k_ ∧ k_ < hi24) (.slice A24_0 r4_0.length c24_0) r4_0⟩, ⟨lo9, hi9, fun w_ => Kd.S (Kd.slice 5 (Kd.int .u8)) 67 w_ w.heap.size (fun k_ => lo9 ≤ k_ ∧ k_ < hi9) (.slice A9_0 r2_0.length c9_0) r2_0⟩, ⟨g2, g2 + 1, bx g2 #[.int .i64 a1_0, .int .i64 a1_1, .int .i64 a1_2, .int .i64 a1_3] 54⟩, ⟨g1, g1 + 1, bx g1 #[.slice A0_0 l0_0.length c0_0] 31⟩] w96) := ⟨HS95.out.turn 4 rfl (P := fun w_ => Kd.S (Kd.slice 5 (Kd.int .u8)) 67 w_ w.heap.size (fun k_ => lo48 ≤ k_ ∧ k_ < hi48) (.slice A48_0 r2_0.length c48_0) r8_1) hb hk.1 (fun k_ hl_ hn_ => hk.2 k_ hl_ hn_) (fun w_ ha_ => S_again ho0 ha_)⟩; clear HS95 hb hk ho0; have B96_g80 : bx g80 #[.slice A68_0 r4_0.length c68_0] 33 w96 := HS96.out.get 1 rfl; have hcz96_g80_0 : (w96).cell? ⟨g80, 0, none⟩ = some (.slice A68_0 r4_0.length c68_0) := (blk_cell B96_g80 0).trans rfl; have hfz96_g80_0 := blk_frozen B96_g80 0; clear B96_g80; have B96_g36 : bx g36 #[.slice A24_0 r4_0.length c24_0] 33 w96 := HS96.out.get 5 rfl; have hcz96_g36_0 : (w96).cell? ⟨g36, 0, none⟩ = some (.slice A24_0 r4_0.length c24_0) := (blk_cell B96_g36 0).trans rfl; have hfz96_g36_0 := blk_frozen B96_g36 0; clear B96_g36) | (go_at_call 23; (refine (laws_eqMemory.calls _ _ _ _ _ _ _ _ _ ?side1 ?side2 ?side3 ?side4 H6.out).mono ?_); (case side1 => exact (Kd.S_reads' ((show Kd.S (Kd.slice 5 (Kd.int .u8)) 67 w96 w.heap.size (fun k_ => lo68 ≤ k_ ∧ k_ < hi68) (.slice A68_0 r4_0.length c68_0) r4_0 from HS96.out.get 2 rfl))).2.2); (case side2 => exact (Kd.S_reads' ((show Kd.S (Kd.slice 5 (Kd.int .u8)) 67 w96 w.heap.size (fun k_ => lo68 ≤ k_ ∧ k_ < hi68) (.slice A68_0 r4_0.length c68_0) r4_0 from HS96.out.get 2 rfl))).2.1); (case side3 => exact (Kd.S_reads' ((show Kd.S (Kd.slice 5 (Kd.int .u8)) 67 w96 w.heap.size (fun k_ => lo24 ≤ k_ ∧ k_ < hi24) (.slice A24_0 r4_0.length c24_0) r4_0 from HS96.out.get 6 rfl))).2.2); (case side4 => exact (Kd.S_reads' ((show Kd.S (Kd.slice 5 (Kd.int .u8)) 67 w96 w.heap.size (fun k_ => lo24 ≤ k_ ∧ k_ < hi24) (.slice A24_0 r4_0.length c24_0) r4_0 from HS96.out.get 6 rfl))).2.1); rintro e w97 ⟨rfl, hb⟩; (try clear hcz96_g80_0 hfz96_g80_0 hcz96_g36_0 hfz96_g36_0); have HS97 : Aside0 (Stk w [⟨lo94, hi94, fun w_ => Kd.S (Kd.slice 5 (Kd.int .u8)) 67 w_ w.heap.size (fun k_ => lo94 ≤ k_ ∧ k_ < hi94) (.slice A94_0 r2_0.length c94_0) r2_0⟩, ⟨g80, g80 + 1, bx g80 #[.slice A68_0 r4_0.length c68_0] 33⟩, ⟨lo68, hi68, fun w_ => Kd.S (Kd.slice 5 (Kd.int .u8)) 67 w_ w.heap.size (fun k_ => lo68 ≤ k_ ∧ k_ < hi68) (.slice A68_0 r4_0.length c68_0) r4_0⟩, ⟨g49, g49 + 1, bx g49 #[.slice A48_0 r2_0.length c48_0] 33⟩, ⟨lo48, hi48, fun w_ => Kd.S (Kd.slice 5 (Kd.int .u8)) 67 w_ w.heap.size (fun k_ => lo48 ≤ k_ ∧ k_ < hi48) (.slice A48_0 r2_0.length c48_0) r8_1⟩, ⟨g36, g36 + 1, bx g36 #[.slice A24_0 r4_0.length c24_0] 33⟩, ⟨lo24, hi24, fun w_ => Kd.S (Kd.slice 5 (Kd.int .u8)) 67 w_ w.heap.size (fun k_ => lo24 ≤ k_ ∧ k_ < hi24) (.slice A24_0 r4_0.length c24_0) r4_0⟩, ⟨lo9, hi9, fun w_ => Kd.S (Kd.slice 5 (Kd.int .u8)) 67 w_ w.heap.size (fun k_ => lo9 ≤ k_ ∧ k_ < hi9) (.slice A9_0 r2_0.length c9_0) r2_0⟩, ⟨g2, g2 + 1, bx g2 #[.int .i64 a1_0, .int .i64 a1_1, .int .i64 a1_2, .int .i64 a1_3] 54⟩, ⟨g1, g1 + 1, bx g1 #[.slice A0_0 l0_0.length c0_0] 31⟩] w97) := ⟨HS96.out.below hb⟩; clear hb HS96; have B97_g80 : bx g80 #[.slice A68_0 r4_0.length c68_0] 33 w97 := HS97.out.get 1 rfl; have hcz97_g80_0 : (w97).cell? ⟨g80, 0, none⟩ = some (.slice A68_0 r4_0.length c68_0) := (blk_cell B97_g80 0).trans rfl; have hfz97_g80_0 := blk_frozen B97_g80 0; clear B97_g80) | ((with_reducible refine gate_callee (f := 25) rfl ?_); refine goesL_ (some 78) rfl rfl Try.func25 (by kernel_rfl) rfl #[.agg #[.slice A68_0 r4_0.length c68_0], .int .i64 1] rfl (by (try simp only [List.map_toArray, List.map_cons, List.map_nil]); first | done | rfl) ?_; (refine (laws_markMemory.calls (fun k_ => lo68 ≤ k_ ∧ k_ < hi68) _ _ _ _ _ w _ HS97.out.hb ?side1 H9.out).mono ?_); (case side1 => exact (show Kd.S (Kd.slice 5 (Kd.int .u8)) 67 w97 w.heap.size (fun k_ => lo68 ≤ k_ ∧ k_ < hi68) (.slice A68_0 r4_0.length c68_0) r4_0 from HS97.out.get 2 rfl)); rintro e w98 ⟨rfl, ho0, hb, hk⟩; refine ⟨_, rfl, ?_⟩; (try clear hcz97_g80_0 hfz97_g80_0); have HS98 : Aside0 (Stk w [⟨lo94, hi94, fun w_ => Kd.S (Kd.slice 5 (Kd.int .u8)) 67 w_ w.heap.size (fun k_ => lo94 ≤ k_ ∧ k_ < hi94) (.slice A94_0 r2_0.length c94_0) r2_0⟩, ⟨g80, g80 + 1, bx g80 #[.slice A68_0 r4_0.length c68_0] 33⟩, ⟨lo68, hi68, fun w_ => Kd.S (Kd.slice 5 (Kd.int .u8)) 67 w_ w.heap.size (fun k_ => lo68 ≤ k_ ∧ k_ < hi68) (.slice A68_0 r4_0.length c68_0) r9_1⟩, ⟨g49, g49 + 1, bx g49 #[.slice A48_0 r2_0.length c48_0] 33⟩, ⟨lo48, hi48, fun w_ => Kd.S (Kd.slice 5 (Kd.int .u8)) 67 w_ w.heap.size (fun k_ => lo48 ≤ k_ ∧ k_ < hi48) (.slice A48_0 r2_0.length c48_0) r8_1⟩, ⟨g36, g36 + 1, bx g36 #[.slice A24_0 r4_0.length c24_0] 33⟩, ⟨lo24, hi24, fun w_ => Kd.S (Kd.slice 5 (Kd.int .u8)) 67 w_ w.heap.size (fun k_ => lo24 ≤ k_ ∧ k_ < hi24) (.slice A24_0 r4_0.length c24_0) r4_0⟩, ⟨lo9, hi9, fun w_ => Kd.S (Kd.slice 5 (Kd.int .u8)) 67 w_ w.heap.size (fun k_ => lo9 ≤ k_ ∧ k_ < hi9) (.slice A9_0 r2_0.length c9_0) r2_0⟩, ⟨g2, g2 + 1, bx g2 #[.int .i64 a1_0, .int .i64 a1_1, .int .i64 a1_2, .int .i64 a1_3] 54⟩, ⟨g1, g1 + 1, bx g1 #[.slice A0_0 l0_0.length c0_0] 31⟩] w98) := ⟨HS97.out.turn 2 rfl (P := fun w_ => Kd.S (Kd.slice 5 (Kd.int .u8)) 67 w_ w.heap.size (fun k_ => lo68 ≤ k_ ∧ k_ < hi68) (.slice A68_0 r4_0.length c68_0) r9_1) hb hk.1 (fun k_ hl_ hn_ => hk.2 k_ hl_ hn_) (fun w_ ha_ => S_again ho0 ha_)⟩; clear HS97 hb hk ho0; have B98_g80 : bx g80 #[.slice A68_0 r4_0.length c68_0] 33 w98 := HS98.out.get 1 rfl; have hcz98_g80_0 : (w98).cell? ⟨g80, 0, none⟩ = some (.slice A68_0 r4_0.length c68_0) := (blk_cell B98_g80 0).trans rfl; have hfz98_g80_0 := blk_frozen B98_g80 0; clear B98_g80) | ((with_reducible refine gate_callee (f := 26) rfl ?_); refine goesL_ (some 81) rfl rfl Try.func26 (by kernel_rfl) rfl #[.agg #[.slice A68_0 r9_1.length c68_0], .int .i64 1] rfl (by (try simp only [List.map_toArray, List.map_cons, List.map_nil]); first | (rw [show r9_1.length = r4_0.length from ((Kd.S_reads' ((show Kd.S (Kd.slice 5 (Kd.int .u8)) 67 w98 w.heap.size (fun k_ => lo68 ≤ k_ ∧ k_ < hi68) (.slice A68_0 r4_0.length c68_0) r9_1 from HS98.out.get 2 rfl))).1).symm] <;> rfl)) ?_; (refine (laws_heldMemory.calls _ _ _ _ _ _ _ ?side1 ?side2 H10.out).mono ?_); (case side1 => exact (Kd.S_reads' ((show Kd.S (Kd.slice 5 (Kd.int .u8)) 67 w98 w.heap.size (fun k_ => lo68 ≤ k_ ∧ k_ < hi68) (.slice A68_0 r4_0.length c68_0) r9_1 from HS98.out.get 2 rfl))).2.2); (case side2 => rw [show r9_1.length = r4_0.length from ((Kd.S_reads' ((show Kd.S (Kd.slice 5 (Kd.int .u8)) 67 w98 w.heap.size (fun k_ => lo68 ≤ k_ ∧ k_ < hi68) (.slice A68_0 r4_0.length c68_0) r9_1 from HS98.out.get 2 rfl))).1).symm]; exact (Kd.S_reads' ((show Kd.S (Kd.slice 5 (Kd.int .u8)) 67 w98 w.heap.size (fun k_ => lo68 ≤ k_ ∧ k_ < hi68) (.slice A68_0 r4_0.length c68_0) r9_1 from HS98.out.get 2 rfl))).2.1); rintro e w99 ⟨rfl, hb⟩; refine ⟨_, rfl, ?_⟩; (try clear hcz98_g80_0 hfz98_g80_0); have HS99 : Aside0 (Stk w [⟨lo94, hi94, fun w_ => Kd.S (Kd.slice 5 (Kd.int .u8)) 67 w_ w.heap.size (fun k_ => lo94 ≤ k_ ∧ k_ < hi94) (.slice A94_0 r2_0.length c94_0) r2_0⟩, ⟨g80, g80 + 1, bx g80 #[.slice A68_0 r4_0.length c68_0] 33⟩, ⟨lo68, hi68, fun w_ => Kd.S (Kd.slice 5 (Kd.int .u8)) 67 w_ w.heap.size (fun k_ => lo68 ≤ k_ ∧ k_ < hi68) (.slice A68_0 r4_0.length c68_0) r9_1⟩, ⟨g49, g49 + 1, bx g49 #[.slice A48_0 r2_0.length c48_0] 33⟩, ⟨lo48, hi48, fun w_ => Kd.S (Kd.slice 5 (Kd.int .u8)) 67 w_ w.heap.size (fun k_ => lo48 ≤ k_ ∧ k_ < hi48) (.slice A48_0 r2_0.length c48_0) r8_1⟩, ⟨g36, g36 + 1, bx g36 #[.slice A24_0 r4_0.length c24_0] 33⟩, ⟨lo24, hi24, fun w_ => Kd.S (Kd.slice 5 (Kd.int .u8)) 67 w_ w.heap.size (fun k_ => lo24 ≤ k_ ∧ k_ < hi24) (.slice A24_0 r4_0.length c24_0) r4_0⟩, ⟨lo9, hi9, fun w_ => Kd.S (Kd.slice 5 (Kd.int .u8)) 67 w_ w.heap.size (fun k_ => lo9 ≤ k_ ∧ k_ < hi9) (.slice A9_0 r2_0.length c9_0) r2_0⟩, ⟨g2, g2 + 1, bx g2 #[.int .i64 a1_0, .int .i64 a1_1, .int .i64 a1_2, .int .i64 a1_3] 54⟩, ⟨g1, g1 + 1, bx g1 #[.slice A0_0 l0_0.length c0_0] 31⟩] w99) := ⟨HS98.out.below hb⟩; clear hb HS98))
  have HS100 : Aside0 (Stk w [⟨lo94, hi94, fun w_ => Kd.S (Kd.slice 5 (Kd.int .u8)) 67 w_ w.heap.size (fun k_ => lo94 ≤ k_ ∧ k_ < hi94) (.slice A94_0 r2_0.length c94_0) r2_0⟩, ⟨g80, g80 + 1, bx g80 #[.slice A68_0 r4_0.length c68_0] 33⟩, ⟨lo68, hi68, fun w_ => Kd.S (Kd.slice 5 (Kd.int .u8)) 67 w_ w.heap.size (fun k_ => lo68 ≤ k_ ∧ k_ < hi68) (.slice A68_0 r4_0.length c68_0) r9_1⟩, ⟨g49, g49 + 1, bx g49 #[.slice A48_0 r2_0.length c48_0] 33⟩, ⟨lo48, hi48, fun w_ => Kd.S (Kd.slice 5 (Kd.int .u8)) 67 w_ w.heap.size (fun k_ => lo48 ≤ k_ ∧ k_ < hi48) (.slice A48_0 r2_0.length c48_0) r8_1⟩, ⟨g36, g36 + 1, bx g36 #[.slice A24_0 r4_0.length c24_0] 33⟩, ⟨lo24, hi24, fun w_ => Kd.S (Kd.slice 5 (Kd.int .u8)) 67 w_ w.heap.size (fun k_ => lo24 ≤ k_ ∧ k_ < hi24) (.slice A24_0 r4_0.length c24_0) r4_0⟩, ⟨lo9, hi9, fun w_ => Kd.S (Kd.slice 5 (Kd.int .u8)) 67 w_ w.heap.size (fun k_ => lo9 ≤ k_ ∧ k_ < hi9) (.slice A9_0 r2_0.length c9_0) r2_0⟩, ⟨g2, g2 + 1, bx g2 #[.int .i64 a1_0, .int .i64 a1_1, .int .i64 a1_2, .int .i64 a1_3] 54⟩, ⟨g1, g1 + 1, bx g1 #[.slice A0_0 l0_0.length c0_0] 31⟩] (w99).drew) := ⟨HS99.out.drew⟩
  clear HS99
  refine start_ (n := 13) (S := fun w' => w'.cell? ⟨g1, 0, none⟩ = some (.slice A0_0 l0_0.length c0_0) ∧ w'.cell? ⟨g2, 0, none⟩ = some (.int .i64 a1_0) ∧ w'.cell? ⟨g2, 1, none⟩ = some (.int .i64 a1_1) ∧ w'.cell? ⟨g2, 2, none⟩ = some (.int .i64 a1_2) ∧ w'.cell? ⟨g2, 3, none⟩ = some (.int .i64 a1_3)) (ds := []) #[false, false, false, false, false, false, false, false, false, false, false, false, false] (by kernel_rfl) rfl rfl ⟨(blk_cell (show bx g1 #[.slice A0_0 l0_0.length c0_0] 31 ((w99).drew) from HS100.out.get 9 rfl) 0).trans rfl, (blk_cell (show bx g2 #[.int .i64 a1_0, .int .i64 a1_1, .int .i64 a1_2, .int .i64 a1_3] 54 ((w99).drew) from HS100.out.get 8 rfl) 0).trans rfl, (blk_cell (show bx g2 #[.int .i64 a1_0, .int .i64 a1_1, .int .i64 a1_2, .int .i64 a1_3] 54 ((w99).drew) from HS100.out.get 8 rfl) 1).trans rfl, (blk_cell (show bx g2 #[.int .i64 a1_0, .int .i64 a1_1, .int .i64 a1_2, .int .i64 a1_3] 54 ((w99).drew) from HS100.out.get 8 rfl) 2).trans rfl, (blk_cell (show bx g2 #[.int .i64 a1_0, .int .i64 a1_1, .int .i64 a1_2, .int .i64 a1_3] 54 ((w99).drew) from HS100.out.get 8 rfl) 3).trans rfl⟩ (fun hHeld => ?_)
  generalize (w99).drew = w100 at HS100 hHeld ⊢
  refine pure_ (i := 4) (N := some 92) (v := ?_) (a' := ?_) #[false, false, false, false, true, false, false, false, false, false, false, false, false] rfl rfl (by kernel_rfl) (fun _ _ _ h => h) (Or.inl ⟨by rfl, ?_⟩) ?_ ?_
  rotate_left
  · intro w'
    go_simp
    with_reducible rfl
  rotate_left
  · simp only [Act.put, List.setIfInBounds_toArray, List.set_cons_zero, List.set_cons_succ, i64_w, i32_w]
    rfl
  refine pure_ (i := 5) (N := some 93) (v := ?_) (a' := ?_) #[false, false, false, false, true, true, false, false, false, false, false, false, false] rfl rfl (by kernel_rfl) (fun _ _ _ h => h) (Or.inl ⟨by rfl, ?_⟩) ?_ ?_
  rotate_left
  · intro w'
    go_simp
    with_reducible rfl
  rotate_left
  · simp only [Act.put, List.setIfInBounds_toArray, List.set_cons_zero, List.set_cons_succ, i64_w, i32_w]
    rfl
  refine take_ (i := 0) (N := some 88) (v := ?_) (a' := ?_) #[true, false, false, false, true, true, false, false, false, false, false, false, false] rfl rfl (by kernel_rfl) (fun _ _ _ h => h) (Or.inl ⟨by rfl, ?_⟩) hHeld ?_ ?_
  rotate_left
  · rintro w' ⟨s0, s1, s2, s3, s4⟩
    go_simp
    with_reducible rfl
  rotate_left
  · simp only [Act.put, List.setIfInBounds_toArray, List.set_cons_zero, List.set_cons_succ, i64_w, i32_w]
    rfl
  refine take_ (i := 2) (N := some 90) (v := ?_) (a' := ?_) #[true, false, true, false, true, true, false, false, false, false, false, false, false] rfl rfl (by kernel_rfl) (fun _ _ _ h => h) (Or.inl ⟨by rfl, ?_⟩) hHeld ?_ ?_
  rotate_left
  · rintro w' ⟨s0, s1, s2, s3, s4⟩
    go_simp
    with_reducible rfl
  rotate_left
  · simp only [Act.put, List.setIfInBounds_toArray, List.set_cons_zero, List.set_cons_succ, i64_w, i32_w]
    rfl
  refine join_ (σ := Nat × Nat × Nat × Option Addr × Nat × Nat × Nat × Option Addr × Nat) 2 #[true, true, true, true, true, true, true, true, true, true, true, false, false] (fun s_ => [(89, .agg #[.slice s_.2.2.2.2.2.2.2.1 r2_0.length s_.2.2.2.2.2.2.2.2]), (91, .agg #[.int .i64 r3_0, .int .i64 r3_1, .int .i64 r3_2, .int .i64 r3_3]), (94, .tuple #[.agg #[.slice s_.2.2.2.1 r4_0.length s_.2.2.2.2.1], .bool r4_1]), (18, .pointer (some ⟨s_.1, 0, none⟩)), (87, .tuple #[.agg #[.slice s_.2.2.2.1 r4_0.length s_.2.2.2.2.1], .bool r4_1]), (95, .agg #[.slice s_.2.2.2.1 r4_0.length s_.2.2.2.2.1]), (96, .bool r4_1)]) (fun s_ w' => (w'.cell? ⟨g1, 0, none⟩ = some (.slice A0_0 l0_0.length c0_0) ∧ w'.cell? ⟨g2, 0, none⟩ = some (.int .i64 a1_0) ∧ w'.cell? ⟨g2, 1, none⟩ = some (.int .i64 a1_1) ∧ w'.cell? ⟨g2, 2, none⟩ = some (.int .i64 a1_2) ∧ w'.cell? ⟨g2, 3, none⟩ = some (.int .i64 a1_3)) ∧ (Stk w [⟨s_.1, s_.1 + 1, bx s_.1 #[.slice none 0 0] 33⟩, ⟨s_.2.1, s_.2.2.1, fun w_ => Kd.S (Kd.slice 5 (Kd.int .u8)) 67 w_ w.heap.size (fun k_ => s_.2.1 ≤ k_ ∧ k_ < s_.2.2.1) (.slice s_.2.2.2.1 r4_0.length s_.2.2.2.2.1) r4_0⟩, ⟨s_.2.2.2.2.2.1, s_.2.2.2.2.2.2.1, fun w_ => Kd.S (Kd.slice 5 (Kd.int .u8)) 67 w_ w.heap.size (fun k_ => s_.2.2.2.2.2.1 ≤ k_ ∧ k_ < s_.2.2.2.2.2.2.1) (.slice s_.2.2.2.2.2.2.2.1 r2_0.length s_.2.2.2.2.2.2.2.2) r2_0⟩, ⟨lo94, hi94, fun w_ => Kd.S (Kd.slice 5 (Kd.int .u8)) 67 w_ w.heap.size (fun k_ => lo94 ≤ k_ ∧ k_ < hi94) (.slice A94_0 r2_0.length c94_0) r2_0⟩, ⟨g80, g80 + 1, bx g80 #[.slice A68_0 r4_0.length c68_0] 33⟩, ⟨lo68, hi68, fun w_ => Kd.S (Kd.slice 5 (Kd.int .u8)) 67 w_ w.heap.size (fun k_ => lo68 ≤ k_ ∧ k_ < hi68) (.slice A68_0 r4_0.length c68_0) r9_1⟩, ⟨g49, g49 + 1, bx g49 #[.slice A48_0 r2_0.length c48_0] 33⟩, ⟨lo48, hi48, fun w_ => Kd.S (Kd.slice 5 (Kd.int .u8)) 67 w_ w.heap.size (fun k_ => lo48 ≤ k_ ∧ k_ < hi48) (.slice A48_0 r2_0.length c48_0) r8_1⟩, ⟨g36, g36 + 1, bx g36 #[.slice A24_0 r4_0.length c24_0] 33⟩, ⟨lo24, hi24, fun w_ => Kd.S (Kd.slice 5 (Kd.int .u8)) 67 w_ w.heap.size (fun k_ => lo24 ≤ k_ ∧ k_ < hi24) (.slice A24_0 r4_0.length c24_0) r4_0⟩, ⟨lo9, hi9, fun w_ => Kd.S (Kd.slice 5 (Kd.int .u8)) 67 w_ w.heap.size (fun k_ => lo9 ≤ k_ ∧ k_ < hi9) (.slice A9_0 r2_0.length c9_0) r2_0⟩, ⟨g2, g2 + 1, bx g2 #[.int .i64 a1_0, .int .i64 a1_1, .int .i64 a1_2, .int .i64 a1_3] 54⟩, ⟨g1, g1 + 1, bx g1 #[.slice A0_0 l0_0.length c0_0] 31⟩] w')) ?_ ?_
  rotate_left
  · intro hJ1_3_6_10
    refine join_ (σ := Nat × Nat × Option Addr × Nat × Nat × Nat × Option Addr × Nat) 3 #[true, true, true, true, true, true, true, true, true, true, false, false, false] (fun s_ => [(89, .agg #[.slice s_.2.2.2.2.2.2.1 r2_0.length s_.2.2.2.2.2.2.2]), (91, .agg #[.int .i64 r3_0, .int .i64 r3_1, .int .i64 r3_2, .int .i64 r3_3]), (94, .tuple #[.agg #[.slice s_.2.2.1 r4_0.length s_.2.2.2.1], .bool r4_1]), (87, .tuple #[.agg #[.slice s_.2.2.1 r4_0.length s_.2.2.2.1], .bool r4_1]), (95, .agg #[.slice s_.2.2.1 r4_0.length s_.2.2.2.1]), (96, .bool r4_1)]) (fun s_ w' => (w'.cell? ⟨g1, 0, none⟩ = some (.slice A0_0 l0_0.length c0_0) ∧ w'.cell? ⟨g2, 0, none⟩ = some (.int .i64 a1_0) ∧ w'.cell? ⟨g2, 1, none⟩ = some (.int .i64 a1_1) ∧ w'.cell? ⟨g2, 2, none⟩ = some (.int .i64 a1_2) ∧ w'.cell? ⟨g2, 3, none⟩ = some (.int .i64 a1_3)) ∧ (Stk w [⟨s_.1, s_.2.1, fun w_ => Kd.S (Kd.slice 5 (Kd.int .u8)) 67 w_ w.heap.size (fun k_ => s_.1 ≤ k_ ∧ k_ < s_.2.1) (.slice s_.2.2.1 r4_0.length s_.2.2.2.1) r4_0⟩, ⟨s_.2.2.2.2.1, s_.2.2.2.2.2.1, fun w_ => Kd.S (Kd.slice 5 (Kd.int .u8)) 67 w_ w.heap.size (fun k_ => s_.2.2.2.2.1 ≤ k_ ∧ k_ < s_.2.2.2.2.2.1) (.slice s_.2.2.2.2.2.2.1 r2_0.length s_.2.2.2.2.2.2.2) r2_0⟩, ⟨lo94, hi94, fun w_ => Kd.S (Kd.slice 5 (Kd.int .u8)) 67 w_ w.heap.size (fun k_ => lo94 ≤ k_ ∧ k_ < hi94) (.slice A94_0 r2_0.length c94_0) r2_0⟩, ⟨g80, g80 + 1, bx g80 #[.slice A68_0 r4_0.length c68_0] 33⟩, ⟨lo68, hi68, fun w_ => Kd.S (Kd.slice 5 (Kd.int .u8)) 67 w_ w.heap.size (fun k_ => lo68 ≤ k_ ∧ k_ < hi68) (.slice A68_0 r4_0.length c68_0) r9_1⟩, ⟨g49, g49 + 1, bx g49 #[.slice A48_0 r2_0.length c48_0] 33⟩, ⟨lo48, hi48, fun w_ => Kd.S (Kd.slice 5 (Kd.int .u8)) 67 w_ w.heap.size (fun k_ => lo48 ≤ k_ ∧ k_ < hi48) (.slice A48_0 r2_0.length c48_0) r8_1⟩, ⟨g36, g36 + 1, bx g36 #[.slice A24_0 r4_0.length c24_0] 33⟩, ⟨lo24, hi24, fun w_ => Kd.S (Kd.slice 5 (Kd.int .u8)) 67 w_ w.heap.size (fun k_ => lo24 ≤ k_ ∧ k_ < hi24) (.slice A24_0 r4_0.length c24_0) r4_0⟩, ⟨lo9, hi9, fun w_ => Kd.S (Kd.slice 5 (Kd.int .u8)) 67 w_ w.heap.size (fun k_ => lo9 ≤ k_ ∧ k_ < hi9) (.slice A9_0 r2_0.length c9_0) r2_0⟩, ⟨g2, g2 + 1, bx g2 #[.int .i64 a1_0, .int .i64 a1_1, .int .i64 a1_2, .int .i64 a1_3] 54⟩, ⟨g1, g1 + 1, bx g1 #[.slice A0_0 l0_0.length c0_0] 31⟩] w')) ?_ ?_
    rotate_left
    · intro hJ1_3_6
      refine join_ (σ := Nat × Nat × Nat × Option Addr × Nat) 6 #[true, true, true, true, true, true, false, false, false, false, true, false, false] (fun s_ => [(89, .agg #[.slice s_.2.2.2.1 r2_0.length s_.2.2.2.2]), (91, .agg #[.int .i64 r3_0, .int .i64 r3_1, .int .i64 r3_2, .int .i64 r3_3]), (18, .pointer (some ⟨s_.1, 0, none⟩))]) (fun s_ w' => (w'.cell? ⟨g1, 0, none⟩ = some (.slice A0_0 l0_0.length c0_0) ∧ w'.cell? ⟨g2, 0, none⟩ = some (.int .i64 a1_0) ∧ w'.cell? ⟨g2, 1, none⟩ = some (.int .i64 a1_1) ∧ w'.cell? ⟨g2, 2, none⟩ = some (.int .i64 a1_2) ∧ w'.cell? ⟨g2, 3, none⟩ = some (.int .i64 a1_3)) ∧ (Stk w [⟨s_.1, s_.1 + 1, bx s_.1 #[.slice none 0 0] 33⟩, ⟨s_.2.1, s_.2.2.1, fun w_ => Kd.S (Kd.slice 5 (Kd.int .u8)) 67 w_ w.heap.size (fun k_ => s_.2.1 ≤ k_ ∧ k_ < s_.2.2.1) (.slice s_.2.2.2.1 r2_0.length s_.2.2.2.2) r2_0⟩, ⟨lo94, hi94, fun w_ => Kd.S (Kd.slice 5 (Kd.int .u8)) 67 w_ w.heap.size (fun k_ => lo94 ≤ k_ ∧ k_ < hi94) (.slice A94_0 r2_0.length c94_0) r2_0⟩, ⟨g80, g80 + 1, bx g80 #[.slice A68_0 r4_0.length c68_0] 33⟩, ⟨lo68, hi68, fun w_ => Kd.S (Kd.slice 5 (Kd.int .u8)) 67 w_ w.heap.size (fun k_ => lo68 ≤ k_ ∧ k_ < hi68) (.slice A68_0 r4_0.length c68_0) r9_1⟩, ⟨g49, g49 + 1, bx g49 #[.slice A48_0 r2_0.length c48_0] 33⟩, ⟨lo48, hi48, fun w_ => Kd.S (Kd.slice 5 (Kd.int .u8)) 67 w_ w.heap.size (fun k_ => lo48 ≤ k_ ∧ k_ < hi48) (.slice A48_0 r2_0.length c48_0) r8_1⟩, ⟨g36, g36 + 1, bx g36 #[.slice A24_0 r4_0.length c24_0] 33⟩, ⟨lo24, hi24, fun w_ => Kd.S (Kd.slice 5 (Kd.int .u8)) 67 w_ w.heap.size (fun k_ => lo24 ≤ k_ ∧ k_ < hi24) (.slice A24_0 r4_0.length c24_0) r4_0⟩, ⟨lo9, hi9, fun w_ => Kd.S (Kd.slice 5 (Kd.int .u8)) 67 w_ w.heap.size (fun k_ => lo9 ≤ k_ ∧ k_ < hi9) (.slice A9_0 r2_0.length c9_0) r2_0⟩, ⟨g2, g2 + 1, bx g2 #[.int .i64 a1_0, .int .i64 a1_1, .int .i64 a1_2, .int .i64 a1_3] 54⟩, ⟨g1, g1 + 1, bx g1 #[.slice A0_0 l0_0.length c0_0] 31⟩] w')) ?_ ?_
      rotate_left
      · intro hJ1_3_10
        refine join_ (σ := Nat × Nat × Option Addr × Nat) 7 #[true, true, true, true, true, true, false, false, false, false, false, false, false] (fun s_ => [(89, .agg #[.slice s_.2.2.1 r2_0.length s_.2.2.2]), (91, .agg #[.int .i64 r3_0, .int .i64 r3_1, .int .i64 r3_2, .int .i64 r3_3])]) (fun s_ w' => (w'.cell? ⟨g1, 0, none⟩ = some (.slice A0_0 l0_0.length c0_0) ∧ w'.cell? ⟨g2, 0, none⟩ = some (.int .i64 a1_0) ∧ w'.cell? ⟨g2, 1, none⟩ = some (.int .i64 a1_1) ∧ w'.cell? ⟨g2, 2, none⟩ = some (.int .i64 a1_2) ∧ w'.cell? ⟨g2, 3, none⟩ = some (.int .i64 a1_3)) ∧ (Stk w [⟨s_.1, s_.2.1, fun w_ => Kd.S (Kd.slice 5 (Kd.int .u8)) 67 w_ w.heap.size (fun k_ => s_.1 ≤ k_ ∧ k_ < s_.2.1) (.slice s_.2.2.1 r2_0.length s_.2.2.2) r2_0⟩, ⟨lo94, hi94, fun w_ => Kd.S (Kd.slice 5 (Kd.int .u8)) 67 w_ w.heap.size (fun k_ => lo94 ≤ k_ ∧ k_ < hi94) (.slice A94_0 r2_0.length c94_0) r2_0⟩, ⟨g80, g80 + 1, bx g80 #[.slice A68_0 r4_0.length c68_0] 33⟩, ⟨lo68, hi68, fun w_ => Kd.S (Kd.slice 5 (Kd.int .u8)) 67 w_ w.heap.size (fun k_ => lo68 ≤ k_ ∧ k_ < hi68) (.slice A68_0 r4_0.length c68_0) r9_1⟩, ⟨g49, g49 + 1, bx g49 #[.slice A48_0 r2_0.length c48_0] 33⟩, ⟨lo48, hi48, fun w_ => Kd.S (Kd.slice 5 (Kd.int .u8)) 67 w_ w.heap.size (fun k_ => lo48 ≤ k_ ∧ k_ < hi48) (.slice A48_0 r2_0.length c48_0) r8_1⟩, ⟨g36, g36 + 1, bx g36 #[.slice A24_0 r4_0.length c24_0] 33⟩, ⟨lo24, hi24, fun w_ => Kd.S (Kd.slice 5 (Kd.int .u8)) 67 w_ w.heap.size (fun k_ => lo24 ≤ k_ ∧ k_ < hi24) (.slice A24_0 r4_0.length c24_0) r4_0⟩, ⟨lo9, hi9, fun w_ => Kd.S (Kd.slice 5 (Kd.int .u8)) 67 w_ w.heap.size (fun k_ => lo9 ≤ k_ ∧ k_ < hi9) (.slice A9_0 r2_0.length c9_0) r2_0⟩, ⟨g2, g2 + 1, bx g2 #[.int .i64 a1_0, .int .i64 a1_1, .int .i64 a1_2, .int .i64 a1_3] 54⟩, ⟨g1, g1 + 1, bx g1 #[.slice A0_0 l0_0.length c0_0] 31⟩] w')) ?_ ?_
        rotate_left
        · intro hJ1_3
          refine join_ (σ := Nat × Nat × Nat × Option Addr × Nat) 7 #[true, true, true, false, true, true, false, false, false, false, true, false, false] (fun s_ => [(89, .agg #[.slice s_.2.2.2.1 r2_0.length s_.2.2.2.2]), (18, .pointer (some ⟨s_.1, 0, none⟩))]) (fun s_ w' => (w'.cell? ⟨g1, 0, none⟩ = some (.slice A0_0 l0_0.length c0_0) ∧ w'.cell? ⟨g2, 0, none⟩ = some (.int .i64 a1_0) ∧ w'.cell? ⟨g2, 1, none⟩ = some (.int .i64 a1_1) ∧ w'.cell? ⟨g2, 2, none⟩ = some (.int .i64 a1_2) ∧ w'.cell? ⟨g2, 3, none⟩ = some (.int .i64 a1_3)) ∧ (Stk w [⟨s_.1, s_.1 + 1, bx s_.1 #[.slice none 0 0] 33⟩, ⟨s_.2.1, s_.2.2.1, fun w_ => Kd.S (Kd.slice 5 (Kd.int .u8)) 67 w_ w.heap.size (fun k_ => s_.2.1 ≤ k_ ∧ k_ < s_.2.2.1) (.slice s_.2.2.2.1 r2_0.length s_.2.2.2.2) r2_0⟩, ⟨lo94, hi94, fun w_ => Kd.S (Kd.slice 5 (Kd.int .u8)) 67 w_ w.heap.size (fun k_ => lo94 ≤ k_ ∧ k_ < hi94) (.slice A94_0 r2_0.length c94_0) r2_0⟩, ⟨g80, g80 + 1, bx g80 #[.slice A68_0 r4_0.length c68_0] 33⟩, ⟨lo68, hi68, fun w_ => Kd.S (Kd.slice 5 (Kd.int .u8)) 67 w_ w.heap.size (fun k_ => lo68 ≤ k_ ∧ k_ < hi68) (.slice A68_0 r4_0.length c68_0) r9_1⟩, ⟨g49, g49 + 1, bx g49 #[.slice A48_0 r2_0.length c48_0] 33⟩, ⟨lo48, hi48, fun w_ => Kd.S (Kd.slice 5 (Kd.int .u8)) 67 w_ w.heap.size (fun k_ => lo48 ≤ k_ ∧ k_ < hi48) (.slice A48_0 r2_0.length c48_0) r8_1⟩, ⟨g36, g36 + 1, bx g36 #[.slice A24_0 r4_0.length c24_0] 33⟩, ⟨lo24, hi24, fun w_ => Kd.S (Kd.slice 5 (Kd.int .u8)) 67 w_ w.heap.size (fun k_ => lo24 ≤ k_ ∧ k_ < hi24) (.slice A24_0 r4_0.length c24_0) r4_0⟩, ⟨lo9, hi9, fun w_ => Kd.S (Kd.slice 5 (Kd.int .u8)) 67 w_ w.heap.size (fun k_ => lo9 ≤ k_ ∧ k_ < hi9) (.slice A9_0 r2_0.length c9_0) r2_0⟩, ⟨g2, g2 + 1, bx g2 #[.int .i64 a1_0, .int .i64 a1_1, .int .i64 a1_2, .int .i64 a1_3] 54⟩, ⟨g1, g1 + 1, bx g1 #[.slice A0_0 l0_0.length c0_0] 31⟩] w')) ?_ ?_
          rotate_left
          · intro hJ1_10
            refine join_ (σ := Nat × Nat × Option Addr × Nat) 8 #[true, true, true, false, true, true, false, false, false, false, false, false, false] (fun s_ => [(89, .agg #[.slice s_.2.2.1 r2_0.length s_.2.2.2])]) (fun s_ w' => (w'.cell? ⟨g1, 0, none⟩ = some (.slice A0_0 l0_0.length c0_0) ∧ w'.cell? ⟨g2, 0, none⟩ = some (.int .i64 a1_0) ∧ w'.cell? ⟨g2, 1, none⟩ = some (.int .i64 a1_1) ∧ w'.cell? ⟨g2, 2, none⟩ = some (.int .i64 a1_2) ∧ w'.cell? ⟨g2, 3, none⟩ = some (.int .i64 a1_3)) ∧ (Stk w [⟨s_.1, s_.2.1, fun w_ => Kd.S (Kd.slice 5 (Kd.int .u8)) 67 w_ w.heap.size (fun k_ => s_.1 ≤ k_ ∧ k_ < s_.2.1) (.slice s_.2.2.1 r2_0.length s_.2.2.2) r2_0⟩, ⟨lo94, hi94, fun w_ => Kd.S (Kd.slice 5 (Kd.int .u8)) 67 w_ w.heap.size (fun k_ => lo94 ≤ k_ ∧ k_ < hi94) (.slice A94_0 r2_0.length c94_0) r2_0⟩, ⟨g80, g80 + 1, bx g80 #[.slice A68_0 r4_0.length c68_0] 33⟩, ⟨lo68, hi68, fun w_ => Kd.S (Kd.slice 5 (Kd.int .u8)) 67 w_ w.heap.size (fun k_ => lo68 ≤ k_ ∧ k_ < hi68) (.slice A68_0 r4_0.length c68_0) r9_1⟩, ⟨g49, g49 + 1, bx g49 #[.slice A48_0 r2_0.length c48_0] 33⟩, ⟨lo48, hi48, fun w_ => Kd.S (Kd.slice 5 (Kd.int .u8)) 67 w_ w.heap.size (fun k_ => lo48 ≤ k_ ∧ k_ < hi48) (.slice A48_0 r2_0.length c48_0) r8_1⟩, ⟨g36, g36 + 1, bx g36 #[.slice A24_0 r4_0.length c24_0] 33⟩, ⟨lo24, hi24, fun w_ => Kd.S (Kd.slice 5 (Kd.int .u8)) 67 w_ w.heap.size (fun k_ => lo24 ≤ k_ ∧ k_ < hi24) (.slice A24_0 r4_0.length c24_0) r4_0⟩, ⟨lo9, hi9, fun w_ => Kd.S (Kd.slice 5 (Kd.int .u8)) 67 w_ w.heap.size (fun k_ => lo9 ≤ k_ ∧ k_ < hi9) (.slice A9_0 r2_0.length c9_0) r2_0⟩, ⟨g2, g2 + 1, bx g2 #[.int .i64 a1_0, .int .i64 a1_1, .int .i64 a1_2, .int .i64 a1_3] 54⟩, ⟨g1, g1 + 1, bx g1 #[.slice A0_0 l0_0.length c0_0] 31⟩] w')) ?_ ?_
            rotate_left
            · intro hJ1
              refine join_ (σ := Nat) 8 #[true, false, true, false, true, true, false, false, false, false, true, false, false] (fun s_ => [(18, .pointer (some ⟨s_, 0, none⟩))]) (fun s_ w' => (w'.cell? ⟨g1, 0, none⟩ = some (.slice A0_0 l0_0.length c0_0) ∧ w'.cell? ⟨g2, 0, none⟩ = some (.int .i64 a1_0) ∧ w'.cell? ⟨g2, 1, none⟩ = some (.int .i64 a1_1) ∧ w'.cell? ⟨g2, 2, none⟩ = some (.int .i64 a1_2) ∧ w'.cell? ⟨g2, 3, none⟩ = some (.int .i64 a1_3)) ∧ (Stk w [⟨s_, s_ + 1, bx s_ #[.slice none 0 0] 33⟩, ⟨lo94, hi94, fun w_ => Kd.S (Kd.slice 5 (Kd.int .u8)) 67 w_ w.heap.size (fun k_ => lo94 ≤ k_ ∧ k_ < hi94) (.slice A94_0 r2_0.length c94_0) r2_0⟩, ⟨g80, g80 + 1, bx g80 #[.slice A68_0 r4_0.length c68_0] 33⟩, ⟨lo68, hi68, fun w_ => Kd.S (Kd.slice 5 (Kd.int .u8)) 67 w_ w.heap.size (fun k_ => lo68 ≤ k_ ∧ k_ < hi68) (.slice A68_0 r4_0.length c68_0) r9_1⟩, ⟨g49, g49 + 1, bx g49 #[.slice A48_0 r2_0.length c48_0] 33⟩, ⟨lo48, hi48, fun w_ => Kd.S (Kd.slice 5 (Kd.int .u8)) 67 w_ w.heap.size (fun k_ => lo48 ≤ k_ ∧ k_ < hi48) (.slice A48_0 r2_0.length c48_0) r8_1⟩, ⟨g36, g36 + 1, bx g36 #[.slice A24_0 r4_0.length c24_0] 33⟩, ⟨lo24, hi24, fun w_ => Kd.S (Kd.slice 5 (Kd.int .u8)) 67 w_ w.heap.size (fun k_ => lo24 ≤ k_ ∧ k_ < hi24) (.slice A24_0 r4_0.length c24_0) r4_0⟩, ⟨lo9, hi9, fun w_ => Kd.S (Kd.slice 5 (Kd.int .u8)) 67 w_ w.heap.size (fun k_ => lo9 ≤ k_ ∧ k_ < hi9) (.slice A9_0 r2_0.length c9_0) r2_0⟩, ⟨g2, g2 + 1, bx g2 #[.int .i64 a1_0, .int .i64 a1_1, .int .i64 a1_2, .int .i64 a1_3] 54⟩, ⟨g1, g1 + 1, bx g1 #[.slice A0_0 l0_0.length c0_0] 31⟩] w')) ?_ ?_
              rotate_left
              · intro hJ10
                refine two_ (i := 1) (j := 10) (Ni := some 89) (Nj := some 18) #[true, true, true, false, true, true, false, false, false, false, false, false, false] #[true, false, true, false, true, true, false, false, false, false, true, false, false] rfl rfl rfl rfl (by kernel_rfl) (by decide) (by decide) (fun K hK => ?_) (fun K hK => ?_)
                · skip
                  refine goes_ Try.func21 (by kernel_rfl) rfl #[.agg #[.slice A0_0 l0_0.length c0_0]] (by rfl) rfl rfl (by (try simp only [List.map_toArray, List.map_cons, List.map_nil]); first | done | rfl) ?_
                  (refine (laws_toMemory.calls _ _ _ _ _ ?side1 ?side2 H2.out).mono ?_)
                  (case side1 => exact Kd.C_below HR0_0.out HS100.out.hb)
                  (case side2 => exact HC0_0.out)
                  rintro e w105 ⟨v0_, rfl, ho0, hb⟩
                  refine ⟨_, rfl, ?_⟩
                  obtain ⟨A105_0, c105_0, e105_0⟩ := Kd.S_slice ho0
                  subst e105_0
                  obtain ⟨lo105, hi105, hst⟩ := HS100.out.push hb (P := fun lo_ hi_ w_ => Kd.S (Kd.slice 5 (Kd.int .u8)) 67 w_ w.heap.size (fun k_ => lo_ ≤ k_ ∧ k_ < hi_) (.slice A105_0 r2_0.length c105_0) r2_0) (fun w_ ha_ => S_held ho0 HS100.out.hb.size ha_)
                  have HS105 : Aside0 (Stk w [⟨lo105, hi105, fun w_ => Kd.S (Kd.slice 5 (Kd.int .u8)) 67 w_ w.heap.size (fun k_ => lo105 ≤ k_ ∧ k_ < hi105) (.slice A105_0 r2_0.length c105_0) r2_0⟩, ⟨lo94, hi94, fun w_ => Kd.S (Kd.slice 5 (Kd.int .u8)) 67 w_ w.heap.size (fun k_ => lo94 ≤ k_ ∧ k_ < hi94) (.slice A94_0 r2_0.length c94_0) r2_0⟩, ⟨g80, g80 + 1, bx g80 #[.slice A68_0 r4_0.length c68_0] 33⟩, ⟨lo68, hi68, fun w_ => Kd.S (Kd.slice 5 (Kd.int .u8)) 67 w_ w.heap.size (fun k_ => lo68 ≤ k_ ∧ k_ < hi68) (.slice A68_0 r4_0.length c68_0) r9_1⟩, ⟨g49, g49 + 1, bx g49 #[.slice A48_0 r2_0.length c48_0] 33⟩, ⟨lo48, hi48, fun w_ => Kd.S (Kd.slice 5 (Kd.int .u8)) 67 w_ w.heap.size (fun k_ => lo48 ≤ k_ ∧ k_ < hi48) (.slice A48_0 r2_0.length c48_0) r8_1⟩, ⟨g36, g36 + 1, bx g36 #[.slice A24_0 r4_0.length c24_0] 33⟩, ⟨lo24, hi24, fun w_ => Kd.S (Kd.slice 5 (Kd.int .u8)) 67 w_ w.heap.size (fun k_ => lo24 ≤ k_ ∧ k_ < hi24) (.slice A24_0 r4_0.length c24_0) r4_0⟩, ⟨lo9, hi9, fun w_ => Kd.S (Kd.slice 5 (Kd.int .u8)) 67 w_ w.heap.size (fun k_ => lo9 ≤ k_ ∧ k_ < hi9) (.slice A9_0 r2_0.length c9_0) r2_0⟩, ⟨g2, g2 + 1, bx g2 #[.int .i64 a1_0, .int .i64 a1_1, .int .i64 a1_2, .int .i64 a1_3] 54⟩, ⟨g1, g1 + 1, bx g1 #[.slice A0_0 l0_0.length c0_0] 31⟩] w105) := ⟨hst⟩
                  clear hst hb HS100 ho0
                  refine hK.out _ _ ⟨(blk_cell (show bx g1 #[.slice A0_0 l0_0.length c0_0] 31 w105 from HS105.out.get 10 rfl) 0).trans rfl, (blk_cell (show bx g2 #[.int .i64 a1_0, .int .i64 a1_1, .int .i64 a1_2, .int .i64 a1_3] 54 w105 from HS105.out.get 9 rfl) 0).trans rfl, (blk_cell (show bx g2 #[.int .i64 a1_0, .int .i64 a1_1, .int .i64 a1_2, .int .i64 a1_3] 54 w105 from HS105.out.get 9 rfl) 1).trans rfl, (blk_cell (show bx g2 #[.int .i64 a1_0, .int .i64 a1_1, .int .i64 a1_2, .int .i64 a1_3] 54 w105 from HS105.out.get 9 rfl) 2).trans rfl, (blk_cell (show bx g2 #[.int .i64 a1_0, .int .i64 a1_1, .int .i64 a1_2, .int .i64 a1_3] 54 w105 from HS105.out.get 9 rfl) 3).trans rfl⟩ (fun hHeld => ?_)
                  clear hK K
                  refine norm_ (a' := ?_) ?_ ?_
                  rotate_left
                  · show Act.put _ (some 89) _ = _
                    simp only [Act.put, List.setIfInBounds_toArray, List.set_cons_zero, List.set_cons_succ, i64_w, i32_w]
                    rfl
                  exact norm_ (by first | (simp only [putAll, Act.put, List.setIfInBounds_toArray, List.set_cons_zero, List.set_cons_succ]; done) | (simp only [putAll, Act.put, List.setIfInBounds_toArray, List.set_cons_zero, List.set_cons_succ]; rfl)) (hJ1 ⟨lo105, hi105, A105_0, c105_0⟩ _ ⟨hHeld, HS105.out⟩)
                · skip
                  refine box_step ?hg (N := 18) ?hd (cs := #[.slice none 0 0]) (t := 33) ?hr ?_
                  (case hd => rfl)
                  (case hg => rfl)
                  (case hr => first | (go_simp; done) | (go_simp; rfl))
                  intro g132 hg w132 hbox hb
                  have HS132 : Aside0 (Stk w [⟨g132, g132 + 1, bx g132 #[.slice none 0 0] 33⟩, ⟨lo94, hi94, fun w_ => Kd.S (Kd.slice 5 (Kd.int .u8)) 67 w_ w.heap.size (fun k_ => lo94 ≤ k_ ∧ k_ < hi94) (.slice A94_0 r2_0.length c94_0) r2_0⟩, ⟨g80, g80 + 1, bx g80 #[.slice A68_0 r4_0.length c68_0] 33⟩, ⟨lo68, hi68, fun w_ => Kd.S (Kd.slice 5 (Kd.int .u8)) 67 w_ w.heap.size (fun k_ => lo68 ≤ k_ ∧ k_ < hi68) (.slice A68_0 r4_0.length c68_0) r9_1⟩, ⟨g49, g49 + 1, bx g49 #[.slice A48_0 r2_0.length c48_0] 33⟩, ⟨lo48, hi48, fun w_ => Kd.S (Kd.slice 5 (Kd.int .u8)) 67 w_ w.heap.size (fun k_ => lo48 ≤ k_ ∧ k_ < hi48) (.slice A48_0 r2_0.length c48_0) r8_1⟩, ⟨g36, g36 + 1, bx g36 #[.slice A24_0 r4_0.length c24_0] 33⟩, ⟨lo24, hi24, fun w_ => Kd.S (Kd.slice 5 (Kd.int .u8)) 67 w_ w.heap.size (fun k_ => lo24 ≤ k_ ∧ k_ < hi24) (.slice A24_0 r4_0.length c24_0) r4_0⟩, ⟨lo9, hi9, fun w_ => Kd.S (Kd.slice 5 (Kd.int .u8)) 67 w_ w.heap.size (fun k_ => lo9 ≤ k_ ∧ k_ < hi9) (.slice A9_0 r2_0.length c9_0) r2_0⟩, ⟨g2, g2 + 1, bx g2 #[.int .i64 a1_0, .int .i64 a1_1, .int .i64 a1_2, .int .i64 a1_3] 54⟩, ⟨g1, g1 + 1, bx g1 #[.slice A0_0 l0_0.length c0_0] 31⟩] w132) := ⟨HS100.out.box hb hg hbox⟩
                  clear hb hbox hg HS100
                  refine hK.out _ _ ⟨(blk_cell (show bx g1 #[.slice A0_0 l0_0.length c0_0] 31 w132 from HS132.out.get 10 rfl) 0).trans rfl, (blk_cell (show bx g2 #[.int .i64 a1_0, .int .i64 a1_1, .int .i64 a1_2, .int .i64 a1_3] 54 w132 from HS132.out.get 9 rfl) 0).trans rfl, (blk_cell (show bx g2 #[.int .i64 a1_0, .int .i64 a1_1, .int .i64 a1_2, .int .i64 a1_3] 54 w132 from HS132.out.get 9 rfl) 1).trans rfl, (blk_cell (show bx g2 #[.int .i64 a1_0, .int .i64 a1_1, .int .i64 a1_2, .int .i64 a1_3] 54 w132 from HS132.out.get 9 rfl) 2).trans rfl, (blk_cell (show bx g2 #[.int .i64 a1_0, .int .i64 a1_1, .int .i64 a1_2, .int .i64 a1_3] 54 w132 from HS132.out.get 9 rfl) 3).trans rfl⟩ (fun hHeld => ?_)
                  clear hK K
                  refine norm_ (a' := ?_) ?_ ?_
                  rotate_left
                  · show Act.put _ (some 18) _ = _
                    simp only [Act.put, List.setIfInBounds_toArray, List.set_cons_zero, List.set_cons_succ, i64_w, i32_w]
                    rfl
                  exact norm_ (by first | (simp only [putAll, Act.put, List.setIfInBounds_toArray, List.set_cons_zero, List.set_cons_succ]; done) | (simp only [putAll, Act.put, List.setIfInBounds_toArray, List.set_cons_zero, List.set_cons_succ]; rfl)) (hJ10 g132 _ ⟨hHeld, HS132.out⟩)
              · skip
                rintro g132 wJ100_10 ⟨hS_, h0_⟩
                have HSJ100_10 : Aside0 (Stk w [⟨g132, g132 + 1, bx g132 #[.slice none 0 0] 33⟩, ⟨lo94, hi94, fun w_ => Kd.S (Kd.slice 5 (Kd.int .u8)) 67 w_ w.heap.size (fun k_ => lo94 ≤ k_ ∧ k_ < hi94) (.slice A94_0 r2_0.length c94_0) r2_0⟩, ⟨g80, g80 + 1, bx g80 #[.slice A68_0 r4_0.length c68_0] 33⟩, ⟨lo68, hi68, fun w_ => Kd.S (Kd.slice 5 (Kd.int .u8)) 67 w_ w.heap.size (fun k_ => lo68 ≤ k_ ∧ k_ < hi68) (.slice A68_0 r4_0.length c68_0) r9_1⟩, ⟨g49, g49 + 1, bx g49 #[.slice A48_0 r2_0.length c48_0] 33⟩, ⟨lo48, hi48, fun w_ => Kd.S (Kd.slice 5 (Kd.int .u8)) 67 w_ w.heap.size (fun k_ => lo48 ≤ k_ ∧ k_ < hi48) (.slice A48_0 r2_0.length c48_0) r8_1⟩, ⟨g36, g36 + 1, bx g36 #[.slice A24_0 r4_0.length c24_0] 33⟩, ⟨lo24, hi24, fun w_ => Kd.S (Kd.slice 5 (Kd.int .u8)) 67 w_ w.heap.size (fun k_ => lo24 ≤ k_ ∧ k_ < hi24) (.slice A24_0 r4_0.length c24_0) r4_0⟩, ⟨lo9, hi9, fun w_ => Kd.S (Kd.slice 5 (Kd.int .u8)) 67 w_ w.heap.size (fun k_ => lo9 ≤ k_ ∧ k_ < hi9) (.slice A9_0 r2_0.length c9_0) r2_0⟩, ⟨g2, g2 + 1, bx g2 #[.int .i64 a1_0, .int .i64 a1_1, .int .i64 a1_2, .int .i64 a1_3] 54⟩, ⟨g1, g1 + 1, bx g1 #[.slice A0_0 l0_0.length c0_0] 31⟩] wJ100_10) := ⟨h0_⟩
                clear h0_ HS100
                have hHeld : wJ100_10.cell? ⟨g1, 0, none⟩ = some (.slice A0_0 l0_0.length c0_0) ∧ wJ100_10.cell? ⟨g2, 0, none⟩ = some (.int .i64 a1_0) ∧ wJ100_10.cell? ⟨g2, 1, none⟩ = some (.int .i64 a1_1) ∧ wJ100_10.cell? ⟨g2, 2, none⟩ = some (.int .i64 a1_2) ∧ wJ100_10.cell? ⟨g2, 3, none⟩ = some (.int .i64 a1_3) := hS_
                refine norm_ (a' := ?_) ?_ ?_
                rotate_left
                · simp only [putAll, Act.put, List.setIfInBounds_toArray, List.set_cons_zero, List.set_cons_succ]
                  rfl
                refine one_ (i := 1) (N := some 89) #[true, true, true, false, true, true, false, false, false, false, true, false, false] rfl rfl (by kernel_rfl) (by decide) (fun K hK => ?_)
                refine goes_ Try.func21 (by kernel_rfl) rfl #[.agg #[.slice A0_0 l0_0.length c0_0]] (by rfl) rfl rfl (by (try simp only [List.map_toArray, List.map_cons, List.map_nil]); first | done | rfl) ?_
                (refine (laws_toMemory.calls _ _ _ _ _ ?side1 ?side2 H2.out).mono ?_)
                (case side1 => exact Kd.C_below HR0_0.out HSJ100_10.out.hb)
                (case side2 => exact HC0_0.out)
                rintro e w105 ⟨v0_, rfl, ho0, hb⟩
                refine ⟨_, rfl, ?_⟩
                obtain ⟨A105_0, c105_0, e105_0⟩ := Kd.S_slice ho0
                subst e105_0
                obtain ⟨lo105, hi105, hst⟩ := HSJ100_10.out.push hb (P := fun lo_ hi_ w_ => Kd.S (Kd.slice 5 (Kd.int .u8)) 67 w_ w.heap.size (fun k_ => lo_ ≤ k_ ∧ k_ < hi_) (.slice A105_0 r2_0.length c105_0) r2_0) (fun w_ ha_ => S_held ho0 HSJ100_10.out.hb.size ha_)
                have HS105 : Aside0 (Stk w [⟨lo105, hi105, fun w_ => Kd.S (Kd.slice 5 (Kd.int .u8)) 67 w_ w.heap.size (fun k_ => lo105 ≤ k_ ∧ k_ < hi105) (.slice A105_0 r2_0.length c105_0) r2_0⟩, ⟨g132, g132 + 1, bx g132 #[.slice none 0 0] 33⟩, ⟨lo94, hi94, fun w_ => Kd.S (Kd.slice 5 (Kd.int .u8)) 67 w_ w.heap.size (fun k_ => lo94 ≤ k_ ∧ k_ < hi94) (.slice A94_0 r2_0.length c94_0) r2_0⟩, ⟨g80, g80 + 1, bx g80 #[.slice A68_0 r4_0.length c68_0] 33⟩, ⟨lo68, hi68, fun w_ => Kd.S (Kd.slice 5 (Kd.int .u8)) 67 w_ w.heap.size (fun k_ => lo68 ≤ k_ ∧ k_ < hi68) (.slice A68_0 r4_0.length c68_0) r9_1⟩, ⟨g49, g49 + 1, bx g49 #[.slice A48_0 r2_0.length c48_0] 33⟩, ⟨lo48, hi48, fun w_ => Kd.S (Kd.slice 5 (Kd.int .u8)) 67 w_ w.heap.size (fun k_ => lo48 ≤ k_ ∧ k_ < hi48) (.slice A48_0 r2_0.length c48_0) r8_1⟩, ⟨g36, g36 + 1, bx g36 #[.slice A24_0 r4_0.length c24_0] 33⟩, ⟨lo24, hi24, fun w_ => Kd.S (Kd.slice 5 (Kd.int .u8)) 67 w_ w.heap.size (fun k_ => lo24 ≤ k_ ∧ k_ < hi24) (.slice A24_0 r4_0.length c24_0) r4_0⟩, ⟨lo9, hi9, fun w_ => Kd.S (Kd.slice 5 (Kd.int .u8)) 67 w_ w.heap.size (fun k_ => lo9 ≤ k_ ∧ k_ < hi9) (.slice A9_0 r2_0.length c9_0) r2_0⟩, ⟨g2, g2 + 1, bx g2 #[.int .i64 a1_0, .int .i64 a1_1, .int .i64 a1_2, .int .i64 a1_3] 54⟩, ⟨g1, g1 + 1, bx g1 #[.slice A0_0 l0_0.length c0_0] 31⟩] w105) := ⟨hst⟩
                clear hst hb HSJ100_10 ho0
                refine hK.out _ _ ⟨(blk_cell (show bx g1 #[.slice A0_0 l0_0.length c0_0] 31 w105 from HS105.out.get 11 rfl) 0).trans rfl, (blk_cell (show bx g2 #[.int .i64 a1_0, .int .i64 a1_1, .int .i64 a1_2, .int .i64 a1_3] 54 w105 from HS105.out.get 10 rfl) 0).trans rfl, (blk_cell (show bx g2 #[.int .i64 a1_0, .int .i64 a1_1, .int .i64 a1_2, .int .i64 a1_3] 54 w105 from HS105.out.get 10 rfl) 1).trans rfl, (blk_cell (show bx g2 #[.int .i64 a1_0, .int .i64 a1_1, .int .i64 a1_2, .int .i64 a1_3] 54 w105 from HS105.out.get 10 rfl) 2).trans rfl, (blk_cell (show bx g2 #[.int .i64 a1_0, .int .i64 a1_1, .int .i64 a1_2, .int .i64 a1_3] 54 w105 from HS105.out.get 10 rfl) 3).trans rfl⟩ (fun hHeld => ?_)
                clear hK K
                refine norm_ (a' := ?_) ?_ ?_
                rotate_left
                · show Act.put _ (some 89) _ = _
                  simp only [Act.put, List.setIfInBounds_toArray, List.set_cons_zero, List.set_cons_succ, i64_w, i32_w]
                  rfl
                exact norm_ (by first | (simp only [putAll, Act.put, List.setIfInBounds_toArray, List.set_cons_zero, List.set_cons_succ]; done) | (simp only [putAll, Act.put, List.setIfInBounds_toArray, List.set_cons_zero, List.set_cons_succ]; rfl)) (hJ1_10 ⟨g132, lo105, hi105, A105_0, c105_0⟩ _ ⟨hHeld, (HS105.out.front 1 rfl)⟩)
            · skip
              rintro ⟨lo105, hi105, A105_0, c105_0⟩ wJ100_1 ⟨hS_, h0_⟩
              have HSJ100_1 : Aside0 (Stk w [⟨lo105, hi105, fun w_ => Kd.S (Kd.slice 5 (Kd.int .u8)) 67 w_ w.heap.size (fun k_ => lo105 ≤ k_ ∧ k_ < hi105) (.slice A105_0 r2_0.length c105_0) r2_0⟩, ⟨lo94, hi94, fun w_ => Kd.S (Kd.slice 5 (Kd.int .u8)) 67 w_ w.heap.size (fun k_ => lo94 ≤ k_ ∧ k_ < hi94) (.slice A94_0 r2_0.length c94_0) r2_0⟩, ⟨g80, g80 + 1, bx g80 #[.slice A68_0 r4_0.length c68_0] 33⟩, ⟨lo68, hi68, fun w_ => Kd.S (Kd.slice 5 (Kd.int .u8)) 67 w_ w.heap.size (fun k_ => lo68 ≤ k_ ∧ k_ < hi68) (.slice A68_0 r4_0.length c68_0) r9_1⟩, ⟨g49, g49 + 1, bx g49 #[.slice A48_0 r2_0.length c48_0] 33⟩, ⟨lo48, hi48, fun w_ => Kd.S (Kd.slice 5 (Kd.int .u8)) 67 w_ w.heap.size (fun k_ => lo48 ≤ k_ ∧ k_ < hi48) (.slice A48_0 r2_0.length c48_0) r8_1⟩, ⟨g36, g36 + 1, bx g36 #[.slice A24_0 r4_0.length c24_0] 33⟩, ⟨lo24, hi24, fun w_ => Kd.S (Kd.slice 5 (Kd.int .u8)) 67 w_ w.heap.size (fun k_ => lo24 ≤ k_ ∧ k_ < hi24) (.slice A24_0 r4_0.length c24_0) r4_0⟩, ⟨lo9, hi9, fun w_ => Kd.S (Kd.slice 5 (Kd.int .u8)) 67 w_ w.heap.size (fun k_ => lo9 ≤ k_ ∧ k_ < hi9) (.slice A9_0 r2_0.length c9_0) r2_0⟩, ⟨g2, g2 + 1, bx g2 #[.int .i64 a1_0, .int .i64 a1_1, .int .i64 a1_2, .int .i64 a1_3] 54⟩, ⟨g1, g1 + 1, bx g1 #[.slice A0_0 l0_0.length c0_0] 31⟩] wJ100_1) := ⟨h0_⟩
              clear h0_ HS100
              have hHeld : wJ100_1.cell? ⟨g1, 0, none⟩ = some (.slice A0_0 l0_0.length c0_0) ∧ wJ100_1.cell? ⟨g2, 0, none⟩ = some (.int .i64 a1_0) ∧ wJ100_1.cell? ⟨g2, 1, none⟩ = some (.int .i64 a1_1) ∧ wJ100_1.cell? ⟨g2, 2, none⟩ = some (.int .i64 a1_2) ∧ wJ100_1.cell? ⟨g2, 3, none⟩ = some (.int .i64 a1_3) := hS_
              refine norm_ (a' := ?_) ?_ ?_
              rotate_left
              · simp only [putAll, Act.put, List.setIfInBounds_toArray, List.set_cons_zero, List.set_cons_succ]
                rfl
              refine two_ (i := 3) (j := 10) (Ni := some 91) (Nj := some 18) #[true, true, true, true, true, true, false, false, false, false, false, false, false] #[true, true, true, false, true, true, false, false, false, false, true, false, false] rfl rfl rfl rfl (by kernel_rfl) (by decide) (by decide) (fun K hK => ?_) (fun K hK => ?_)
              · skip
                refine goes_ Try.func33 (by kernel_rfl) rfl #[.agg #[.int .i64 a1_0, .int .i64 a1_1, .int .i64 a1_2, .int .i64 a1_3]] (by rfl) rfl rfl (by (try simp only [List.map_toArray, List.map_cons, List.map_nil]); first | done | rfl) ?_
                (refine (laws_toWindow.calls _ _ _ _ _ _ _ _ _ H3.out).mono ?_)
                rintro e w111 ⟨rfl, hb⟩
                refine ⟨_, rfl, ?_⟩
                have HS111 : Aside0 (Stk w [⟨lo105, hi105, fun w_ => Kd.S (Kd.slice 5 (Kd.int .u8)) 67 w_ w.heap.size (fun k_ => lo105 ≤ k_ ∧ k_ < hi105) (.slice A105_0 r2_0.length c105_0) r2_0⟩, ⟨lo94, hi94, fun w_ => Kd.S (Kd.slice 5 (Kd.int .u8)) 67 w_ w.heap.size (fun k_ => lo94 ≤ k_ ∧ k_ < hi94) (.slice A94_0 r2_0.length c94_0) r2_0⟩, ⟨g80, g80 + 1, bx g80 #[.slice A68_0 r4_0.length c68_0] 33⟩, ⟨lo68, hi68, fun w_ => Kd.S (Kd.slice 5 (Kd.int .u8)) 67 w_ w.heap.size (fun k_ => lo68 ≤ k_ ∧ k_ < hi68) (.slice A68_0 r4_0.length c68_0) r9_1⟩, ⟨g49, g49 + 1, bx g49 #[.slice A48_0 r2_0.length c48_0] 33⟩, ⟨lo48, hi48, fun w_ => Kd.S (Kd.slice 5 (Kd.int .u8)) 67 w_ w.heap.size (fun k_ => lo48 ≤ k_ ∧ k_ < hi48) (.slice A48_0 r2_0.length c48_0) r8_1⟩, ⟨g36, g36 + 1, bx g36 #[.slice A24_0 r4_0.length c24_0] 33⟩, ⟨lo24, hi24, fun w_ => Kd.S (Kd.slice 5 (Kd.int .u8)) 67 w_ w.heap.size (fun k_ => lo24 ≤ k_ ∧ k_ < hi24) (.slice A24_0 r4_0.length c24_0) r4_0⟩, ⟨lo9, hi9, fun w_ => Kd.S (Kd.slice 5 (Kd.int .u8)) 67 w_ w.heap.size (fun k_ => lo9 ≤ k_ ∧ k_ < hi9) (.slice A9_0 r2_0.length c9_0) r2_0⟩, ⟨g2, g2 + 1, bx g2 #[.int .i64 a1_0, .int .i64 a1_1, .int .i64 a1_2, .int .i64 a1_3] 54⟩, ⟨g1, g1 + 1, bx g1 #[.slice A0_0 l0_0.length c0_0] 31⟩] w111) := ⟨HSJ100_1.out.below hb⟩
                clear hb HSJ100_1
                refine hK.out _ _ ⟨(blk_cell (show bx g1 #[.slice A0_0 l0_0.length c0_0] 31 w111 from HS111.out.get 10 rfl) 0).trans rfl, (blk_cell (show bx g2 #[.int .i64 a1_0, .int .i64 a1_1, .int .i64 a1_2, .int .i64 a1_3] 54 w111 from HS111.out.get 9 rfl) 0).trans rfl, (blk_cell (show bx g2 #[.int .i64 a1_0, .int .i64 a1_1, .int .i64 a1_2, .int .i64 a1_3] 54 w111 from HS111.out.get 9 rfl) 1).trans rfl, (blk_cell (show bx g2 #[.int .i64 a1_0, .int .i64 a1_1, .int .i64 a1_2, .int .i64 a1_3] 54 w111 from HS111.out.get 9 rfl) 2).trans rfl, (blk_cell (show bx g2 #[.int .i64 a1_0, .int .i64 a1_1, .int .i64 a1_2, .int .i64 a1_3] 54 w111 from HS111.out.get 9 rfl) 3).trans rfl⟩ (fun hHeld => ?_)
                clear hK K
                refine norm_ (a' := ?_) ?_ ?_
                rotate_left
                · show Act.put _ (some 91) _ = _
                  simp only [Act.put, List.setIfInBounds_toArray, List.set_cons_zero, List.set_cons_succ, i64_w, i32_w]
                  rfl
                exact norm_ (by first | (simp only [putAll, Act.put, List.setIfInBounds_toArray, List.set_cons_zero, List.set_cons_succ]; done) | (simp only [putAll, Act.put, List.setIfInBounds_toArray, List.set_cons_zero, List.set_cons_succ]; rfl)) (hJ1_3 ⟨lo105, hi105, A105_0, c105_0⟩ _ ⟨hHeld, HS111.out⟩)
              · skip
                refine box_step ?hg (N := 18) ?hd (cs := #[.slice none 0 0]) (t := 33) ?hr ?_
                (case hd => rfl)
                (case hg => rfl)
                (case hr => first | (go_simp; done) | (go_simp; rfl))
                intro g132 hg w132 hbox hb
                have HS132 : Aside0 (Stk w [⟨g132, g132 + 1, bx g132 #[.slice none 0 0] 33⟩, ⟨lo105, hi105, fun w_ => Kd.S (Kd.slice 5 (Kd.int .u8)) 67 w_ w.heap.size (fun k_ => lo105 ≤ k_ ∧ k_ < hi105) (.slice A105_0 r2_0.length c105_0) r2_0⟩, ⟨lo94, hi94, fun w_ => Kd.S (Kd.slice 5 (Kd.int .u8)) 67 w_ w.heap.size (fun k_ => lo94 ≤ k_ ∧ k_ < hi94) (.slice A94_0 r2_0.length c94_0) r2_0⟩, ⟨g80, g80 + 1, bx g80 #[.slice A68_0 r4_0.length c68_0] 33⟩, ⟨lo68, hi68, fun w_ => Kd.S (Kd.slice 5 (Kd.int .u8)) 67 w_ w.heap.size (fun k_ => lo68 ≤ k_ ∧ k_ < hi68) (.slice A68_0 r4_0.length c68_0) r9_1⟩, ⟨g49, g49 + 1, bx g49 #[.slice A48_0 r2_0.length c48_0] 33⟩, ⟨lo48, hi48, fun w_ => Kd.S (Kd.slice 5 (Kd.int .u8)) 67 w_ w.heap.size (fun k_ => lo48 ≤ k_ ∧ k_ < hi48) (.slice A48_0 r2_0.length c48_0) r8_1⟩, ⟨g36, g36 + 1, bx g36 #[.slice A24_0 r4_0.length c24_0] 33⟩, ⟨lo24, hi24, fun w_ => Kd.S (Kd.slice 5 (Kd.int .u8)) 67 w_ w.heap.size (fun k_ => lo24 ≤ k_ ∧ k_ < hi24) (.slice A24_0 r4_0.length c24_0) r4_0⟩, ⟨lo9, hi9, fun w_ => Kd.S (Kd.slice 5 (Kd.int .u8)) 67 w_ w.heap.size (fun k_ => lo9 ≤ k_ ∧ k_ < hi9) (.slice A9_0 r2_0.length c9_0) r2_0⟩, ⟨g2, g2 + 1, bx g2 #[.int .i64 a1_0, .int .i64 a1_1, .int .i64 a1_2, .int .i64 a1_3] 54⟩, ⟨g1, g1 + 1, bx g1 #[.slice A0_0 l0_0.length c0_0] 31⟩] w132) := ⟨HSJ100_1.out.box hb hg hbox⟩
                clear hb hbox hg HSJ100_1
                refine hK.out _ _ ⟨(blk_cell (show bx g1 #[.slice A0_0 l0_0.length c0_0] 31 w132 from HS132.out.get 11 rfl) 0).trans rfl, (blk_cell (show bx g2 #[.int .i64 a1_0, .int .i64 a1_1, .int .i64 a1_2, .int .i64 a1_3] 54 w132 from HS132.out.get 10 rfl) 0).trans rfl, (blk_cell (show bx g2 #[.int .i64 a1_0, .int .i64 a1_1, .int .i64 a1_2, .int .i64 a1_3] 54 w132 from HS132.out.get 10 rfl) 1).trans rfl, (blk_cell (show bx g2 #[.int .i64 a1_0, .int .i64 a1_1, .int .i64 a1_2, .int .i64 a1_3] 54 w132 from HS132.out.get 10 rfl) 2).trans rfl, (blk_cell (show bx g2 #[.int .i64 a1_0, .int .i64 a1_1, .int .i64 a1_2, .int .i64 a1_3] 54 w132 from HS132.out.get 10 rfl) 3).trans rfl⟩ (fun hHeld => ?_)
                clear hK K
                refine norm_ (a' := ?_) ?_ ?_
                rotate_left
                · show Act.put _ (some 18) _ = _
                  simp only [Act.put, List.setIfInBounds_toArray, List.set_cons_zero, List.set_cons_succ, i64_w, i32_w]
                  rfl
                exact norm_ (by first | (simp only [putAll, Act.put, List.setIfInBounds_toArray, List.set_cons_zero, List.set_cons_succ]; done) | (simp only [putAll, Act.put, List.setIfInBounds_toArray, List.set_cons_zero, List.set_cons_succ]; rfl)) (hJ1_10 ⟨g132, lo105, hi105, A105_0, c105_0⟩ _ ⟨hHeld, HS132.out⟩)
          · skip
            rintro ⟨g132, lo105, hi105, A105_0, c105_0⟩ wJ100_1_10 ⟨hS_, h0_⟩
            have HSJ100_1_10 : Aside0 (Stk w [⟨g132, g132 + 1, bx g132 #[.slice none 0 0] 33⟩, ⟨lo105, hi105, fun w_ => Kd.S (Kd.slice 5 (Kd.int .u8)) 67 w_ w.heap.size (fun k_ => lo105 ≤ k_ ∧ k_ < hi105) (.slice A105_0 r2_0.length c105_0) r2_0⟩, ⟨lo94, hi94, fun w_ => Kd.S (Kd.slice 5 (Kd.int .u8)) 67 w_ w.heap.size (fun k_ => lo94 ≤ k_ ∧ k_ < hi94) (.slice A94_0 r2_0.length c94_0) r2_0⟩, ⟨g80, g80 + 1, bx g80 #[.slice A68_0 r4_0.length c68_0] 33⟩, ⟨lo68, hi68, fun w_ => Kd.S (Kd.slice 5 (Kd.int .u8)) 67 w_ w.heap.size (fun k_ => lo68 ≤ k_ ∧ k_ < hi68) (.slice A68_0 r4_0.length c68_0) r9_1⟩, ⟨g49, g49 + 1, bx g49 #[.slice A48_0 r2_0.length c48_0] 33⟩, ⟨lo48, hi48, fun w_ => Kd.S (Kd.slice 5 (Kd.int .u8)) 67 w_ w.heap.size (fun k_ => lo48 ≤ k_ ∧ k_ < hi48) (.slice A48_0 r2_0.length c48_0) r8_1⟩, ⟨g36, g36 + 1, bx g36 #[.slice A24_0 r4_0.length c24_0] 33⟩, ⟨lo24, hi24, fun w_ => Kd.S (Kd.slice 5 (Kd.int .u8)) 67 w_ w.heap.size (fun k_ => lo24 ≤ k_ ∧ k_ < hi24) (.slice A24_0 r4_0.length c24_0) r4_0⟩, ⟨lo9, hi9, fun w_ => Kd.S (Kd.slice 5 (Kd.int .u8)) 67 w_ w.heap.size (fun k_ => lo9 ≤ k_ ∧ k_ < hi9) (.slice A9_0 r2_0.length c9_0) r2_0⟩, ⟨g2, g2 + 1, bx g2 #[.int .i64 a1_0, .int .i64 a1_1, .int .i64 a1_2, .int .i64 a1_3] 54⟩, ⟨g1, g1 + 1, bx g1 #[.slice A0_0 l0_0.length c0_0] 31⟩] wJ100_1_10) := ⟨h0_⟩
            clear h0_ HS100
            have hHeld : wJ100_1_10.cell? ⟨g1, 0, none⟩ = some (.slice A0_0 l0_0.length c0_0) ∧ wJ100_1_10.cell? ⟨g2, 0, none⟩ = some (.int .i64 a1_0) ∧ wJ100_1_10.cell? ⟨g2, 1, none⟩ = some (.int .i64 a1_1) ∧ wJ100_1_10.cell? ⟨g2, 2, none⟩ = some (.int .i64 a1_2) ∧ wJ100_1_10.cell? ⟨g2, 3, none⟩ = some (.int .i64 a1_3) := hS_
            refine norm_ (a' := ?_) ?_ ?_
            rotate_left
            · simp only [putAll, Act.put, List.setIfInBounds_toArray, List.set_cons_zero, List.set_cons_succ]
              rfl
            refine one_ (i := 3) (N := some 91) #[true, true, true, true, true, true, false, false, false, false, true, false, false] rfl rfl (by kernel_rfl) (by decide) (fun K hK => ?_)
            refine goes_ Try.func33 (by kernel_rfl) rfl #[.agg #[.int .i64 a1_0, .int .i64 a1_1, .int .i64 a1_2, .int .i64 a1_3]] (by rfl) rfl rfl (by (try simp only [List.map_toArray, List.map_cons, List.map_nil]); first | done | rfl) ?_
            (refine (laws_toWindow.calls _ _ _ _ _ _ _ _ _ H3.out).mono ?_)
            rintro e w111 ⟨rfl, hb⟩
            refine ⟨_, rfl, ?_⟩
            have HS111 : Aside0 (Stk w [⟨g132, g132 + 1, bx g132 #[.slice none 0 0] 33⟩, ⟨lo105, hi105, fun w_ => Kd.S (Kd.slice 5 (Kd.int .u8)) 67 w_ w.heap.size (fun k_ => lo105 ≤ k_ ∧ k_ < hi105) (.slice A105_0 r2_0.length c105_0) r2_0⟩, ⟨lo94, hi94, fun w_ => Kd.S (Kd.slice 5 (Kd.int .u8)) 67 w_ w.heap.size (fun k_ => lo94 ≤ k_ ∧ k_ < hi94) (.slice A94_0 r2_0.length c94_0) r2_0⟩, ⟨g80, g80 + 1, bx g80 #[.slice A68_0 r4_0.length c68_0] 33⟩, ⟨lo68, hi68, fun w_ => Kd.S (Kd.slice 5 (Kd.int .u8)) 67 w_ w.heap.size (fun k_ => lo68 ≤ k_ ∧ k_ < hi68) (.slice A68_0 r4_0.length c68_0) r9_1⟩, ⟨g49, g49 + 1, bx g49 #[.slice A48_0 r2_0.length c48_0] 33⟩, ⟨lo48, hi48, fun w_ => Kd.S (Kd.slice 5 (Kd.int .u8)) 67 w_ w.heap.size (fun k_ => lo48 ≤ k_ ∧ k_ < hi48) (.slice A48_0 r2_0.length c48_0) r8_1⟩, ⟨g36, g36 + 1, bx g36 #[.slice A24_0 r4_0.length c24_0] 33⟩, ⟨lo24, hi24, fun w_ => Kd.S (Kd.slice 5 (Kd.int .u8)) 67 w_ w.heap.size (fun k_ => lo24 ≤ k_ ∧ k_ < hi24) (.slice A24_0 r4_0.length c24_0) r4_0⟩, ⟨lo9, hi9, fun w_ => Kd.S (Kd.slice 5 (Kd.int .u8)) 67 w_ w.heap.size (fun k_ => lo9 ≤ k_ ∧ k_ < hi9) (.slice A9_0 r2_0.length c9_0) r2_0⟩, ⟨g2, g2 + 1, bx g2 #[.int .i64 a1_0, .int .i64 a1_1, .int .i64 a1_2, .int .i64 a1_3] 54⟩, ⟨g1, g1 + 1, bx g1 #[.slice A0_0 l0_0.length c0_0] 31⟩] w111) := ⟨HSJ100_1_10.out.below hb⟩
            clear hb HSJ100_1_10
            refine hK.out _ _ ⟨(blk_cell (show bx g1 #[.slice A0_0 l0_0.length c0_0] 31 w111 from HS111.out.get 11 rfl) 0).trans rfl, (blk_cell (show bx g2 #[.int .i64 a1_0, .int .i64 a1_1, .int .i64 a1_2, .int .i64 a1_3] 54 w111 from HS111.out.get 10 rfl) 0).trans rfl, (blk_cell (show bx g2 #[.int .i64 a1_0, .int .i64 a1_1, .int .i64 a1_2, .int .i64 a1_3] 54 w111 from HS111.out.get 10 rfl) 1).trans rfl, (blk_cell (show bx g2 #[.int .i64 a1_0, .int .i64 a1_1, .int .i64 a1_2, .int .i64 a1_3] 54 w111 from HS111.out.get 10 rfl) 2).trans rfl, (blk_cell (show bx g2 #[.int .i64 a1_0, .int .i64 a1_1, .int .i64 a1_2, .int .i64 a1_3] 54 w111 from HS111.out.get 10 rfl) 3).trans rfl⟩ (fun hHeld => ?_)
            clear hK K
            refine norm_ (a' := ?_) ?_ ?_
            rotate_left
            · show Act.put _ (some 91) _ = _
              simp only [Act.put, List.setIfInBounds_toArray, List.set_cons_zero, List.set_cons_succ, i64_w, i32_w]
              rfl
            exact norm_ (by first | (simp only [putAll, Act.put, List.setIfInBounds_toArray, List.set_cons_zero, List.set_cons_succ]; done) | (simp only [putAll, Act.put, List.setIfInBounds_toArray, List.set_cons_zero, List.set_cons_succ]; rfl)) (hJ1_3_10 ⟨g132, lo105, hi105, A105_0, c105_0⟩ _ ⟨hHeld, HS111.out⟩)
        · skip
          rintro ⟨lo105, hi105, A105_0, c105_0⟩ wJ100_1_3 ⟨hS_, h0_⟩
          have HSJ100_1_3 : Aside0 (Stk w [⟨lo105, hi105, fun w_ => Kd.S (Kd.slice 5 (Kd.int .u8)) 67 w_ w.heap.size (fun k_ => lo105 ≤ k_ ∧ k_ < hi105) (.slice A105_0 r2_0.length c105_0) r2_0⟩, ⟨lo94, hi94, fun w_ => Kd.S (Kd.slice 5 (Kd.int .u8)) 67 w_ w.heap.size (fun k_ => lo94 ≤ k_ ∧ k_ < hi94) (.slice A94_0 r2_0.length c94_0) r2_0⟩, ⟨g80, g80 + 1, bx g80 #[.slice A68_0 r4_0.length c68_0] 33⟩, ⟨lo68, hi68, fun w_ => Kd.S (Kd.slice 5 (Kd.int .u8)) 67 w_ w.heap.size (fun k_ => lo68 ≤ k_ ∧ k_ < hi68) (.slice A68_0 r4_0.length c68_0) r9_1⟩, ⟨g49, g49 + 1, bx g49 #[.slice A48_0 r2_0.length c48_0] 33⟩, ⟨lo48, hi48, fun w_ => Kd.S (Kd.slice 5 (Kd.int .u8)) 67 w_ w.heap.size (fun k_ => lo48 ≤ k_ ∧ k_ < hi48) (.slice A48_0 r2_0.length c48_0) r8_1⟩, ⟨g36, g36 + 1, bx g36 #[.slice A24_0 r4_0.length c24_0] 33⟩, ⟨lo24, hi24, fun w_ => Kd.S (Kd.slice 5 (Kd.int .u8)) 67 w_ w.heap.size (fun k_ => lo24 ≤ k_ ∧ k_ < hi24) (.slice A24_0 r4_0.length c24_0) r4_0⟩, ⟨lo9, hi9, fun w_ => Kd.S (Kd.slice 5 (Kd.int .u8)) 67 w_ w.heap.size (fun k_ => lo9 ≤ k_ ∧ k_ < hi9) (.slice A9_0 r2_0.length c9_0) r2_0⟩, ⟨g2, g2 + 1, bx g2 #[.int .i64 a1_0, .int .i64 a1_1, .int .i64 a1_2, .int .i64 a1_3] 54⟩, ⟨g1, g1 + 1, bx g1 #[.slice A0_0 l0_0.length c0_0] 31⟩] wJ100_1_3) := ⟨h0_⟩
          clear h0_ HS100
          have hHeld : wJ100_1_3.cell? ⟨g1, 0, none⟩ = some (.slice A0_0 l0_0.length c0_0) ∧ wJ100_1_3.cell? ⟨g2, 0, none⟩ = some (.int .i64 a1_0) ∧ wJ100_1_3.cell? ⟨g2, 1, none⟩ = some (.int .i64 a1_1) ∧ wJ100_1_3.cell? ⟨g2, 2, none⟩ = some (.int .i64 a1_2) ∧ wJ100_1_3.cell? ⟨g2, 3, none⟩ = some (.int .i64 a1_3) := hS_
          refine norm_ (a' := ?_) ?_ ?_
          rotate_left
          · simp only [putAll, Act.put, List.setIfInBounds_toArray, List.set_cons_zero, List.set_cons_succ]
            rfl
          refine two_ (i := 6) (j := 10) (Ni := some 94) (Nj := some 18) #[true, true, true, true, true, true, true, false, false, false, false, false, false] #[true, true, true, true, true, true, false, false, false, false, true, false, false] rfl rfl rfl rfl (by kernel_rfl) (by decide) (by decide) (fun K hK => ?_) (fun K hK => ?_)
          · skip
            refine goes_ Try.func34 (by kernel_rfl) rfl #[.agg #[.slice A105_0 r2_0.length c105_0], .agg #[.int .i64 r3_0, .int .i64 r3_1, .int .i64 r3_2, .int .i64 r3_3], .int .i64 a2_0, .int .u8 a3_0] (by rfl) rfl rfl (by (try simp only [List.map_toArray, List.map_cons, List.map_nil]); first | done | rfl) ?_
            (refine (impl_WriteAt.calls _ _ _ _ _ _ _ _ _ _ _ _ ?side1 ?side2 H5.out).mono ?_)
            (case side1 => exact (Kd.S_reads' ((show Kd.S (Kd.slice 5 (Kd.int .u8)) 67 wJ100_1_3 w.heap.size (fun k_ => lo105 ≤ k_ ∧ k_ < hi105) (.slice A105_0 r2_0.length c105_0) r2_0 from HSJ100_1_3.out.get 0 rfl))).2.2)
            (case side2 => exact (Kd.S_reads' ((show Kd.S (Kd.slice 5 (Kd.int .u8)) 67 wJ100_1_3 w.heap.size (fun k_ => lo105 ≤ k_ ∧ k_ < hi105) (.slice A105_0 r2_0.length c105_0) r2_0 from HSJ100_1_3.out.get 0 rfl))).2.1)
            rintro e w120 ⟨v0_, rfl, ho0, hb⟩
            refine ⟨_, rfl, ?_⟩
            obtain ⟨A120_0, c120_0, e120_0⟩ := Kd.S_slice ho0
            subst e120_0
            obtain ⟨lo120, hi120, hst⟩ := HSJ100_1_3.out.push hb (P := fun lo_ hi_ w_ => Kd.S (Kd.slice 5 (Kd.int .u8)) 67 w_ w.heap.size (fun k_ => lo_ ≤ k_ ∧ k_ < hi_) (.slice A120_0 r4_0.length c120_0) r4_0) (fun w_ ha_ => S_held ho0 HSJ100_1_3.out.hb.size ha_)
            have HS120 : Aside0 (Stk w [⟨lo120, hi120, fun w_ => Kd.S (Kd.slice 5 (Kd.int .u8)) 67 w_ w.heap.size (fun k_ => lo120 ≤ k_ ∧ k_ < hi120) (.slice A120_0 r4_0.length c120_0) r4_0⟩, ⟨lo105, hi105, fun w_ => Kd.S (Kd.slice 5 (Kd.int .u8)) 67 w_ w.heap.size (fun k_ => lo105 ≤ k_ ∧ k_ < hi105) (.slice A105_0 r2_0.length c105_0) r2_0⟩, ⟨lo94, hi94, fun w_ => Kd.S (Kd.slice 5 (Kd.int .u8)) 67 w_ w.heap.size (fun k_ => lo94 ≤ k_ ∧ k_ < hi94) (.slice A94_0 r2_0.length c94_0) r2_0⟩, ⟨g80, g80 + 1, bx g80 #[.slice A68_0 r4_0.length c68_0] 33⟩, ⟨lo68, hi68, fun w_ => Kd.S (Kd.slice 5 (Kd.int .u8)) 67 w_ w.heap.size (fun k_ => lo68 ≤ k_ ∧ k_ < hi68) (.slice A68_0 r4_0.length c68_0) r9_1⟩, ⟨g49, g49 + 1, bx g49 #[.slice A48_0 r2_0.length c48_0] 33⟩, ⟨lo48, hi48, fun w_ => Kd.S (Kd.slice 5 (Kd.int .u8)) 67 w_ w.heap.size (fun k_ => lo48 ≤ k_ ∧ k_ < hi48) (.slice A48_0 r2_0.length c48_0) r8_1⟩, ⟨g36, g36 + 1, bx g36 #[.slice A24_0 r4_0.length c24_0] 33⟩, ⟨lo24, hi24, fun w_ => Kd.S (Kd.slice 5 (Kd.int .u8)) 67 w_ w.heap.size (fun k_ => lo24 ≤ k_ ∧ k_ < hi24) (.slice A24_0 r4_0.length c24_0) r4_0⟩, ⟨lo9, hi9, fun w_ => Kd.S (Kd.slice 5 (Kd.int .u8)) 67 w_ w.heap.size (fun k_ => lo9 ≤ k_ ∧ k_ < hi9) (.slice A9_0 r2_0.length c9_0) r2_0⟩, ⟨g2, g2 + 1, bx g2 #[.int .i64 a1_0, .int .i64 a1_1, .int .i64 a1_2, .int .i64 a1_3] 54⟩, ⟨g1, g1 + 1, bx g1 #[.slice A0_0 l0_0.length c0_0] 31⟩] w120) := ⟨hst⟩
            clear hst hb HSJ100_1_3 ho0
            refine hK.out _ _ ⟨(blk_cell (show bx g1 #[.slice A0_0 l0_0.length c0_0] 31 w120 from HS120.out.get 11 rfl) 0).trans rfl, (blk_cell (show bx g2 #[.int .i64 a1_0, .int .i64 a1_1, .int .i64 a1_2, .int .i64 a1_3] 54 w120 from HS120.out.get 10 rfl) 0).trans rfl, (blk_cell (show bx g2 #[.int .i64 a1_0, .int .i64 a1_1, .int .i64 a1_2, .int .i64 a1_3] 54 w120 from HS120.out.get 10 rfl) 1).trans rfl, (blk_cell (show bx g2 #[.int .i64 a1_0, .int .i64 a1_1, .int .i64 a1_2, .int .i64 a1_3] 54 w120 from HS120.out.get 10 rfl) 2).trans rfl, (blk_cell (show bx g2 #[.int .i64 a1_0, .int .i64 a1_1, .int .i64 a1_2, .int .i64 a1_3] 54 w120 from HS120.out.get 10 rfl) 3).trans rfl⟩ (fun hHeld => ?_)
            clear hK K
            refine norm_ (a' := ?_) ?_ ?_
            rotate_left
            · show Act.put _ (some 94) _ = _
              simp only [Act.put, List.setIfInBounds_toArray, List.set_cons_zero, List.set_cons_succ, i64_w, i32_w]
              rfl
            refine pure_ (i := 7) (N := some 87) (v := ?_) (a' := ?_) #[true, true, true, true, true, true, true, true, false, false, false, false, false] rfl rfl (by kernel_rfl) (fun _ _ _ h => h) (Or.inl ⟨by rfl, ?_⟩) ?_ ?_
            rotate_left
            · intro w'
              go_simp
              with_reducible rfl
            rotate_left
            · simp only [Act.put, List.setIfInBounds_toArray, List.set_cons_zero, List.set_cons_succ, i64_w, i32_w]
              rfl
            refine pure_ (i := 8) (N := some 95) (v := ?_) (a' := ?_) #[true, true, true, true, true, true, true, true, true, false, false, false, false] rfl rfl (by kernel_rfl) (fun _ _ _ h => h) (Or.inl ⟨by rfl, ?_⟩) ?_ ?_
            rotate_left
            · intro w'
              go_simp
              with_reducible rfl
            rotate_left
            · simp only [Act.put, List.setIfInBounds_toArray, List.set_cons_zero, List.set_cons_succ, i64_w, i32_w]
              rfl
            refine pure_ (i := 9) (N := some 96) (v := ?_) (a' := ?_) #[true, true, true, true, true, true, true, true, true, true, false, false, false] rfl rfl (by kernel_rfl) (fun _ _ _ h => h) (Or.inl ⟨by rfl, ?_⟩) ?_ ?_
            rotate_left
            · intro w'
              go_simp
              with_reducible rfl
            rotate_left
            · simp only [Act.put, List.setIfInBounds_toArray, List.set_cons_zero, List.set_cons_succ, i64_w, i32_w]
              rfl
            exact norm_ (by first | (simp only [putAll, Act.put, List.setIfInBounds_toArray, List.set_cons_zero, List.set_cons_succ]; done) | (simp only [putAll, Act.put, List.setIfInBounds_toArray, List.set_cons_zero, List.set_cons_succ]; rfl)) (hJ1_3_6 ⟨lo120, hi120, A120_0, c120_0, lo105, hi105, A105_0, c105_0⟩ _ ⟨hHeld, HS120.out⟩)
          · skip
            refine box_step ?hg (N := 18) ?hd (cs := #[.slice none 0 0]) (t := 33) ?hr ?_
            (case hd => rfl)
            (case hg => rfl)
            (case hr => first | (go_simp; done) | (go_simp; rfl))
            intro g132 hg w132 hbox hb
            have HS132 : Aside0 (Stk w [⟨g132, g132 + 1, bx g132 #[.slice none 0 0] 33⟩, ⟨lo105, hi105, fun w_ => Kd.S (Kd.slice 5 (Kd.int .u8)) 67 w_ w.heap.size (fun k_ => lo105 ≤ k_ ∧ k_ < hi105) (.slice A105_0 r2_0.length c105_0) r2_0⟩, ⟨lo94, hi94, fun w_ => Kd.S (Kd.slice 5 (Kd.int .u8)) 67 w_ w.heap.size (fun k_ => lo94 ≤ k_ ∧ k_ < hi94) (.slice A94_0 r2_0.length c94_0) r2_0⟩, ⟨g80, g80 + 1, bx g80 #[.slice A68_0 r4_0.length c68_0] 33⟩, ⟨lo68, hi68, fun w_ => Kd.S (Kd.slice 5 (Kd.int .u8)) 67 w_ w.heap.size (fun k_ => lo68 ≤ k_ ∧ k_ < hi68) (.slice A68_0 r4_0.length c68_0) r9_1⟩, ⟨g49, g49 + 1, bx g49 #[.slice A48_0 r2_0.length c48_0] 33⟩, ⟨lo48, hi48, fun w_ => Kd.S (Kd.slice 5 (Kd.int .u8)) 67 w_ w.heap.size (fun k_ => lo48 ≤ k_ ∧ k_ < hi48) (.slice A48_0 r2_0.length c48_0) r8_1⟩, ⟨g36, g36 + 1, bx g36 #[.slice A24_0 r4_0.length c24_0] 33⟩, ⟨lo24, hi24, fun w_ => Kd.S (Kd.slice 5 (Kd.int .u8)) 67 w_ w.heap.size (fun k_ => lo24 ≤ k_ ∧ k_ < hi24) (.slice A24_0 r4_0.length c24_0) r4_0⟩, ⟨lo9, hi9, fun w_ => Kd.S (Kd.slice 5 (Kd.int .u8)) 67 w_ w.heap.size (fun k_ => lo9 ≤ k_ ∧ k_ < hi9) (.slice A9_0 r2_0.length c9_0) r2_0⟩, ⟨g2, g2 + 1, bx g2 #[.int .i64 a1_0, .int .i64 a1_1, .int .i64 a1_2, .int .i64 a1_3] 54⟩, ⟨g1, g1 + 1, bx g1 #[.slice A0_0 l0_0.length c0_0] 31⟩] w132) := ⟨HSJ100_1_3.out.box hb hg hbox⟩
            clear hb hbox hg HSJ100_1_3
            refine hK.out _ _ ⟨(blk_cell (show bx g1 #[.slice A0_0 l0_0.length c0_0] 31 w132 from HS132.out.get 11 rfl) 0).trans rfl, (blk_cell (show bx g2 #[.int .i64 a1_0, .int .i64 a1_1, .int .i64 a1_2, .int .i64 a1_3] 54 w132 from HS132.out.get 10 rfl) 0).trans rfl, (blk_cell (show bx g2 #[.int .i64 a1_0, .int .i64 a1_1, .int .i64 a1_2, .int .i64 a1_3] 54 w132 from HS132.out.get 10 rfl) 1).trans rfl, (blk_cell (show bx g2 #[.int .i64 a1_0, .int .i64 a1_1, .int .i64 a1_2, .int .i64 a1_3] 54 w132 from HS132.out.get 10 rfl) 2).trans rfl, (blk_cell (show bx g2 #[.int .i64 a1_0, .int .i64 a1_1, .int .i64 a1_2, .int .i64 a1_3] 54 w132 from HS132.out.get 10 rfl) 3).trans rfl⟩ (fun hHeld => ?_)
            clear hK K
            refine norm_ (a' := ?_) ?_ ?_
            rotate_left
            · show Act.put _ (some 18) _ = _
              simp only [Act.put, List.setIfInBounds_toArray, List.set_cons_zero, List.set_cons_succ, i64_w, i32_w]
              rfl
            exact norm_ (by first | (simp only [putAll, Act.put, List.setIfInBounds_toArray, List.set_cons_zero, List.set_cons_succ]; done) | (simp only [putAll, Act.put, List.setIfInBounds_toArray, List.set_cons_zero, List.set_cons_succ]; rfl)) (hJ1_3_10 ⟨g132, lo105, hi105, A105_0, c105_0⟩ _ ⟨hHeld, HS132.out⟩)
      · skip
        rintro ⟨g132, lo105, hi105, A105_0, c105_0⟩ wJ100_1_3_10 ⟨hS_, h0_⟩
        have HSJ100_1_3_10 : Aside0 (Stk w [⟨g132, g132 + 1, bx g132 #[.slice none 0 0] 33⟩, ⟨lo105, hi105, fun w_ => Kd.S (Kd.slice 5 (Kd.int .u8)) 67 w_ w.heap.size (fun k_ => lo105 ≤ k_ ∧ k_ < hi105) (.slice A105_0 r2_0.length c105_0) r2_0⟩, ⟨lo94, hi94, fun w_ => Kd.S (Kd.slice 5 (Kd.int .u8)) 67 w_ w.heap.size (fun k_ => lo94 ≤ k_ ∧ k_ < hi94) (.slice A94_0 r2_0.length c94_0) r2_0⟩, ⟨g80, g80 + 1, bx g80 #[.slice A68_0 r4_0.length c68_0] 33⟩, ⟨lo68, hi68, fun w_ => Kd.S (Kd.slice 5 (Kd.int .u8)) 67 w_ w.heap.size (fun k_ => lo68 ≤ k_ ∧ k_ < hi68) (.slice A68_0 r4_0.length c68_0) r9_1⟩, ⟨g49, g49 + 1, bx g49 #[.slice A48_0 r2_0.length c48_0] 33⟩, ⟨lo48, hi48, fun w_ => Kd.S (Kd.slice 5 (Kd.int .u8)) 67 w_ w.heap.size (fun k_ => lo48 ≤ k_ ∧ k_ < hi48) (.slice A48_0 r2_0.length c48_0) r8_1⟩, ⟨g36, g36 + 1, bx g36 #[.slice A24_0 r4_0.length c24_0] 33⟩, ⟨lo24, hi24, fun w_ => Kd.S (Kd.slice 5 (Kd.int .u8)) 67 w_ w.heap.size (fun k_ => lo24 ≤ k_ ∧ k_ < hi24) (.slice A24_0 r4_0.length c24_0) r4_0⟩, ⟨lo9, hi9, fun w_ => Kd.S (Kd.slice 5 (Kd.int .u8)) 67 w_ w.heap.size (fun k_ => lo9 ≤ k_ ∧ k_ < hi9) (.slice A9_0 r2_0.length c9_0) r2_0⟩, ⟨g2, g2 + 1, bx g2 #[.int .i64 a1_0, .int .i64 a1_1, .int .i64 a1_2, .int .i64 a1_3] 54⟩, ⟨g1, g1 + 1, bx g1 #[.slice A0_0 l0_0.length c0_0] 31⟩] wJ100_1_3_10) := ⟨h0_⟩
        clear h0_ HS100
        have hHeld : wJ100_1_3_10.cell? ⟨g1, 0, none⟩ = some (.slice A0_0 l0_0.length c0_0) ∧ wJ100_1_3_10.cell? ⟨g2, 0, none⟩ = some (.int .i64 a1_0) ∧ wJ100_1_3_10.cell? ⟨g2, 1, none⟩ = some (.int .i64 a1_1) ∧ wJ100_1_3_10.cell? ⟨g2, 2, none⟩ = some (.int .i64 a1_2) ∧ wJ100_1_3_10.cell? ⟨g2, 3, none⟩ = some (.int .i64 a1_3) := hS_
        refine norm_ (a' := ?_) ?_ ?_
        rotate_left
        · simp only [putAll, Act.put, List.setIfInBounds_toArray, List.set_cons_zero, List.set_cons_succ]
          rfl
        refine one_ (i := 6) (N := some 94) #[true, true, true, true, true, true, true, false, false, false, true, false, false] rfl rfl (by kernel_rfl) (by decide) (fun K hK => ?_)
        refine goes_ Try.func34 (by kernel_rfl) rfl #[.agg #[.slice A105_0 r2_0.length c105_0], .agg #[.int .i64 r3_0, .int .i64 r3_1, .int .i64 r3_2, .int .i64 r3_3], .int .i64 a2_0, .int .u8 a3_0] (by rfl) rfl rfl (by (try simp only [List.map_toArray, List.map_cons, List.map_nil]); first | done | rfl) ?_
        (refine (impl_WriteAt.calls _ _ _ _ _ _ _ _ _ _ _ _ ?side1 ?side2 H5.out).mono ?_)
        (case side1 => exact (Kd.S_reads' ((show Kd.S (Kd.slice 5 (Kd.int .u8)) 67 wJ100_1_3_10 w.heap.size (fun k_ => lo105 ≤ k_ ∧ k_ < hi105) (.slice A105_0 r2_0.length c105_0) r2_0 from HSJ100_1_3_10.out.get 1 rfl))).2.2)
        (case side2 => exact (Kd.S_reads' ((show Kd.S (Kd.slice 5 (Kd.int .u8)) 67 wJ100_1_3_10 w.heap.size (fun k_ => lo105 ≤ k_ ∧ k_ < hi105) (.slice A105_0 r2_0.length c105_0) r2_0 from HSJ100_1_3_10.out.get 1 rfl))).2.1)
        rintro e w120 ⟨v0_, rfl, ho0, hb⟩
        refine ⟨_, rfl, ?_⟩
        obtain ⟨A120_0, c120_0, e120_0⟩ := Kd.S_slice ho0
        subst e120_0
        obtain ⟨lo120, hi120, hst⟩ := HSJ100_1_3_10.out.push hb (P := fun lo_ hi_ w_ => Kd.S (Kd.slice 5 (Kd.int .u8)) 67 w_ w.heap.size (fun k_ => lo_ ≤ k_ ∧ k_ < hi_) (.slice A120_0 r4_0.length c120_0) r4_0) (fun w_ ha_ => S_held ho0 HSJ100_1_3_10.out.hb.size ha_)
        have HS120 : Aside0 (Stk w [⟨lo120, hi120, fun w_ => Kd.S (Kd.slice 5 (Kd.int .u8)) 67 w_ w.heap.size (fun k_ => lo120 ≤ k_ ∧ k_ < hi120) (.slice A120_0 r4_0.length c120_0) r4_0⟩, ⟨g132, g132 + 1, bx g132 #[.slice none 0 0] 33⟩, ⟨lo105, hi105, fun w_ => Kd.S (Kd.slice 5 (Kd.int .u8)) 67 w_ w.heap.size (fun k_ => lo105 ≤ k_ ∧ k_ < hi105) (.slice A105_0 r2_0.length c105_0) r2_0⟩, ⟨lo94, hi94, fun w_ => Kd.S (Kd.slice 5 (Kd.int .u8)) 67 w_ w.heap.size (fun k_ => lo94 ≤ k_ ∧ k_ < hi94) (.slice A94_0 r2_0.length c94_0) r2_0⟩, ⟨g80, g80 + 1, bx g80 #[.slice A68_0 r4_0.length c68_0] 33⟩, ⟨lo68, hi68, fun w_ => Kd.S (Kd.slice 5 (Kd.int .u8)) 67 w_ w.heap.size (fun k_ => lo68 ≤ k_ ∧ k_ < hi68) (.slice A68_0 r4_0.length c68_0) r9_1⟩, ⟨g49, g49 + 1, bx g49 #[.slice A48_0 r2_0.length c48_0] 33⟩, ⟨lo48, hi48, fun w_ => Kd.S (Kd.slice 5 (Kd.int .u8)) 67 w_ w.heap.size (fun k_ => lo48 ≤ k_ ∧ k_ < hi48) (.slice A48_0 r2_0.length c48_0) r8_1⟩, ⟨g36, g36 + 1, bx g36 #[.slice A24_0 r4_0.length c24_0] 33⟩, ⟨lo24, hi24, fun w_ => Kd.S (Kd.slice 5 (Kd.int .u8)) 67 w_ w.heap.size (fun k_ => lo24 ≤ k_ ∧ k_ < hi24) (.slice A24_0 r4_0.length c24_0) r4_0⟩, ⟨lo9, hi9, fun w_ => Kd.S (Kd.slice 5 (Kd.int .u8)) 67 w_ w.heap.size (fun k_ => lo9 ≤ k_ ∧ k_ < hi9) (.slice A9_0 r2_0.length c9_0) r2_0⟩, ⟨g2, g2 + 1, bx g2 #[.int .i64 a1_0, .int .i64 a1_1, .int .i64 a1_2, .int .i64 a1_3] 54⟩, ⟨g1, g1 + 1, bx g1 #[.slice A0_0 l0_0.length c0_0] 31⟩] w120) := ⟨hst⟩
        clear hst hb HSJ100_1_3_10 ho0
        refine hK.out _ _ ⟨(blk_cell (show bx g1 #[.slice A0_0 l0_0.length c0_0] 31 w120 from HS120.out.get 12 rfl) 0).trans rfl, (blk_cell (show bx g2 #[.int .i64 a1_0, .int .i64 a1_1, .int .i64 a1_2, .int .i64 a1_3] 54 w120 from HS120.out.get 11 rfl) 0).trans rfl, (blk_cell (show bx g2 #[.int .i64 a1_0, .int .i64 a1_1, .int .i64 a1_2, .int .i64 a1_3] 54 w120 from HS120.out.get 11 rfl) 1).trans rfl, (blk_cell (show bx g2 #[.int .i64 a1_0, .int .i64 a1_1, .int .i64 a1_2, .int .i64 a1_3] 54 w120 from HS120.out.get 11 rfl) 2).trans rfl, (blk_cell (show bx g2 #[.int .i64 a1_0, .int .i64 a1_1, .int .i64 a1_2, .int .i64 a1_3] 54 w120 from HS120.out.get 11 rfl) 3).trans rfl⟩ (fun hHeld => ?_)
        clear hK K
        refine norm_ (a' := ?_) ?_ ?_
        rotate_left
        · show Act.put _ (some 94) _ = _
          simp only [Act.put, List.setIfInBounds_toArray, List.set_cons_zero, List.set_cons_succ, i64_w, i32_w]
          rfl
        refine pure_ (i := 7) (N := some 87) (v := ?_) (a' := ?_) #[true, true, true, true, true, true, true, true, false, false, true, false, false] rfl rfl (by kernel_rfl) (fun _ _ _ h => h) (Or.inl ⟨by rfl, ?_⟩) ?_ ?_
        rotate_left
        · intro w'
          go_simp
          with_reducible rfl
        rotate_left
        · simp only [Act.put, List.setIfInBounds_toArray, List.set_cons_zero, List.set_cons_succ, i64_w, i32_w]
          rfl
        refine pure_ (i := 8) (N := some 95) (v := ?_) (a' := ?_) #[true, true, true, true, true, true, true, true, true, false, true, false, false] rfl rfl (by kernel_rfl) (fun _ _ _ h => h) (Or.inl ⟨by rfl, ?_⟩) ?_ ?_
        rotate_left
        · intro w'
          go_simp
          with_reducible rfl
        rotate_left
        · simp only [Act.put, List.setIfInBounds_toArray, List.set_cons_zero, List.set_cons_succ, i64_w, i32_w]
          rfl
        refine pure_ (i := 9) (N := some 96) (v := ?_) (a' := ?_) #[true, true, true, true, true, true, true, true, true, true, true, false, false] rfl rfl (by kernel_rfl) (fun _ _ _ h => h) (Or.inl ⟨by rfl, ?_⟩) ?_ ?_
        rotate_left
        · intro w'
          go_simp
          with_reducible rfl
        rotate_left
        · simp only [Act.put, List.setIfInBounds_toArray, List.set_cons_zero, List.set_cons_succ, i64_w, i32_w]
          rfl
        exact norm_ (by first | (simp only [putAll, Act.put, List.setIfInBounds_toArray, List.set_cons_zero, List.set_cons_succ]; done) | (simp only [putAll, Act.put, List.setIfInBounds_toArray, List.set_cons_zero, List.set_cons_succ]; rfl)) (hJ1_3_6_10 ⟨g132, lo120, hi120, A120_0, c120_0, lo105, hi105, A105_0, c105_0⟩ _ ⟨hHeld, (HS120.out.front 1 rfl)⟩)
    · skip
      rintro ⟨lo120, hi120, A120_0, c120_0, lo105, hi105, A105_0, c105_0⟩ wJ100_1_3_6 ⟨hS_, h0_⟩
      have HSJ100_1_3_6 : Aside0 (Stk w [⟨lo120, hi120, fun w_ => Kd.S (Kd.slice 5 (Kd.int .u8)) 67 w_ w.heap.size (fun k_ => lo120 ≤ k_ ∧ k_ < hi120) (.slice A120_0 r4_0.length c120_0) r4_0⟩, ⟨lo105, hi105, fun w_ => Kd.S (Kd.slice 5 (Kd.int .u8)) 67 w_ w.heap.size (fun k_ => lo105 ≤ k_ ∧ k_ < hi105) (.slice A105_0 r2_0.length c105_0) r2_0⟩, ⟨lo94, hi94, fun w_ => Kd.S (Kd.slice 5 (Kd.int .u8)) 67 w_ w.heap.size (fun k_ => lo94 ≤ k_ ∧ k_ < hi94) (.slice A94_0 r2_0.length c94_0) r2_0⟩, ⟨g80, g80 + 1, bx g80 #[.slice A68_0 r4_0.length c68_0] 33⟩, ⟨lo68, hi68, fun w_ => Kd.S (Kd.slice 5 (Kd.int .u8)) 67 w_ w.heap.size (fun k_ => lo68 ≤ k_ ∧ k_ < hi68) (.slice A68_0 r4_0.length c68_0) r9_1⟩, ⟨g49, g49 + 1, bx g49 #[.slice A48_0 r2_0.length c48_0] 33⟩, ⟨lo48, hi48, fun w_ => Kd.S (Kd.slice 5 (Kd.int .u8)) 67 w_ w.heap.size (fun k_ => lo48 ≤ k_ ∧ k_ < hi48) (.slice A48_0 r2_0.length c48_0) r8_1⟩, ⟨g36, g36 + 1, bx g36 #[.slice A24_0 r4_0.length c24_0] 33⟩, ⟨lo24, hi24, fun w_ => Kd.S (Kd.slice 5 (Kd.int .u8)) 67 w_ w.heap.size (fun k_ => lo24 ≤ k_ ∧ k_ < hi24) (.slice A24_0 r4_0.length c24_0) r4_0⟩, ⟨lo9, hi9, fun w_ => Kd.S (Kd.slice 5 (Kd.int .u8)) 67 w_ w.heap.size (fun k_ => lo9 ≤ k_ ∧ k_ < hi9) (.slice A9_0 r2_0.length c9_0) r2_0⟩, ⟨g2, g2 + 1, bx g2 #[.int .i64 a1_0, .int .i64 a1_1, .int .i64 a1_2, .int .i64 a1_3] 54⟩, ⟨g1, g1 + 1, bx g1 #[.slice A0_0 l0_0.length c0_0] 31⟩] wJ100_1_3_6) := ⟨h0_⟩
      clear h0_ HS100
      have hHeld : wJ100_1_3_6.cell? ⟨g1, 0, none⟩ = some (.slice A0_0 l0_0.length c0_0) ∧ wJ100_1_3_6.cell? ⟨g2, 0, none⟩ = some (.int .i64 a1_0) ∧ wJ100_1_3_6.cell? ⟨g2, 1, none⟩ = some (.int .i64 a1_1) ∧ wJ100_1_3_6.cell? ⟨g2, 2, none⟩ = some (.int .i64 a1_2) ∧ wJ100_1_3_6.cell? ⟨g2, 3, none⟩ = some (.int .i64 a1_3) := hS_
      refine norm_ (a' := ?_) ?_ ?_
      rotate_left
      · simp only [putAll, Act.put, List.setIfInBounds_toArray, List.set_cons_zero, List.set_cons_succ]
        rfl
      refine one_ (i := 10) (N := some 18) #[true, true, true, true, true, true, true, true, true, true, true, false, false] rfl rfl (by kernel_rfl) (by decide) (fun K hK => ?_)
      refine box_step ?hg (N := 18) ?hd (cs := #[.slice none 0 0]) (t := 33) ?hr ?_
      (case hd => rfl)
      (case hg => rfl)
      (case hr => first | (go_simp; done) | (go_simp; rfl))
      intro g132 hg w132 hbox hb
      have HS132 : Aside0 (Stk w [⟨g132, g132 + 1, bx g132 #[.slice none 0 0] 33⟩, ⟨lo120, hi120, fun w_ => Kd.S (Kd.slice 5 (Kd.int .u8)) 67 w_ w.heap.size (fun k_ => lo120 ≤ k_ ∧ k_ < hi120) (.slice A120_0 r4_0.length c120_0) r4_0⟩, ⟨lo105, hi105, fun w_ => Kd.S (Kd.slice 5 (Kd.int .u8)) 67 w_ w.heap.size (fun k_ => lo105 ≤ k_ ∧ k_ < hi105) (.slice A105_0 r2_0.length c105_0) r2_0⟩, ⟨lo94, hi94, fun w_ => Kd.S (Kd.slice 5 (Kd.int .u8)) 67 w_ w.heap.size (fun k_ => lo94 ≤ k_ ∧ k_ < hi94) (.slice A94_0 r2_0.length c94_0) r2_0⟩, ⟨g80, g80 + 1, bx g80 #[.slice A68_0 r4_0.length c68_0] 33⟩, ⟨lo68, hi68, fun w_ => Kd.S (Kd.slice 5 (Kd.int .u8)) 67 w_ w.heap.size (fun k_ => lo68 ≤ k_ ∧ k_ < hi68) (.slice A68_0 r4_0.length c68_0) r9_1⟩, ⟨g49, g49 + 1, bx g49 #[.slice A48_0 r2_0.length c48_0] 33⟩, ⟨lo48, hi48, fun w_ => Kd.S (Kd.slice 5 (Kd.int .u8)) 67 w_ w.heap.size (fun k_ => lo48 ≤ k_ ∧ k_ < hi48) (.slice A48_0 r2_0.length c48_0) r8_1⟩, ⟨g36, g36 + 1, bx g36 #[.slice A24_0 r4_0.length c24_0] 33⟩, ⟨lo24, hi24, fun w_ => Kd.S (Kd.slice 5 (Kd.int .u8)) 67 w_ w.heap.size (fun k_ => lo24 ≤ k_ ∧ k_ < hi24) (.slice A24_0 r4_0.length c24_0) r4_0⟩, ⟨lo9, hi9, fun w_ => Kd.S (Kd.slice 5 (Kd.int .u8)) 67 w_ w.heap.size (fun k_ => lo9 ≤ k_ ∧ k_ < hi9) (.slice A9_0 r2_0.length c9_0) r2_0⟩, ⟨g2, g2 + 1, bx g2 #[.int .i64 a1_0, .int .i64 a1_1, .int .i64 a1_2, .int .i64 a1_3] 54⟩, ⟨g1, g1 + 1, bx g1 #[.slice A0_0 l0_0.length c0_0] 31⟩] w132) := ⟨HSJ100_1_3_6.out.box hb hg hbox⟩
      clear hb hbox hg HSJ100_1_3_6
      refine hK.out _ _ ⟨(blk_cell (show bx g1 #[.slice A0_0 l0_0.length c0_0] 31 w132 from HS132.out.get 12 rfl) 0).trans rfl, (blk_cell (show bx g2 #[.int .i64 a1_0, .int .i64 a1_1, .int .i64 a1_2, .int .i64 a1_3] 54 w132 from HS132.out.get 11 rfl) 0).trans rfl, (blk_cell (show bx g2 #[.int .i64 a1_0, .int .i64 a1_1, .int .i64 a1_2, .int .i64 a1_3] 54 w132 from HS132.out.get 11 rfl) 1).trans rfl, (blk_cell (show bx g2 #[.int .i64 a1_0, .int .i64 a1_1, .int .i64 a1_2, .int .i64 a1_3] 54 w132 from HS132.out.get 11 rfl) 2).trans rfl, (blk_cell (show bx g2 #[.int .i64 a1_0, .int .i64 a1_1, .int .i64 a1_2, .int .i64 a1_3] 54 w132 from HS132.out.get 11 rfl) 3).trans rfl⟩ (fun hHeld => ?_)
      clear hK K
      refine norm_ (a' := ?_) ?_ ?_
      rotate_left
      · show Act.put _ (some 18) _ = _
        simp only [Act.put, List.setIfInBounds_toArray, List.set_cons_zero, List.set_cons_succ, i64_w, i32_w]
        rfl
      exact norm_ (by first | (simp only [putAll, Act.put, List.setIfInBounds_toArray, List.set_cons_zero, List.set_cons_succ]; done) | (simp only [putAll, Act.put, List.setIfInBounds_toArray, List.set_cons_zero, List.set_cons_succ]; rfl)) (hJ1_3_6_10 ⟨g132, lo120, hi120, A120_0, c120_0, lo105, hi105, A105_0, c105_0⟩ _ ⟨hHeld, HS132.out⟩)
  rintro ⟨g132, lo120, hi120, A120_0, c120_0, lo105, hi105, A105_0, c105_0⟩ wJ100_1_3_6_10 ⟨hS_, h0_⟩
  have HSJ100_1_3_6_10 : Aside0 (Stk w [⟨g132, g132 + 1, bx g132 #[.slice none 0 0] 33⟩, ⟨lo120, hi120, fun w_ => Kd.S (Kd.slice 5 (Kd.int .u8)) 67 w_ w.heap.size (fun k_ => lo120 ≤ k_ ∧ k_ < hi120) (.slice A120_0 r4_0.length c120_0) r4_0⟩, ⟨lo105, hi105, fun w_ => Kd.S (Kd.slice 5 (Kd.int .u8)) 67 w_ w.heap.size (fun k_ => lo105 ≤ k_ ∧ k_ < hi105) (.slice A105_0 r2_0.length c105_0) r2_0⟩, ⟨lo94, hi94, fun w_ => Kd.S (Kd.slice 5 (Kd.int .u8)) 67 w_ w.heap.size (fun k_ => lo94 ≤ k_ ∧ k_ < hi94) (.slice A94_0 r2_0.length c94_0) r2_0⟩, ⟨g80, g80 + 1, bx g80 #[.slice A68_0 r4_0.length c68_0] 33⟩, ⟨lo68, hi68, fun w_ => Kd.S (Kd.slice 5 (Kd.int .u8)) 67 w_ w.heap.size (fun k_ => lo68 ≤ k_ ∧ k_ < hi68) (.slice A68_0 r4_0.length c68_0) r9_1⟩, ⟨g49, g49 + 1, bx g49 #[.slice A48_0 r2_0.length c48_0] 33⟩, ⟨lo48, hi48, fun w_ => Kd.S (Kd.slice 5 (Kd.int .u8)) 67 w_ w.heap.size (fun k_ => lo48 ≤ k_ ∧ k_ < hi48) (.slice A48_0 r2_0.length c48_0) r8_1⟩, ⟨g36, g36 + 1, bx g36 #[.slice A24_0 r4_0.length c24_0] 33⟩, ⟨lo24, hi24, fun w_ => Kd.S (Kd.slice 5 (Kd.int .u8)) 67 w_ w.heap.size (fun k_ => lo24 ≤ k_ ∧ k_ < hi24) (.slice A24_0 r4_0.length c24_0) r4_0⟩, ⟨lo9, hi9, fun w_ => Kd.S (Kd.slice 5 (Kd.int .u8)) 67 w_ w.heap.size (fun k_ => lo9 ≤ k_ ∧ k_ < hi9) (.slice A9_0 r2_0.length c9_0) r2_0⟩, ⟨g2, g2 + 1, bx g2 #[.int .i64 a1_0, .int .i64 a1_1, .int .i64 a1_2, .int .i64 a1_3] 54⟩, ⟨g1, g1 + 1, bx g1 #[.slice A0_0 l0_0.length c0_0] 31⟩] wJ100_1_3_6_10) := ⟨h0_⟩
  clear h0_ HS100
  have hHeld : wJ100_1_3_6_10.cell? ⟨g1, 0, none⟩ = some (.slice A0_0 l0_0.length c0_0) ∧ wJ100_1_3_6_10.cell? ⟨g2, 0, none⟩ = some (.int .i64 a1_0) ∧ wJ100_1_3_6_10.cell? ⟨g2, 1, none⟩ = some (.int .i64 a1_1) ∧ wJ100_1_3_6_10.cell? ⟨g2, 2, none⟩ = some (.int .i64 a1_2) ∧ wJ100_1_3_6_10.cell? ⟨g2, 3, none⟩ = some (.int .i64 a1_3) := hS_
  refine norm_ (a' := ?_) ?_ ?_
  rotate_left
  · simp only [putAll, Act.put, List.setIfInBounds_toArray, List.set_cons_zero, List.set_cons_succ]
    rfl
  refine one_ (i := 11) (N := none) #[true, true, true, true, true, true, true, true, true, true, true, true, false] rfl rfl (by kernel_rfl) (by decide) (fun K hK => ?_)
  have B142_11_g132 : bx g132 #[.slice none 0 0] 33 wJ100_1_3_6_10 := HSJ100_1_3_6_10.out.get 0 rfl
  have hcz142_11_g132_0 : (wJ100_1_3_6_10).cell? ⟨g132, 0, none⟩ = some (.slice none 0 0) := (blk_cell B142_11_g132 0).trans rfl
  have hfz142_11_g132_0 := blk_frozen B142_11_g132 0
  clear B142_11_g132
  have hne11_g2 : g2 ≠ g132 := HSJ100_1_3_6_10.out.ne 11 0 (by decide) rfl rfl
  have hne11_g2' : g132 ≠ g2 := fun e_ => hne11_g2 e_.symm
  have hne11_g1 : g1 ≠ g132 := HSJ100_1_3_6_10.out.ne 12 0 (by decide) rfl rfl
  have hne11_g1' : g132 ≠ g1 := fun e_ => hne11_g1 e_.symm
  refine skip_ (w1 := ?_) (by rfl) rfl ?_ ?_
  rotate_left
  · go_simp
    rfl
  have HS143 : Aside0 (Stk w [⟨g132, g132 + 1, bx g132 #[.slice A120_0 r4_0.length c120_0] 33⟩, ⟨lo120, hi120, fun w_ => Kd.S (Kd.slice 5 (Kd.int .u8)) 67 w_ w.heap.size (fun k_ => lo120 ≤ k_ ∧ k_ < hi120) (.slice A120_0 r4_0.length c120_0) r4_0⟩, ⟨lo105, hi105, fun w_ => Kd.S (Kd.slice 5 (Kd.int .u8)) 67 w_ w.heap.size (fun k_ => lo105 ≤ k_ ∧ k_ < hi105) (.slice A105_0 r2_0.length c105_0) r2_0⟩, ⟨lo94, hi94, fun w_ => Kd.S (Kd.slice 5 (Kd.int .u8)) 67 w_ w.heap.size (fun k_ => lo94 ≤ k_ ∧ k_ < hi94) (.slice A94_0 r2_0.length c94_0) r2_0⟩, ⟨g80, g80 + 1, bx g80 #[.slice A68_0 r4_0.length c68_0] 33⟩, ⟨lo68, hi68, fun w_ => Kd.S (Kd.slice 5 (Kd.int .u8)) 67 w_ w.heap.size (fun k_ => lo68 ≤ k_ ∧ k_ < hi68) (.slice A68_0 r4_0.length c68_0) r9_1⟩, ⟨g49, g49 + 1, bx g49 #[.slice A48_0 r2_0.length c48_0] 33⟩, ⟨lo48, hi48, fun w_ => Kd.S (Kd.slice 5 (Kd.int .u8)) 67 w_ w.heap.size (fun k_ => lo48 ≤ k_ ∧ k_ < hi48) (.slice A48_0 r2_0.length c48_0) r8_1⟩, ⟨g36, g36 + 1, bx g36 #[.slice A24_0 r4_0.length c24_0] 33⟩, ⟨lo24, hi24, fun w_ => Kd.S (Kd.slice 5 (Kd.int .u8)) 67 w_ w.heap.size (fun k_ => lo24 ≤ k_ ∧ k_ < hi24) (.slice A24_0 r4_0.length c24_0) r4_0⟩, ⟨lo9, hi9, fun w_ => Kd.S (Kd.slice 5 (Kd.int .u8)) 67 w_ w.heap.size (fun k_ => lo9 ≤ k_ ∧ k_ < hi9) (.slice A9_0 r2_0.length c9_0) r2_0⟩, ⟨g2, g2 + 1, bx g2 #[.int .i64 a1_0, .int .i64 a1_1, .int .i64 a1_2, .int .i64 a1_3] 54⟩, ⟨g1, g1 + 1, bx g1 #[.slice A0_0 l0_0.length c0_0] 31⟩] ((wJ100_1_3_6_10).setCell ⟨g132, 0, none⟩ (.slice A120_0 r4_0.length c120_0))) := ⟨(HSJ100_1_3_6_10.out.put 0 rfl 0 (.slice A120_0 r4_0.length c120_0))⟩
  clear HSJ100_1_3_6_10
  (try clear hcz142_11_g132_0 hfz142_11_g132_0 hne11_g2 hne11_g2' hne11_g1 hne11_g1')
  refine hK.out _ _ ⟨(blk_cell (show bx g1 #[.slice A0_0 l0_0.length c0_0] 31 ((wJ100_1_3_6_10).setCell ⟨g132, 0, none⟩ (.slice A120_0 r4_0.length c120_0)) from HS143.out.get 12 rfl) 0).trans rfl, (blk_cell (show bx g2 #[.int .i64 a1_0, .int .i64 a1_1, .int .i64 a1_2, .int .i64 a1_3] 54 ((wJ100_1_3_6_10).setCell ⟨g132, 0, none⟩ (.slice A120_0 r4_0.length c120_0)) from HS143.out.get 11 rfl) 0).trans rfl, (blk_cell (show bx g2 #[.int .i64 a1_0, .int .i64 a1_1, .int .i64 a1_2, .int .i64 a1_3] 54 ((wJ100_1_3_6_10).setCell ⟨g132, 0, none⟩ (.slice A120_0 r4_0.length c120_0)) from HS143.out.get 11 rfl) 1).trans rfl, (blk_cell (show bx g2 #[.int .i64 a1_0, .int .i64 a1_1, .int .i64 a1_2, .int .i64 a1_3] 54 ((wJ100_1_3_6_10).setCell ⟨g132, 0, none⟩ (.slice A120_0 r4_0.length c120_0)) from HS143.out.get 11 rfl) 2).trans rfl, (blk_cell (show bx g2 #[.int .i64 a1_0, .int .i64 a1_1, .int .i64 a1_2, .int .i64 a1_3] 54 ((wJ100_1_3_6_10).setCell ⟨g132, 0, none⟩ (.slice A120_0 r4_0.length c120_0)) from HS143.out.get 11 rfl) 3).trans rfl⟩ (fun hHeld => ?_)
  clear hK K
  refine pure_ (i := 12) (N := some 19) (v := ?_) (a' := ?_) #[true, true, true, true, true, true, true, true, true, true, true, true, true] rfl rfl (by kernel_rfl) (fun _ _ _ h => h) (Or.inl ⟨by rfl, ?_⟩) ?_ ?_
  rotate_left
  · intro w'
    go_simp
    with_reducible rfl
  rotate_left
  · simp only [Act.put, List.setIfInBounds_toArray, List.set_cons_zero, List.set_cons_succ, i64_w, i32_w]
    rfl
  refine done_ (by kernel_rfl) ?_
  have B143_g132 : bx g132 #[.slice A120_0 r4_0.length c120_0] 33 ((wJ100_1_3_6_10).setCell ⟨g132, 0, none⟩ (.slice A120_0 r4_0.length c120_0)) := HS143.out.get 0 rfl
  have hcz143_g132_0 : ((wJ100_1_3_6_10).setCell ⟨g132, 0, none⟩ (.slice A120_0 r4_0.length c120_0)).cell? ⟨g132, 0, none⟩ = some (.slice A120_0 r4_0.length c120_0) := (blk_cell B143_g132 0).trans rfl
  have hfz143_g132_0 := blk_frozen B143_g132 0
  clear B143_g132
  have B143_g36 : bx g36 #[.slice A24_0 r4_0.length c24_0] 33 ((wJ100_1_3_6_10).setCell ⟨g132, 0, none⟩ (.slice A120_0 r4_0.length c120_0)) := HS143.out.get 8 rfl
  have hcz143_g36_0 : ((wJ100_1_3_6_10).setCell ⟨g132, 0, none⟩ (.slice A120_0 r4_0.length c120_0)).cell? ⟨g36, 0, none⟩ = some (.slice A24_0 r4_0.length c24_0) := (blk_cell B143_g36 0).trans rfl
  have hfz143_g36_0 := blk_frozen B143_g36 0
  clear B143_g36
  go_wp2_with (first | ((with_reducible refine gate_callee (f := 23) rfl ?_); refine goesL_ (some 99) rfl rfl Try.func23 (by kernel_rfl) rfl #[.agg #[.slice A120_0 r4_0.length c120_0], .agg #[.slice A24_0 r4_0.length c24_0]] rfl (by (try simp only [List.map_toArray, List.map_cons, List.map_nil]); first | done | rfl) ?_; (refine (laws_eqMemory.calls _ _ _ _ _ _ _ _ _ ?side1 ?side2 ?side3 ?side4 H6.out).mono ?_); (case side1 => exact (Kd.S_reads' ((show Kd.S (Kd.slice 5 (Kd.int .u8)) 67 ((wJ100_1_3_6_10).setCell ⟨g132, 0, none⟩ (.slice A120_0 r4_0.length c120_0)) w.heap.size (fun k_ => lo120 ≤ k_ ∧ k_ < hi120) (.slice A120_0 r4_0.length c120_0) r4_0 from HS143.out.get 1 rfl))).2.2); (case side2 => exact (Kd.S_reads' ((show Kd.S (Kd.slice 5 (Kd.int .u8)) 67 ((wJ100_1_3_6_10).setCell ⟨g132, 0, none⟩ (.slice A120_0 r4_0.length c120_0)) w.heap.size (fun k_ => lo120 ≤ k_ ∧ k_ < hi120) (.slice A120_0 r4_0.length c120_0) r4_0 from HS143.out.get 1 rfl))).2.1); (case side3 => exact (Kd.S_reads' ((show Kd.S (Kd.slice 5 (Kd.int .u8)) 67 ((wJ100_1_3_6_10).setCell ⟨g132, 0, none⟩ (.slice A120_0 r4_0.length c120_0)) w.heap.size (fun k_ => lo24 ≤ k_ ∧ k_ < hi24) (.slice A24_0 r4_0.length c24_0) r4_0 from HS143.out.get 9 rfl))).2.2); (case side4 => exact (Kd.S_reads' ((show Kd.S (Kd.slice 5 (Kd.int .u8)) 67 ((wJ100_1_3_6_10).setCell ⟨g132, 0, none⟩ (.slice A120_0 r4_0.length c120_0)) w.heap.size (fun k_ => lo24 ≤ k_ ∧ k_ < hi24) (.slice A24_0 r4_0.length c24_0) r4_0 from HS143.out.get 9 rfl))).2.1); rintro e w144 ⟨rfl, hb⟩; refine ⟨_, rfl, ?_⟩; (try clear hcz143_g132_0 hfz143_g132_0 hcz143_g36_0 hfz143_g36_0); have HS144 : Aside0 (Stk w [⟨g132, g132 + 1, bx g132 #[.slice A120_0 r4_0.length c120_0] 33⟩, ⟨lo120, hi120, fun w_ => Kd.S (Kd.slice 5 (Kd.int .u8)) 67 w_ w.heap.size (fun k_ => lo120 ≤ k_ ∧ k_ < hi120) (.slice A120_0 r4_0.length c120_0) r4_0⟩, ⟨lo105, hi105, fun w_ => Kd.S (Kd.slice 5 (Kd.int .u8)) 67 w_ w.heap.size (fun k_ => lo105 ≤ k_ ∧ k_ < hi105) (.slice A105_0 r2_0.length c105_0) r2_0⟩, ⟨lo94, hi94, fun w_ => Kd.S (Kd.slice 5 (Kd.int .u8)) 67 w_ w.heap.size (fun k_ => lo94 ≤ k_ ∧ k_ < hi94) (.slice A94_0 r2_0.length c94_0) r2_0⟩, ⟨g80, g80 + 1, bx g80 #[.slice A68_0 r4_0.length c68_0] 33⟩, ⟨lo68, hi68, fun w_ => Kd.S (Kd.slice 5 (Kd.int .u8)) 67 w_ w.heap.size (fun k_ => lo68 ≤ k_ ∧ k_ < hi68) (.slice A68_0 r4_0.length c68_0) r9_1⟩, ⟨g49, g49 + 1, bx g49 #[.slice A48_0 r2_0.length c48_0] 33⟩, ⟨lo48, hi48, fun w_ => Kd.S (Kd.slice 5 (Kd.int .u8)) 67 w_ w.heap.size (fun k_ => lo48 ≤ k_ ∧ k_ < hi48) (.slice A48_0 r2_0.length c48_0) r8_1⟩, ⟨g36, g36 + 1, bx g36 #[.slice A24_0 r4_0.length c24_0] 33⟩, ⟨lo24, hi24, fun w_ => Kd.S (Kd.slice 5 (Kd.int .u8)) 67 w_ w.heap.size (fun k_ => lo24 ≤ k_ ∧ k_ < hi24) (.slice A24_0 r4_0.length c24_0) r4_0⟩, ⟨lo9, hi9, fun w_ => Kd.S (Kd.slice 5 (Kd.int .u8)) 67 w_ w.heap.size (fun k_ => lo9 ≤ k_ ∧ k_ < hi9) (.slice A9_0 r2_0.length c9_0) r2_0⟩, ⟨g2, g2 + 1, bx g2 #[.int .i64 a1_0, .int .i64 a1_1, .int .i64 a1_2, .int .i64 a1_3] 54⟩, ⟨g1, g1 + 1, bx g1 #[.slice A0_0 l0_0.length c0_0] 31⟩] w144) := ⟨HS143.out.below hb⟩; clear hb HS143; have B144_g80 : bx g80 #[.slice A68_0 r4_0.length c68_0] 33 w144 := HS144.out.get 4 rfl; have hcz144_g80_0 : (w144).cell? ⟨g80, 0, none⟩ = some (.slice A68_0 r4_0.length c68_0) := (blk_cell B144_g80 0).trans rfl; have hfz144_g80_0 := blk_frozen B144_g80 0; clear B144_g80) | ((with_reducible refine gate_callee (f := 26) rfl ?_); refine goesL_ (some 108) rfl rfl Try.func26 (by kernel_rfl) rfl #[.agg #[.slice A68_0 r9_1.length c68_0], .int .i64 1] rfl (by (try simp only [List.map_toArray, List.map_cons, List.map_nil]); first | (rw [show r9_1.length = r4_0.length from ((Kd.S_reads' ((show Kd.S (Kd.slice 5 (Kd.int .u8)) 67 w144 w.heap.size (fun k_ => lo68 ≤ k_ ∧ k_ < hi68) (.slice A68_0 r4_0.length c68_0) r9_1 from HS144.out.get 5 rfl))).1).symm] <;> rfl)) ?_; (refine (laws_heldMemory.calls _ _ _ _ _ _ _ ?side1 ?side2 H10.out).mono ?_); (case side1 => exact (Kd.S_reads' ((show Kd.S (Kd.slice 5 (Kd.int .u8)) 67 w144 w.heap.size (fun k_ => lo68 ≤ k_ ∧ k_ < hi68) (.slice A68_0 r4_0.length c68_0) r9_1 from HS144.out.get 5 rfl))).2.2); (case side2 => rw [show r9_1.length = r4_0.length from ((Kd.S_reads' ((show Kd.S (Kd.slice 5 (Kd.int .u8)) 67 w144 w.heap.size (fun k_ => lo68 ≤ k_ ∧ k_ < hi68) (.slice A68_0 r4_0.length c68_0) r9_1 from HS144.out.get 5 rfl))).1).symm]; exact (Kd.S_reads' ((show Kd.S (Kd.slice 5 (Kd.int .u8)) 67 w144 w.heap.size (fun k_ => lo68 ≤ k_ ∧ k_ < hi68) (.slice A68_0 r4_0.length c68_0) r9_1 from HS144.out.get 5 rfl))).2.1); rintro e w145 ⟨rfl, hb⟩; refine ⟨_, rfl, ?_⟩; (try clear hcz144_g80_0 hfz144_g80_0); have HS145 : Aside0 (Stk w [⟨g132, g132 + 1, bx g132 #[.slice A120_0 r4_0.length c120_0] 33⟩, ⟨lo120, hi120, fun w_ => Kd.S (Kd.slice 5 (Kd.int .u8)) 67 w_ w.heap.size (fun k_ => lo120 ≤ k_ ∧ k_ < hi120) (.slice A120_0 r4_0.length c120_0) r4_0⟩, ⟨lo105, hi105, fun w_ => Kd.S (Kd.slice 5 (Kd.int .u8)) 67 w_ w.heap.size (fun k_ => lo105 ≤ k_ ∧ k_ < hi105) (.slice A105_0 r2_0.length c105_0) r2_0⟩, ⟨lo94, hi94, fun w_ => Kd.S (Kd.slice 5 (Kd.int .u8)) 67 w_ w.heap.size (fun k_ => lo94 ≤ k_ ∧ k_ < hi94) (.slice A94_0 r2_0.length c94_0) r2_0⟩, ⟨g80, g80 + 1, bx g80 #[.slice A68_0 r4_0.length c68_0] 33⟩, ⟨lo68, hi68, fun w_ => Kd.S (Kd.slice 5 (Kd.int .u8)) 67 w_ w.heap.size (fun k_ => lo68 ≤ k_ ∧ k_ < hi68) (.slice A68_0 r4_0.length c68_0) r9_1⟩, ⟨g49, g49 + 1, bx g49 #[.slice A48_0 r2_0.length c48_0] 33⟩, ⟨lo48, hi48, fun w_ => Kd.S (Kd.slice 5 (Kd.int .u8)) 67 w_ w.heap.size (fun k_ => lo48 ≤ k_ ∧ k_ < hi48) (.slice A48_0 r2_0.length c48_0) r8_1⟩, ⟨g36, g36 + 1, bx g36 #[.slice A24_0 r4_0.length c24_0] 33⟩, ⟨lo24, hi24, fun w_ => Kd.S (Kd.slice 5 (Kd.int .u8)) 67 w_ w.heap.size (fun k_ => lo24 ≤ k_ ∧ k_ < hi24) (.slice A24_0 r4_0.length c24_0) r4_0⟩, ⟨lo9, hi9, fun w_ => Kd.S (Kd.slice 5 (Kd.int .u8)) 67 w_ w.heap.size (fun k_ => lo9 ≤ k_ ∧ k_ < hi9) (.slice A9_0 r2_0.length c9_0) r2_0⟩, ⟨g2, g2 + 1, bx g2 #[.int .i64 a1_0, .int .i64 a1_1, .int .i64 a1_2, .int .i64 a1_3] 54⟩, ⟨g1, g1 + 1, bx g1 #[.slice A0_0 l0_0.length c0_0] 31⟩] w145) := ⟨HS144.out.below hb⟩; clear hb HS144))
  go_ret
  exact ⟨by first | rfl | simp, HS145.out.hb⟩
end Go.Proofs.Ytpnoakpdmojgeaa.P


/- The law FnExactWriteAt. -/
namespace Go.Proofs.Ytpnoakpdmojgeaa.P
open Go.RowKit Go.Proofs.YtpnoakpdmojgeaaW.PrintWords Go.Proofs.YtpnoakpdmojgeaaW.Mine
set_option linter.unusedVariables false
theorem FnExactWriteAt_walk (w : World) (cs0 : Array Value) (a0 : (List (List Int))) (hK0 : (Kd.slice 67 (Kd.slice 5 (Kd.int .u8))).K w a0 cs0.toList) (ok0 : (∀ y1 ∈ a0, (∀ y2 ∈ y1, (Lit.int .u8 y2).wf = true))) (cs1 : Array Value) (a1 : (Int × (Int × (Int × Int)))) (hK1 : (Kd.pair (Kd.int .i64) (Kd.pair (Kd.int .i64) (Kd.pair (Kd.int .i64) (Kd.int .i64)))).K w a1 cs1.toList) (ok1 : ((Lit.int .i64 a1.1).wf = true ∧ ((Lit.int .i64 a1.2.1).wf = true ∧ ((Lit.int .i64 a1.2.2.1).wf = true ∧ (Lit.int .i64 a1.2.2.2).wf = true)))) (a2 : Int) (w2 : (Lit.int .i64 a2).wf = true) (a3 : Int) (w3 : (Lit.int .u8 a3).wf = true) :
    Calls Try.prog 6 #[.agg cs0, .agg cs1, .int .i64 a2, .int .u8 a3] w fun e w' => e = .returned (.bool true) ∧ Below w.heap.size w w' := by
  obtain ⟨A0, c0, hcs0, hc0, hr0⟩ := hK0
  obtain rfl := agg_of hcs0
  obtain ⟨x10, x11, x12, x13⟩ := a1
  obtain ⟨_, _, hcs1, rfl, ⟨_, _, rfl, rfl, ⟨_, _, rfl, rfl, rfl⟩⟩⟩ := hK1
  obtain rfl := agg_of hcs1
  obtain ⟨r, hz, hh⟩ := szMemory_f a0 1048576 (by omega) (by omega) hr0.2.1 (C_inner_len hr0)
  rcases hh with ⟨hm, h5⟩ | rfl
  · have hs : -9223372036854775808 ≤ x11 ∧ x11 ≤ 9223372036854775807 := wf_i64 ok1.2.1
    have h6 := writeAt_ok a0 x10 x11 x12 x13 a2 a3
    exact FnExactWriteAt_run A0 c0 a0 x10 x11 x12 x13 a2 a3 _ _ _ _ _ _ _ _ _ _ _ _ w hr0 hc0 hz.rounds (toMemory_f a0 hm) rfl (specWriteAt_f a0 x10 x11 x12 x13 a2 a3 hm hs) rfl (eqM _ h6).rounds (eqM _ hm).rounds (markM _ hm) (markM _ h6) (heldMemory_f _ h6).rounds (by omega) (markM_pos _) (markM_pos _)
  · exact FnExactWriteAt_run0 A0 c0 a0 x10 x11 x12 x13 a2 a3 _ w hr0 hc0 hz.rounds (by omega)
end Go.Proofs.Ytpnoakpdmojgeaa.P


namespace Go.Proofs.Ytpnoakpdmojgeaa.fnExactWriteAt
open Go.ChangeShapes Go.WideShapes Go.ChangeAt Go.RowKit Go.Proofs.YtpnoakpdmojgeaaW.PrintWords Go.Proofs.YtpnoakpdmojgeaaW.Mine Go.Proofs.Ytpnoakpdmojgeaa.P
open Go.ChangeMaps (open_string shut_string)
set_option linter.unusedVariables false
theorem own : ownKnob Try.prog.godebug = none := by kernel_rfl
theorem laidOut : laidOutB Try.prog = true := by kernel_rfl
set_option maxRecDepth 100000 in
theorem lifted (os : Os) (started : os.Started) (H : Type) (enc : TypeId × Value → H) :
    ReturnsInHanded {} Try.checked os 6 .any (Rows.fnExactWriteAtSpec.pre6 enc Try.prog Try.f6 Rows.fnExactWriteAtRow.domain false) (Rows.fnExactWriteAtSpec.post enc Try.prog Try.f6 false true false false) := by
  refine returnsInHanded_of_change_sized (C := Try.checked) own started (by kernel_rfl) Try.func6
    (ChangeSpec.witness6 (enc := enc) (C := Try.checked) false ⟨#[], #[.agg #[.slice none 0 0], .agg #[.int .i64 0, .int .i64 0, .int .i64 0, .int .i64 0], .int .i64 0, .int .u8 0], []⟩ 8 (by kernel_rfl) (by kernel_rfl) (by kernel_rfl) (by kernel_rfl)) ?_
  intro W base args ds gs before hval0 hW hcnd hsz0 _
  have hval : ∀ (j : Nat) t v, Try.f6.params[j]? = some t → args[j]? = some v → Value.okWide Try.prog W .any base t v := hval0
  have hW' := hW
  obtain ⟨p, q, hA0, hV, rfl, hfz, hnd⟩ := hW
  have hA : DataW.TrodAll enc Try.prog W 0 (fun _ => true) true Try.f6.params.toList args.toList ds p := hA0
  rw [Try.params6] at hA hval
  obtain ⟨v0, vs0, d0, ds0, p0, q0, hargs, rfl, rfl, h0, r0⟩ := trodAll_cons hA
  obtain ⟨v1, vs1, d1, ds1, p1, q1, rfl, rfl, rfl, h1, r1⟩ := trodAll_cons r0
  obtain ⟨v2, vs2, d2, ds2, p2, q2, rfl, rfl, rfl, h2, r2⟩ := trodAll_cons r1
  obtain ⟨v3, vs3, d3, ds3, p3, q3, rfl, rfl, rfl, h3, r3⟩ := trodAll_cons r2
  obtain ⟨rfl, rfl, rfl⟩ := trodAll_nil r3
  obtain rfl : args = #[v0, v1, v2, v3] := by cases args; simp_all
  obtain ⟨rfl, rfl⟩ := trodVars_none hV
  have k0 := h0
  have lt0 : ∀ x ∈ p0, x.block < W.heap.size := by obtain ⟨m, hm⟩ := k0; exact DataW.trod_lt m _ _ _ hm
  obtain ⟨cs0, rfl, _⟩ := okWide_struct Try.underlying31 (hval 0 31 v0 rfl rfl)
  obtain ⟨a0, hK0, ok0⟩ : ∃ a : (List (List Int)), (Kd.slice 67 (Kd.slice 5 (Kd.int .u8))).K W a cs0.toList ∧ (∀ y1 ∈ a, (∀ y2 ∈ y1, (Lit.int .u8 y2).wf = true)) := by obtain ⟨fuel, hf⟩ := h0; exact (ReadsK.struct Try.underlying31 (by kernel_rfl) (ReadsF.last rfl (ReadsK.slice Try.underlying29 (by kernel_rfl) (ReadsK.slice Try.underlying67 (by kernel_rfl) (ReadsK.int Try.underlying5))) (by kernel_rfl))) hf
  have k1 := h1
  have lt1 : ∀ x ∈ p1, x.block < W.heap.size := by obtain ⟨m, hm⟩ := k1; exact DataW.trod_lt m _ _ _ hm
  obtain ⟨cs1, rfl, _⟩ := okWide_struct Try.underlying54 (hval 1 54 v1 rfl rfl)
  obtain ⟨a1, hK1, ok1⟩ : ∃ a : (Int × (Int × (Int × Int))), (Kd.pair (Kd.int .i64) (Kd.pair (Kd.int .i64) (Kd.pair (Kd.int .i64) (Kd.int .i64)))).K W a cs1.toList ∧ ((Lit.int .i64 a.1).wf = true ∧ ((Lit.int .i64 a.2.1).wf = true ∧ ((Lit.int .i64 a.2.2.1).wf = true ∧ (Lit.int .i64 a.2.2.2).wf = true))) := by obtain ⟨fuel, hf⟩ := h1; exact (ReadsK.struct Try.underlying54 (by kernel_rfl) (ReadsF.cons rfl (ReadsK.int Try.underlying3) (by kernel_rfl) (ReadsF.cons rfl (ReadsK.int Try.underlying3) (by kernel_rfl) (ReadsF.cons rfl (ReadsK.int Try.underlying3) (by kernel_rfl) (ReadsF.last rfl (ReadsK.int Try.underlying3) (by kernel_rfl)))))) hf
  obtain ⟨a2, rfl, rfl, rfl, w2⟩ := open_int Try.underlying3 (hval 2 3 v2 rfl rfl) h2
  obtain ⟨a3, rfl, rfl, rfl, w3⟩ := open_int Try.underlying5 (hval 3 5 v3 rfl rfl) h3
  clear hA0 hval0 hsz0
  refine (FnExactWriteAt_walk W cs0 a0 hK0 ok0 cs1 a1 hK1 ok1 a2 w2 a3 w3).mono fun e W' ⟨he, bel⟩ => ?_
  subst he
  exact ⟨_, rfl, _, _, _, [], _, [], hW', trodAll_mk1 (shut_bool Try.underlying4 _), (trodAll_cons_mk (Below.trod laidOut (by kernel_rfl) (of_decide_eq_true (by kernel_rfl)) k0 bel lt0) (trodAll_cons_mk (Below.trod laidOut (by kernel_rfl) (of_decide_eq_true (by kernel_rfl)) k1 bel lt1) (trodAll_cons_mk (shut_int Try.underlying3 w2) (trodAll_cons_mk (shut_int Try.underlying5 w3) trodAll_mk0)))), rfl, bel.frame _, fun h => by cases h⟩
theorem over : Rows.fnExactWriteAtRow.holds Try.pinned (OpenSpec.ofChange Rows.fnExactWriteAtSpec) :=
  OpenClaim.holds_of_wide 6 Try.f6 rfl rfl rfl rfl rfl rfl rfl ⟨rfl, rfl, rfl, rfl, rfl⟩ rfl rfl rfl rfl rfl (by kernel_rfl) Try.func6 (by kernel_rfl)
    (of_decide_eq_true (by kernel_rfl)) (by unfold Func.isWrapper; first | (rw [if_pos (by decide +kernel)]; kernel_rfl) | (rw [if_neg (by decide +kernel)]; exact ⟨rfl, rfl⟩))
    (fun os started H enc _ => lifted os started H enc)
theorem proved : Rows.FnExactWriteAtSaid := over
end Go.Proofs.Ytpnoakpdmojgeaa.fnExactWriteAt
namespace Go.Proofs.Ytpnoakpdmojgeaa
theorem fnExactWriteAt_holds : Rows.FnExactWriteAtSaid := fnExactWriteAt.proved
#print axioms fnExactWriteAt_holds
end Go.Proofs.Ytpnoakpdmojgeaa


