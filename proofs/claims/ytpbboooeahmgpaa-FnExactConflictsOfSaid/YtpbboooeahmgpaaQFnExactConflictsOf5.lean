/- For all arguments, impl.ConflictsOf answers what spec.ConflictsOf answers, leaves its arguments alone, and shares nothing of what it returns.
   The row of the law FnExactConflictsOf, out of its walk. Conditions: none. -/
import Derived.Test.YtpbboooeahmgpaaQFnExactConflictsOf4
import Derived.Test.YtpbboooeahmgpaaRows
import Derived.WalkKit
import Derived.ProofKit
import Derived.OpenShut
import Derived.ShutString
import Derived.ChangeOld
import Derived.Below
import Derived.SizedLaws
/- markIntA2S: a slice of flat elements written in place. -/
namespace Go.Proofs.Ytpbboooeahmgpaa.P
open Go.RowKit Go.Proofs.YtpbboooeahmgpaaW.PrintWords Go.Proofs.YtpbboooeahmgpaaW.PrintMore Go.Proofs.YtpbboooeahmgpaaW.Mine
open List (setIfInBounds_toArray set_cons_zero set_cons_succ)
set_option linter.unusedVariables false
set_option linter.unusedSimpArgs false
def cellsA (x : SA2int) : List Value := [.int .i64 x.f0, .int .i64 x.f1]
def markA2 (a : Int) : SA2int := ⟨a, a + 1⟩
theorem flat_markIntA2S : FlatK kA2int cellsA 2 := ⟨rfl, fun _ => rfl, fun h => kA2int_open h, fun w base ok x => kA2int_mkM w base ok x⟩
set_option maxHeartbeats 8000000 in
set_option maxRecDepth 100000 in
theorem laws_markIntA2S_loop (g c : Nat) (l : List SA2int) (a : Int) (cur : Array Value) (w : World) (hg : w.heap[g]? = some (.cells cur 75 (0, 0))) (ht : cur.toList.take (l.length * 2) = l.flatMap cellsA) (hsz : l.length * 2 ≤ cur.size) (ha : 0 ≤ a) (hb : a + 2 * l.length ≤ 4611686018427387904) :
    Calls Try.prog 54 #[.slice (some ⟨g, 0, none⟩) l.length c, .int .i64 a] w fun e w' => e = .returned (.int .i64 (a + 2 * l.length)) ∧ ∃ cur' : Array Value, cur'.size = cur.size ∧ cur'.toList.take (l.length * 2) = (marksG (markA2) 2 a l.length).flatMap cellsA ∧ w' = w.setRow g cur' := by
  have HG := Aside0.mk hg; have HT := Aside0.mk ht; clear hg ht
  go_enter Try.func54, Try.ntmps54
  go_wp2
  go_loopg [1, 5] (l.length + 1) (fun kq v1 v5 w' => ∃ (i : Nat) (ci : Array Value), v1 = .int .i64 (a + 2 * i) ∧ v5 = .int .i64 (i : Int) ∧ Aside0 (kq + i = l.length + 1 ∧ i ≤ l.length) ∧ Aside0 (ci.size = cur.size) ∧ Aside0 (ci.toList.take (l.length * 2) = (marksG (markA2) 2 a i ++ l.drop i).flatMap cellsA) ∧ Aside0 (w' = w.setRow g ci))
  case atStart => exact ⟨0, cur, by simp, rfl, ⟨rfl, Nat.zero_le _⟩, ⟨rfl⟩, ⟨by simpa [marksG] using HT.out⟩, ⟨(setRow_self w g cur _ _ HG.out).symm⟩⟩
  case round =>
    obtain ⟨i, ci, rfl, rfl, HK, HZ, HC, HW⟩ := hrel
    by_cases hi : i < l.length
    · obtain ⟨k1, rfl⟩ : ∃ q, gk = q + 1 := ⟨gk - 1, by have := HK.out; omega⟩
      have hi1 : decide ((i : Int) < (l.length : Int)) = true := decide_eq_true (by omega)
      have p5 := eq_true (show (0 : Int) ≤ (i : Int) by omega); have q5 := eq_true (show (i : Int) < (l.length : Int) by omega)
      obtain ⟨b, hbb⟩ : ∃ b : Int, b = a + 2 * i := ⟨_, rfl⟩
      have hb0 : 0 ≤ b ∧ b + 2 ≤ 4611686018427387904 := by omega
      rw [← hbb]; have HBB := Aside0.mk hbb; clear hbb
      obtain ⟨c0_, hc0_⟩ : ∃ x, x = ci := ⟨_, rfl⟩
      have hz0_ : c0_.size = cur.size := by rw [hc0_]; exact HZ.out
      rw [← hc0_] at HC; have HW2 := HW.out; subst HW2; rw [← hc0_]
      clear hc0_ HZ HW
      refine wp_seq ?_
      refine wp_seq ?_
      refine mReg [0, 1, 2, 3] rfl rfl ?_
      refine tlP (v := .int .i64 ((i : Int))) 7 rfl ?_
      simp only [Act.put, setIfInBounds_toArray, set_cons_zero, set_cons_succ]
      refine tlP (v := .slice (some ⟨g, 0, none⟩) l.length c) 8 rfl ?_
      simp only [Act.put, setIfInBounds_toArray, set_cons_zero, set_cons_succ]
      refine tlP (v := .int .i64 (l.length : Int)) 9 (hr := by go_simp; try rfl) rfl ?_
      simp only [Act.put, setIfInBounds_toArray, set_cons_zero, set_cons_succ]
      refine tlP (v := .bool true) 10 rfl ?_ (hr := by go_simp; try simp [hi])
      simp only [Act.put, setIfInBounds_toArray, set_cons_zero, set_cons_succ]
      refine tl0 ?_
      refine wp_cond_true rfl ?_
      refine wp_skip ?_
      refine thN ?_
      refine wp_seq ?_
      refine wp_block ?_
      refine wp_seq ?_
      refine mReg [0] rfl rfl ?_
      refine tlP (v := .int .i64 0) 6 rfl ?_
      simp only [Act.put, setIfInBounds_toArray, set_cons_zero, set_cons_succ]
      refine tl0 ?_
      refine wp_block ?_
      go_loopg [1, 6] 3 (fun kq v1 v6 w' => (v1 = .int .i64 (b) ∧ v6 = .int .i64 0 ∧ Aside0 (kq = 3) ∧ Aside0 (w' = w.setRow g c0_)) ∨ (v1 = .int .i64 (b + 1) ∧ v6 = .int .i64 1 ∧ Aside0 (kq = 2) ∧ Aside0 (w' = w.setRow g (c0_.setIfInBounds (i * 2) (.int .i64 (b))))) ∨ (v1 = .int .i64 (b + 2) ∧ v6 = .int .i64 2 ∧ Aside0 (kq = 1) ∧ Aside0 (w' = w.setRow g ((c0_.setIfInBounds (i * 2) (.int .i64 (b))).setIfInBounds (i * 2 + 1) (.int .i64 (b + 1))))))
      case atStart => exact .inl ⟨rfl, rfl, ⟨rfl⟩, ⟨rfl⟩⟩
      case round =>
        rcases hrel with ⟨rfl, rfl, HKj, HWj⟩ | ⟨rfl, rfl, HKj, HWj⟩ | ⟨rfl, rfl, HKj, HWj⟩
        · have HW3 := HWj.out; subst HW3
          obtain ⟨k2, rfl⟩ : ∃ q, gk = q + 1 := ⟨gk - 1, by have := HKj.out; omega⟩
          refine wp_seq ?_
          refine wp_seq ?_
          refine mReg [0, 1] rfl rfl ?_
          refine tlP (v := .int .i64 0) 13 rfl ?_
          simp only [Act.put, setIfInBounds_toArray, set_cons_zero, set_cons_succ]
          refine tlP (v := .bool true) 14 rfl ?_ (hr := by go_simp; try rfl)
          simp only [Act.put, setIfInBounds_toArray, set_cons_zero, set_cons_succ]
          refine tl0 ?_
          refine wp_cond_true rfl ?_
          refine wp_skip ?_
          refine thN ?_
          refine wp_seq ?_
          refine wp_block ?_
          refine wp_seq ?_
          refine mReg [0, 1, 2, 3, 4, 5, 6] rfl rfl ?_
          refine tlP (v := .slice (some ⟨g, 0, none⟩) l.length c) 17 rfl ?_
          simp only [Act.put, setIfInBounds_toArray, set_cons_zero, set_cons_succ]
          refine tlP (v := .int .i64 ((i : Int))) 18 rfl ?_
          simp only [Act.put, setIfInBounds_toArray, set_cons_zero, set_cons_succ]
          refine tlP (v := .int .i64 0) 19 rfl ?_
          simp only [Act.put, setIfInBounds_toArray, set_cons_zero, set_cons_succ]
          refine tlP (v := .int .i64 (b)) 20 rfl ?_
          simp only [Act.put, setIfInBounds_toArray, set_cons_zero, set_cons_succ]
          refine tlP (v := .pointer (some ⟨g, i * 2, none⟩)) 21 (hr := by go_simp; try rfl) rfl ?_
          simp only [Act.put, setIfInBounds_toArray, set_cons_zero, set_cons_succ]
          refine tlP (v := .pointer (some ⟨g, i * 2, none⟩)) 22 (hr := by go_simp; try rfl) rfl ?_
          simp only [Act.put, setIfInBounds_toArray, set_cons_zero, set_cons_succ]
          have hc_ : (w.setRow g c0_).cell? ⟨g, i * 2, none⟩ = some (c0_.getD (i * 2) undef) := mCell HG.out (by simp only [hz0_]; omega)
          have hf_ : (w.setRow g c0_).frozen? ⟨g, i * 2, none⟩ = false := mFrozen HG.out _
          refine mSkip (w2 := w.setRow g (c0_.setIfInBounds (i * 2) (.int .i64 (b)))) rfl (by rw [← mSet]; go_simp; try rfl) ?_
          clear hc_ hf_
          obtain ⟨c1_, hc1_⟩ : ∃ x, x = c0_.setIfInBounds (i * 2) (.int .i64 (b)) := ⟨_, rfl⟩
          have hz1_ : c1_.size = cur.size := by rw [hc1_, Array.size_setIfInBounds, hz0_]
          rw [← hc1_]; have HC1_ := Aside0.mk hc1_; clear hc1_
          refine tl0 ?_
          refine mReg [0, 1, 2] rfl rfl ?_
          refine tlP (v := .int .i64 (b)) 23 rfl ?_
          simp only [Act.put, setIfInBounds_toArray, set_cons_zero, set_cons_succ]
          refine tlP (v := .int .i64 (b + 1)) 24 rfl ?_ (hr := run_arith (q := .add) (k := .i64) (m := b) (n := 1) (r := b + 1) rfl rfl rfl (.inl ⟨rfl, by rw [show (b : Int) + 1 = b + 1 by omega]; exact i64_ok (n := b + 1) (by omega) (by omega)⟩))
          simp only [Act.put, setIfInBounds_toArray, set_cons_zero, set_cons_succ]
          refine tlP (v := .int .i64 (b + 1)) 1 rfl ?_
          simp only [Act.put, setIfInBounds_toArray, set_cons_zero, set_cons_succ]
          refine tlE ?_
          show Exit.inBlock _ _ _ _ _
          simp only [Exit.inBlock]
          refine thN ?_
          refine mReg [0, 1, 2] rfl rfl ?_
          refine tlP (v := .int .i64 0) 15 rfl ?_
          simp only [Act.put, setIfInBounds_toArray, set_cons_zero, set_cons_succ]
          refine tlP (v := .int .i64 1) 16 (hr := by go_simp; try rfl) rfl ?_
          simp only [Act.put, setIfInBounds_toArray, set_cons_zero, set_cons_succ]
          refine tlP (v := .int .i64 1) 6 rfl ?_
          simp only [Act.put, setIfInBounds_toArray, set_cons_zero, set_cons_succ]
          refine tlE ?_
          go_wp2
          go_roundg k2
          case measure => have := HKj.out; omega
          case rel => exact .inr (.inl ⟨rfl, rfl, ⟨by have := HKj.out; omega⟩, ⟨by rw [HC1_.out]⟩⟩)
        · have HW3 := HWj.out; subst HW3
          obtain ⟨k2, rfl⟩ : ∃ q, gk = q + 1 := ⟨gk - 1, by have := HKj.out; omega⟩
          obtain ⟨c1_, hc1_⟩ : ∃ x, x = (c0_.setIfInBounds (i * 2) (.int .i64 (b))) := ⟨_, rfl⟩
          have hz1_ : c1_.size = cur.size := by rw [hc1_]; simp [hz0_]
          rw [← hc1_]; have HC1_ := Aside0.mk hc1_; clear hc1_
          refine wp_seq ?_
          refine wp_seq ?_
          refine mReg [0, 1] rfl rfl ?_
          refine tlP (v := .int .i64 1) 13 rfl ?_
          simp only [Act.put, setIfInBounds_toArray, set_cons_zero, set_cons_succ]
          refine tlP (v := .bool true) 14 rfl ?_ (hr := by go_simp; try rfl)
          simp only [Act.put, setIfInBounds_toArray, set_cons_zero, set_cons_succ]
          refine tl0 ?_
          refine wp_cond_true rfl ?_
          refine wp_skip ?_
          refine thN ?_
          refine wp_seq ?_
          refine wp_block ?_
          refine wp_seq ?_
          refine mReg [0, 1, 2, 3, 4, 5, 6] rfl rfl ?_
          refine tlP (v := .slice (some ⟨g, 0, none⟩) l.length c) 17 rfl ?_
          simp only [Act.put, setIfInBounds_toArray, set_cons_zero, set_cons_succ]
          refine tlP (v := .int .i64 ((i : Int))) 18 rfl ?_
          simp only [Act.put, setIfInBounds_toArray, set_cons_zero, set_cons_succ]
          refine tlP (v := .int .i64 1) 19 rfl ?_
          simp only [Act.put, setIfInBounds_toArray, set_cons_zero, set_cons_succ]
          refine tlP (v := .int .i64 (b + 1)) 20 rfl ?_
          simp only [Act.put, setIfInBounds_toArray, set_cons_zero, set_cons_succ]
          refine tlP (v := .pointer (some ⟨g, i * 2, none⟩)) 21 (hr := by go_simp; try rfl) rfl ?_
          simp only [Act.put, setIfInBounds_toArray, set_cons_zero, set_cons_succ]
          refine tlP (v := .pointer (some ⟨g, i * 2 + 1, none⟩)) 22 (hr := by go_simp; try rfl) rfl ?_
          simp only [Act.put, setIfInBounds_toArray, set_cons_zero, set_cons_succ]
          have hc_ : (w.setRow g c1_).cell? ⟨g, i * 2 + 1, none⟩ = some (c1_.getD (i * 2 + 1) undef) := mCell HG.out (by simp only [hz1_]; omega)
          have hf_ : (w.setRow g c1_).frozen? ⟨g, i * 2 + 1, none⟩ = false := mFrozen HG.out _
          refine mSkip (w2 := w.setRow g (c1_.setIfInBounds (i * 2 + 1) (.int .i64 (b + 1)))) rfl (by rw [← mSet]; go_simp; try rfl) ?_
          clear hc_ hf_
          obtain ⟨c2_, hc2_⟩ : ∃ x, x = c1_.setIfInBounds (i * 2 + 1) (.int .i64 (b + 1)) := ⟨_, rfl⟩
          have hz2_ : c2_.size = cur.size := by rw [hc2_, Array.size_setIfInBounds, hz1_]
          rw [← hc2_]; have HC2_ := Aside0.mk hc2_; clear hc2_
          refine tl0 ?_
          refine mReg [0, 1, 2] rfl rfl ?_
          refine tlP (v := .int .i64 (b + 1)) 23 rfl ?_
          simp only [Act.put, setIfInBounds_toArray, set_cons_zero, set_cons_succ]
          refine tlP (v := .int .i64 (b + 2)) 24 rfl ?_ (hr := run_arith (q := .add) (k := .i64) (m := b + 1) (n := 1) (r := b + 2) rfl rfl rfl (.inl ⟨rfl, by rw [show (b + 1 : Int) + 1 = b + 2 by omega]; exact i64_ok (n := b + 2) (by omega) (by omega)⟩))
          simp only [Act.put, setIfInBounds_toArray, set_cons_zero, set_cons_succ]
          refine tlP (v := .int .i64 (b + 2)) 1 rfl ?_
          simp only [Act.put, setIfInBounds_toArray, set_cons_zero, set_cons_succ]
          refine tlE ?_
          show Exit.inBlock _ _ _ _ _
          simp only [Exit.inBlock]
          refine thN ?_
          refine mReg [0, 1, 2] rfl rfl ?_
          refine tlP (v := .int .i64 1) 15 rfl ?_
          simp only [Act.put, setIfInBounds_toArray, set_cons_zero, set_cons_succ]
          refine tlP (v := .int .i64 2) 16 (hr := by go_simp; try rfl) rfl ?_
          simp only [Act.put, setIfInBounds_toArray, set_cons_zero, set_cons_succ]
          refine tlP (v := .int .i64 2) 6 rfl ?_
          simp only [Act.put, setIfInBounds_toArray, set_cons_zero, set_cons_succ]
          refine tlE ?_
          go_wp2
          go_roundg k2
          case measure => have := HKj.out; omega
          case rel => exact .inr (.inr (⟨rfl, rfl, ⟨by have := HKj.out; omega⟩, ⟨by rw [HC2_.out, HC1_.out]⟩⟩))
        · have HW3 := HWj.out; subst HW3
          obtain ⟨k2, rfl⟩ : ∃ q, gk = q + 1 := ⟨gk - 1, by have := HKj.out; omega⟩
          obtain ⟨c2_, hc2_⟩ : ∃ x, x = ((c0_.setIfInBounds (i * 2) (.int .i64 (b))).setIfInBounds (i * 2 + 1) (.int .i64 (b + 1))) := ⟨_, rfl⟩
          have hz2_ : c2_.size = cur.size := by rw [hc2_]; simp [hz0_]
          rw [← hc2_]; have HC2_ := Aside0.mk hc2_; clear hc2_
          go_wp2
          go_roundg k1
          case measure => have := HK.out; omega
          case rel => exact ⟨i + 1, c2_, by rw [HBB.out]; congr 1; push_cast; omega, by congr 1, ⟨by have := HK.out; omega, by omega⟩, ⟨hz2_⟩, ⟨marks_round flat_markIntA2S.len (markA2) a l i hi HC.out (by rw [hz0_]; exact hsz) (by rw [HC2_.out, HBB.out]; rfl)⟩, ⟨rfl⟩⟩
    · have hkk := HK.out
      by_cases hge : i = l.length
      · subst hge
        have HW2 := HW.out; subst HW2
        go_wp2
        go_ret
        exact ⟨by first | rfl | simp, ci, HZ.out, by simpa using HC.out, rfl⟩
      · exfalso; omega
set_option maxHeartbeats 1600000 in
set_option maxRecDepth 100000 in
theorem laws_markIntA2S_nil (A : Option Addr) (c : Nat) (a : Int) (w : World) : Calls Try.prog 54 #[.slice A 0 c, .int .i64 a] w fun e w' => e = .returned (.int .i64 a) ∧ w' = w := by
  go_enter Try.func54, Try.ntmps54
  go_wp2
  go_loopg [1, 5] 1 (fun kq v1 v5 w' => v1 = .int .i64 a ∧ v5 = .int .i64 (0 : Int) ∧ w' = w)
  case atStart => exact ⟨rfl, rfl, rfl⟩
  case round =>
    obtain ⟨rfl, rfl, rfl⟩ := hrel
    go_wp2
    go_ret
    exact ⟨rfl, rfl⟩
def laws_markIntA2S.f (l : List SA2int) (a : Int) : Option (Int × List SA2int) := if 0 ≤ a ∧ a + 2 * l.length ≤ 4611686018427387904 then some (a + 2 * l.length, marksG (markA2) 2 a l.length) else none
theorem laws_markIntA2S.calls (P_ : Nat → Prop) (u : Value) (l : List SA2int) (a : Int) (r1 : Int) (r2 : List SA2int) (w0 w : World) (hB : Below w0.heap.size w0 w) (ho : Kd.R kA2int 75 w w0.heap.size P_ u l) (h : laws_markIntA2S.f l a = some (r1, r2)) :
    Calls Try.prog 54 #[u, .int .i64 a] w fun e w' => e = .returned (.int .i64 r1) ∧ Kd.R kA2int 75 w' w0.heap.size P_ u r2 ∧ Below w0.heap.size w0 w' ∧ Kept w w' P_ := by
  unfold laws_markIntA2S.f at h
  split at h
  next hh =>
    obtain ⟨rfl, rfl⟩ : a + 2 * l.length = r1 ∧ marksG (markA2) 2 a l.length = r2 := by simpa using h
    by_cases hl : 0 < l.length
    · obtain ⟨g, cap, cur, hv, hP, hg, hsz, htk, hge, hback⟩ := R_blk flat_markIntA2S ho hl
      subst hv
      refine (laws_markIntA2S_loop g cap l a cur w hg htk hsz hh.1 hh.2).mono ?_
      rintro e w' ⟨rfl, cur', hs', ht', hw'⟩
      exact ⟨rfl, marks_fin flat_markIntA2S hB ho rfl hg hP hge hback hs' ht' hw'⟩
    · obtain rfl : l = [] := List.eq_nil_of_length_eq_zero (by omega)
      obtain ⟨A, c, rfl⟩ := Kd.R_slice ho
      refine (laws_markIntA2S_nil A c a w).mono ?_
      rintro e w' ⟨rfl, rfl⟩
      exact ⟨by simp, ho, hB, Kept.refl _ _⟩
  next => cases h
end Go.Proofs.Ytpbboooeahmgpaa.P


/- heldIntA2S: marks of pairs that are held. -/
namespace Go.Proofs.Ytpbboooeahmgpaa.P
open Go.RowKit Go.Proofs.YtpbboooeahmgpaaW.PrintWords Go.Proofs.YtpbboooeahmgpaaW.PrintLast Go.Proofs.YtpbboooeahmgpaaW.PrintMore Go.Proofs.YtpbboooeahmgpaaW.Mine
set_option linter.unusedVariables false
set_option linter.unusedSimpArgs false
theorem marksA_get (l : List SA2int) (a : Int) (h : l = marksG markA2 2 a l.length) (i : Nat) (hi : i < l.length) : rd_TA2int l (i : Int) = markA2 (a + 2 * i) := by
  have key : ∀ (n : Nat) (a : Int) (i : Nat), i < n → (marksG markA2 2 a n)[i]? = some (markA2 (a + 2 * i)) := by
    intro n
    induction n with
    | zero => intro a i hi; omega
    | succ n ih =>
      intro a i hi
      cases i with
      | zero => simp [marksG]
      | succ i =>
        rw [show marksG markA2 2 a (n + 1) = markA2 a :: marksG markA2 2 (a + 2) n from rfl, List.getElem?_cons_succ, ih (a + 2) i (by omega)]
        congr 2
        push_cast
        omega
  have := key l.length a i hi
  rw [← h] at this
  simp [rd_TA2int, this]
set_option maxHeartbeats 4000000 in
set_option maxRecDepth 100000 in
theorem heldIntA2S_c (A : Option Addr) (c : Nat) (l : List SA2int) (a : Int) (w : World) (hr : Kd.C kA2int w A l.length l) (hl : l = marksG markA2 2 a l.length) (ha : 0 ≤ a) (hb : a + 2 * l.length ≤ 4611686018427387904) :
    Calls Try.prog 55 #[.slice A l.length c, .int .i64 a] w fun e w' => e = .returned (.int .i64 (a + 2 * l.length)) ∧ w' = w := by
  have HR := Aside0.mk hr; have HL := Aside0.mk hl
  clear hr hl
  go_enter Try.func55, Try.ntmps55
  go_wp2
  go_loopg [1, 5] (l.length + 1) (fun kq v1 v5 w' => ∃ i : Nat, v1 = .int .i64 (a + 2 * i) ∧ v5 = .int .i64 (i : Int) ∧ Aside0 (kq + i = l.length + 1 ∧ i ≤ l.length) ∧ w = w')
  case atStart => exact ⟨0, by simp, rfl, ⟨rfl, Nat.zero_le _⟩, rfl⟩
  case round =>
    obtain ⟨i, rfl, rfl, HK, rfl⟩ := hrel
    have hkk := HK.out
    by_cases hi : i < l.length
    · obtain ⟨k1, rfl⟩ : ∃ q, gk = q + 1 := ⟨gk - 1, by omega⟩
      have hlt' : (i : Int) < (l.length : Int) := by omega
      have hi0 : (0 : Int) ≤ (i : Int) := by omega
      obtain ⟨ad, e, hx0, hx1⟩ := at_TA2int HR.out (i : Int) hi0 hlt'
      cases e
      rw [marksA_get l a HL.out i hi] at hx0 hx1
      obtain ⟨b, hbb⟩ : ∃ b : Int, b = a + 2 * i := ⟨_, rfl⟩
      have hb0 : 0 ≤ b ∧ b + 2 ≤ 4611686018427387904 := by omega
      simp only [markA2] at hx0 hx1
      rw [← hbb] at hx0 hx1 ⊢
      rw [Int.toNat_natCast] at hx0 hx1
      have HBB := Aside0.mk hbb; clear hbb hkk
      go_wp2
      go_loopg [1, 6] 3 (fun kq v1 v6 w' => (v1 = .int .i64 b ∧ v6 = .int .i64 0 ∧ Aside0 (kq = 3) ∧ w = w') ∨ (v1 = .int .i64 (b + 1) ∧ v6 = .int .i64 1 ∧ Aside0 (kq = 2) ∧ w = w') ∨ (v1 = .int .i64 (b + 2) ∧ v6 = .int .i64 2 ∧ Aside0 (kq = 1) ∧ w = w'))
      case atStart => exact .inl ⟨rfl, rfl, ⟨rfl⟩, rfl⟩
      case round =>
        rcases hrel with ⟨rfl, rfl, HKj, rfl⟩ | ⟨rfl, rfl, HKj, rfl⟩ | ⟨rfl, rfl, HKj, rfl⟩
        · obtain ⟨k2, rfl⟩ : ∃ q, gk = q + 1 := ⟨gk - 1, by have := HKj.out; omega⟩
          go_wp2
          go_roundg k2
          case measure => have := HKj.out; omega
          case rel => exact .inr (.inl ⟨congrArg (Value.int .i64) (by omega), rfl, ⟨by have := HKj.out; omega⟩, rfl⟩)
        · obtain ⟨k2, rfl⟩ : ∃ q, gk = q + 1 := ⟨gk - 1, by have := HKj.out; omega⟩
          go_wp2
          go_roundg k2
          case measure => have := HKj.out; omega
          case rel => exact .inr (.inr ⟨congrArg (Value.int .i64) (by omega), rfl, ⟨by have := HKj.out; omega⟩, rfl⟩)
        · go_wp2
          go_roundg k1
          case measure => have := HK.out; omega
          case rel => exact ⟨i + 1, by rw [HBB.out]; congr 1; push_cast; omega, by congr 1, ⟨by have := HK.out; omega, by omega⟩, rfl⟩
    · obtain rfl : i = l.length := by omega
      go_wp2
      go_ret
      exact ⟨rfl, rfl⟩
def prA (x : SA2int) : Int × Int := (x.f0, x.f1)
theorem prA_inj {l l' : List SA2int} (h : l.map prA = l'.map prA) : l = l' := by
  induction l generalizing l' with
  | nil => cases l' with
    | nil => rfl
    | cons y l' => simp at h
  | cons x l ih => cases l' with
    | nil => simp at h
    | cons y l' =>
      simp only [List.map_cons, List.cons.injEq] at h
      rw [ih h.2]
      obtain ⟨x0, x1⟩ := x
      obtain ⟨y0, y1⟩ := y
      have h1 := h.1
      simp only [prA, Prod.mk.injEq] at h1
      rw [h1.1, h1.2]
def laws_heldIntA2S.f (l : List SA2int) (a : Int) : Option Int := if l.map prA = (marksG markA2 2 a l.length).map prA ∧ 0 ≤ a ∧ a + 2 * l.length ≤ 4611686018427387904 then some (a + 2 * l.length) else none
theorem laws_heldIntA2S.calls (A0 : Option Addr) (c0 : Nat) (l0 : List SA2int) (a1 : Int) (r : Int) (w : World) (hr0 : Kd.C kA2int w A0 l0.length l0) (hc0 : l0.length ≤ c0) (h : laws_heldIntA2S.f l0 a1 = some r) :
    Calls Try.prog 55 #[.slice A0 l0.length c0, .int .i64 a1] w fun e w' => e = .returned (.int .i64 r) ∧ Below w.heap.size w w' := by
  unfold laws_heldIntA2S.f at h
  split at h
  next hh =>
    obtain rfl := Option.some.inj h
    refine (heldIntA2S_c A0 c0 l0 a1 w hr0 (prA_inj hh.1) hh.2.1 hh.2.2).mono ?_
    rintro e w' ⟨rfl, rfl⟩
    exact ⟨rfl, Below.refl _ _⟩
  next => cases h
theorem heldIntA2S_f (n : Nat) (a : Int) (h0 : 0 ≤ a) (h1 : a + 2 * n ≤ 4611686018427387904) : laws_heldIntA2S.f (marksG markA2 2 a n) a = some (a + 2 * n) := by
  unfold laws_heldIntA2S.f
  rw [marksG_length]
  exact if_pos ⟨rfl, h0, h1⟩
theorem markA2s (l : List SA2int) (a : Int) (h0 : 0 ≤ a) (h : a + 2 * l.length ≤ 4611686018427387904) : laws_markIntA2S.f l a = some (a + 2 * (l.length : Int), marksG markA2 2 a l.length) := if_pos ⟨h0, h⟩
end Go.Proofs.Ytpbboooeahmgpaa.P


/- eqIntA2, as far as the laws need it: equal pairs are equal. -/
namespace Go.Proofs.Ytpbboooeahmgpaa.P
open Go.RowKit Go.Proofs.YtpbboooeahmgpaaW.PrintWords Go.Proofs.YtpbboooeahmgpaaW.PrintLast Go.Proofs.YtpbboooeahmgpaaW.PrintMore
set_option linter.unusedVariables false
set_option linter.unusedSimpArgs false
set_option maxHeartbeats 1600000 in
set_option maxRecDepth 100000 in
theorem eqIntA2_c (a b : Int) (w : World) : Calls Try.prog 46 #[.agg #[.int .i64 a, .int .i64 b], .agg #[.int .i64 a, .int .i64 b]] w fun e w' => e = .returned (.bool true) ∧ Below w.heap.size w w' := by
  go_enter Try.func46, Try.ntmps46
  go_wp2
  go_loopw [5] (fun v5 wr => ∃ i : Nat, i ≤ 2 ∧ v5 = .int .i64 (i : Int) ∧ Aside0 (Below (w.heap.size + 2) ((w.alloc (.cells #[.int .i64 a, .int .i64 b] 75 (0, 0))).alloc (.cells #[.int .i64 a, .int .i64 b] 75 (0, 0))) wr)) (fun v5 _ => 2 - (intOf v5).toNat)
  case atStart => exact ⟨0, Nat.zero_le _, rfl, ⟨Below.refl _ _⟩⟩
  case round =>
    obtain ⟨i, hi, rfl, HB⟩ := hrel
    have c0 : wr.cell? ⟨w.heap.size, 0, none⟩ = some (.int .i64 a) := (HB.out.cell (p := ⟨w.heap.size, 0, none⟩) (by simp)).trans (by simp)
    have c1 : wr.cell? ⟨w.heap.size, 1, none⟩ = some (.int .i64 b) := (HB.out.cell (p := ⟨w.heap.size, 1, none⟩) (by simp)).trans (by simp)
    have c2 : wr.cell? ⟨w.heap.size + 1, 0, none⟩ = some (.int .i64 a) := (HB.out.cell (p := ⟨w.heap.size + 1, 0, none⟩) (by simp)).trans (by simp)
    have c3 : wr.cell? ⟨w.heap.size + 1, 1, none⟩ = some (.int .i64 b) := (HB.out.cell (p := ⟨w.heap.size + 1, 1, none⟩) (by simp)).trans (by simp)
    have hcase : i = 0 ∨ i = 1 ∨ i = 2 := by omega
    rcases hcase with rfl | rfl | rfl
    · go_wp2
      go_quiet (fail)
      go_wp2
      go_roundw
      case rel => exact ⟨1, by omega, by go_num, ⟨by first | exact HB.out | exact pw_below_drewN HB.out _ | exact HB.out.trans ((pw_below_drewN (Below.refl _ _) _).mono (by have := HB.out.size; simp at this; omega))⟩⟩
      case measure => simp [intOf]
    · go_wp2
      go_quiet (fail)
      go_wp2
      go_roundw
      case rel => exact ⟨2, by omega, by go_num, ⟨by first | exact HB.out | exact HB.out.trans ((pw_below_drewN (Below.refl _ _) _).mono (by have := HB.out.size; simp at this; omega))⟩⟩
      case measure => simp [intOf]
    · go_wp2
      go_ret
      exact ⟨rfl, (((Below.refl _ _).alloc (Nat.le_refl _) _).alloc (by simp) _).trans (HB.out.mono (by omega))⟩
def laws_eqIntA2.f (a0_0 a0_1 a1_0 a1_1 : Int) : Option Bool := if a0_0 = a1_0 ∧ a0_1 = a1_1 then some true else none
theorem laws_eqIntA2.calls (a0_0 : Int) (a0_1 : Int) (a1_0 : Int) (a1_1 : Int) (r : Bool) (w : World) (h : laws_eqIntA2.f a0_0 a0_1 a1_0 a1_1 = some r) :
    Calls Try.prog 46 #[.agg #[.int .i64 a0_0, .int .i64 a0_1], .agg #[.int .i64 a1_0, .int .i64 a1_1]] w fun e w' => e = .returned (.bool r) ∧ Below w.heap.size w w' := by
  unfold laws_eqIntA2.f at h
  split at h
  next hh =>
    obtain rfl := Option.some.inj h
    obtain ⟨rfl, rfl⟩ := hh
    exact eqIntA2_c _ _ w
  next => cases h
end Go.Proofs.Ytpbboooeahmgpaa.P


namespace Go.Proofs.Ytpbboooeahmgpaa.P
open Go.RowKit Go.Proofs.YtpbboooeahmgpaaW.PrintWords Go.Proofs.YtpbboooeahmgpaaW.PrintLast Go.Proofs.YtpbboooeahmgpaaW.PrintMore
attribute [local go_sem] max2_int min2_int max_two min_two max_three min_three max_four min_four   -- for this text's walks alone
set_option linter.unusedVariables false
set_option linter.unusedSimpArgs false

def laws_eqIntA2S.l0 : Nat → List (SA2int) → List (SA2int) → Int → Option (Bool)
  | 0, _, _, _ => none
  | k + 1, x0, x1, x5 => if x5 < (x0.length : Int) then (if 0 ≤ x5 then (if x5 < (x1.length : Int) then ((laws_eqIntA2.f ((rd_TA2int x0 x5).f0) ((rd_TA2int x0 x5).f1) ((rd_TA2int x1 x5).f0) ((rd_TA2int x1 x5).f1)).bind fun t986 => (if t986 = true then (laws_eqIntA2S.l0 k x0 x1 (wrap64 (x5 + 1))) else (some false))) else (none)) else (none)) else (some true)
def laws_eqIntA2S.f (k : Nat) (l0 : List (SA2int)) (l1 : List (SA2int)) : Option (Bool) := if (l0.length : Int) = (l1.length : Int) then (laws_eqIntA2S.l0 k l0 l1 0) else (some false)
def laws_eqIntA2S.T6 : Bool × List (List Nat × List Nat) := (true, [([], []), ([], []), ([0, 1], [0, 1]), ([2], [2]), ([], []), ([], []), ([4, 5], [4, 5]), ([6], [6]), ([3, 7], [3, 7]), ([8], [8])])
def laws_eqIntA2S.B6 : List Nat := [0, 0, 3, 7, 0, 0, 48, 112, 255, 511]
theorem laws_eqIntA2S.tab6 : rtab .any (opsOf Try.f53 6) = laws_eqIntA2S.T6 := by kernel_rfl
theorem laws_eqIntA2S.bits6 : waitsOk laws_eqIntA2S.T6.2 laws_eqIntA2S.B6 = true := by kernel_rfl
set_option maxHeartbeats 8000000 in
set_option maxRecDepth 100000 in
theorem laws_eqIntA2S.calls (k : Nat) (A0 : Option Addr) (c0 : Nat) (l0 : List (SA2int)) (A1 : Option Addr) (c1 : Nat) (l1 : List (SA2int)) (r : Bool) (w : World) (hr0 : Kd.C kA2int w A0 l0.length l0) (hc0 : l0.length ≤ c0) (hr1 : Kd.C kA2int w A1 l1.length l1) (hc1 : l1.length ≤ c1) (h : laws_eqIntA2S.f k l0 l1 = some r) :
    Calls Try.prog 53 #[.slice A0 l0.length c0, .slice A1 l1.length c1] w fun e w' => e = .returned (.bool r) ∧ Below w.heap.size w w' := by
  have hu75 := Try.underlying75
  have HR0 := Aside0.mk hr0
  have HC0 := Aside0.mk hc0
  clear hr0 hc0
  have HR1 := Aside0.mk hr1
  have HC1 := Aside0.mk hc1
  clear hr1 hc1
  have HB := Aside0.mk (Below.refl w.heap.size w)
  have H : (if (l0.length : Int) = (l1.length : Int) then (laws_eqIntA2S.l0 k l0 l1 0) else (some false)) = some r := h
  clear h
  by_cases c3 : (l0.length : Int) = (l1.length : Int)
  · rw [if_pos c3] at H
    have c3b0 : ((l0.length : Int) == (l1.length : Int)) = true := beq_iff_eq.mpr c3
    have c3b1 : ((l0.length : Int) != (l1.length : Int)) = false := bne_eq_false_iff_eq.mpr c3
    have c3b2 : (l0.length == l1.length) = true := by first | simpa using c3 | (simp at c3 ⊢; omega)
    clear c3
    have H' := Aside0.mk H
    clear H
    go_enter Try.func53, Try.ntmps53
    go_wp2
    go_loopg [5] k (fun kq v5 w' => ∃ (x5_1 : Int), v5 = .int .i64 x5_1 ∧ Aside0 (laws_eqIntA2S.l0 kq l0 l1 x5_1 = some r) ∧ Aside0 (kq ≤ k) ∧ Aside0 (Below w.heap.size w w'))
    case atStart => exact ⟨(0), (by first | rfl | (simp; done) | (simp [*]; done)), H', ⟨Nat.le_refl _⟩, ⟨by repeat (first | (with_reducible first | exact HB.out | apply below_alloc | apply pw_below_drewN | apply below_drew1) | exact HB.out)⟩⟩
    case round =>
      clear H'
      try clear c1
      try clear p2
      try clear c3
      try clear c3b0
      try clear c3b1
      try clear c3b2
      obtain ⟨x5_1, rfl, HA, HK1, HB⟩ := hrel
      cases gk with
      | zero => exact absurd HA.out (by simp [laws_eqIntA2S.l0])
      | succ k1 =>
        have H := HA.out
        clear HA
        simp only [laws_eqIntA2S.l0] at H
        by_cases c4 : x5_1 < (l0.length : Int)
        · rw [if_pos c4] at H
          have c4b0 : decide (x5_1 < (l0.length : Int)) = true := decide_eq_true c4
          clear c4
          by_cases c5 : 0 ≤ x5_1
          · rw [if_pos c5] at H
            have c5b0 : decide (0 ≤ x5_1) = true := decide_eq_true c5
            clear c5
            by_cases c6 : x5_1 < (l1.length : Int)
            · rw [if_pos c6] at H
              have c6b0 : decide (x5_1 < (l1.length : Int)) = true := decide_eq_true c6
              clear c6
              replace H := Option.bind_eq_some_iff.mp H
              obtain ⟨t986, A70, H⟩ := H
              replace H : (if t986 = true then (laws_eqIntA2S.l0 k1 l0 l1 (wrap64 (x5_1 + 1))) else (some false)) = some r := H
              have A7 := Aside0.mk A70
              clear A70
              by_cases c8 : t986 = true
              · subst c8
                have H1 : (laws_eqIntA2S.l0 k1 l0 l1 (wrap64 (x5_1 + 1))) = some r := by rw [if_pos rfl] at H; exact H
                clear H
                have H := H1
                clear H1
                have H' := Aside0.mk H
                clear H
                try go_wp2
                have n0_ := Aside0.mk (below_drew1 HB.out)
                clear HB
                have HB := n0_
                clear n0_
                have p984 : 0 ≤ (x5_1 : Int) := of_decide_eq_true (by first | (with_reducible assumption) | assumption)
                have q984 : x5_1 < (l0.length : Int) := of_decide_eq_true (by first | (with_reducible assumption) | assumption)
                obtain ⟨ad984, e984, hx984_0, hx984_1⟩ := at_TA2int HR0.out x5_1 p984 q984
                have hw984_1 := hx984_1
                have hw984_0 := hx984_0
                cases e984
                replace hx984_0 := (HB.out.cell (World.block_lt_of_cell? w _ hx984_0)).trans hx984_0
                replace hx984_1 := (HB.out.cell (World.block_lt_of_cell? w _ hx984_1)).trans hx984_1
                replace p984 := eq_true p984
                replace q984 := eq_true q984
                have p985 : 0 ≤ (x5_1 : Int) := of_decide_eq_true (by first | (with_reducible assumption) | assumption)
                have q985 : x5_1 < (l1.length : Int) := of_decide_eq_true (by first | (with_reducible assumption) | assumption)
                obtain ⟨ad985, e985, hx985_0, hx985_1⟩ := at_TA2int HR1.out x5_1 p985 q985
                have hw985_1 := hx985_1
                have hw985_0 := hx985_0
                cases e985
                replace hx985_0 := (HB.out.cell (World.block_lt_of_cell? w _ hx985_0)).trans hx985_0
                replace hx985_1 := (HB.out.cell (World.block_lt_of_cell? w _ hx985_1)).trans hx985_1
                replace p985 := eq_true p985
                replace q985 := eq_true q985
                refine start_ (n := 10) (S := fun w' => w'.cell? (ad984.add ((x5_1).toNat * 2)) = some (.int .i64 ((rd_TA2int l0 x5_1).f0)) ∧ w'.cell? ⟨(ad984.add ((x5_1).toNat * 2)).block, (ad984.add ((x5_1).toNat * 2)).off + 1, none⟩ = some (.int .i64 ((rd_TA2int l0 x5_1).f1)) ∧ w'.cell? (ad985.add ((x5_1).toNat * 2)) = some (.int .i64 ((rd_TA2int l1 x5_1).f0)) ∧ w'.cell? ⟨(ad985.add ((x5_1).toNat * 2)).block, (ad985.add ((x5_1).toNat * 2)).off + 1, none⟩ = some (.int .i64 ((rd_TA2int l1 x5_1).f1))) (ds := []) #[false, false, false, false, false, false, false, false, false, false] (by kernel_rfl) rfl rfl ⟨(by have h_ := ((HB.out.cell (World.block_lt_of_cell? w _ hw984_0)).trans hw984_0); first | exact h_ | (simp only [*] at h_; exact h_) | (simp [*]; done) | simpa [*] using h_), (by have h_ := ((HB.out.cell (World.block_lt_of_cell? w _ hw984_1)).trans hw984_1); first | exact h_ | (simp only [*] at h_; exact h_) | (simp [*]; done) | simpa [*] using h_), (by have h_ := ((HB.out.cell (World.block_lt_of_cell? w _ hw985_0)).trans hw985_0); first | exact h_ | (simp only [*] at h_; exact h_) | (simp [*]; done) | simpa [*] using h_), (by have h_ := ((HB.out.cell (World.block_lt_of_cell? w _ hw985_1)).trans hw985_1); first | exact h_ | (simp only [*] at h_; exact h_) | (simp [*]; done) | simpa [*] using h_)⟩ (fun hHeld => ?_); refine with_tabW laws_eqIntA2S.tab6 laws_eqIntA2S.bits6 (fun HT_ HW_ => ?_)
                generalize wr.drew = w9 at HB hx984_0 hx984_1 hx985_0 hx985_1 hHeld ⊢
                refine pure_ (i := 0) (N := some 17) (v := ?_) (a' := ?_) #[true, false, false, false, false, false, false, false, false, false] rfl rfl (any_of HT_.out (by kernel_rfl)) (fun _ _ _ h => h) (Or.inl ⟨by rfl, ?_⟩) ?_ ?_
                rotate_left
                · intro w'
                  go_simp
                  with_reducible rfl
                rotate_left
                · simp only [Act.put, List.setIfInBounds_toArray, List.set_cons_zero, List.set_cons_succ, i64_w, i32_w]
                  rfl
                refine pure_ (i := 1) (N := some 18) (v := ?_) (a' := ?_) #[true, true, false, false, false, false, false, false, false, false] rfl rfl (any_of HT_.out (by kernel_rfl)) (fun _ _ _ h => h) (Or.inl ⟨by rfl, ?_⟩) ?_ ?_
                rotate_left
                · intro w'
                  go_simp
                  with_reducible rfl
                rotate_left
                · simp only [Act.put, List.setIfInBounds_toArray, List.set_cons_zero, List.set_cons_succ, i64_w, i32_w]
                  rfl
                refine pure_ (i := 2) (N := some 19) (v := ?_) (a' := ?_) #[true, true, true, false, false, false, false, false, false, false] rfl rfl (any_of HT_.out (by kernel_rfl)) (fun _ _ _ h => h) (Or.inl ⟨by rfl, ?_⟩) ?_ ?_
                rotate_left
                · intro w'
                  go_simp
                  with_reducible rfl
                rotate_left
                · simp only [Act.put, List.setIfInBounds_toArray, List.set_cons_zero, List.set_cons_succ, i64_w, i32_w]
                  rfl
                refine pure_ (i := 4) (N := some 21) (v := ?_) (a' := ?_) #[true, true, true, false, true, false, false, false, false, false] rfl rfl (any_of HT_.out (by kernel_rfl)) (fun _ _ _ h => h) (Or.inl ⟨by rfl, ?_⟩) ?_ ?_
                rotate_left
                · intro w'
                  go_simp
                  with_reducible rfl
                rotate_left
                · simp only [Act.put, List.setIfInBounds_toArray, List.set_cons_zero, List.set_cons_succ, i64_w, i32_w]
                  rfl
                refine pure_ (i := 5) (N := some 22) (v := ?_) (a' := ?_) #[true, true, true, false, true, true, false, false, false, false] rfl rfl (any_of HT_.out (by kernel_rfl)) (fun _ _ _ h => h) (Or.inl ⟨by rfl, ?_⟩) ?_ ?_
                rotate_left
                · intro w'
                  go_simp
                  with_reducible rfl
                rotate_left
                · simp only [Act.put, List.setIfInBounds_toArray, List.set_cons_zero, List.set_cons_succ, i64_w, i32_w]
                  rfl
                refine pure_ (i := 6) (N := some 23) (v := ?_) (a' := ?_) #[true, true, true, false, true, true, true, false, false, false] rfl rfl (any_of HT_.out (by kernel_rfl)) (fun _ _ _ h => h) (Or.inl ⟨by rfl, ?_⟩) ?_ ?_
                rotate_left
                · intro w'
                  go_simp
                  with_reducible rfl
                rotate_left
                · simp only [Act.put, List.setIfInBounds_toArray, List.set_cons_zero, List.set_cons_succ, i64_w, i32_w]
                  rfl
                refine take_ (i := 3) (N := some 20) (v := ?_) (a' := ?_) #[true, true, true, true, true, true, true, false, false, false] rfl rfl (take_ofW HT_.out HW_.out (by kernel_rfl)) (fun _ _ _ h => h) (Or.inl ⟨by rfl, ?_⟩) hHeld ?_ ?_
                rotate_left
                · rintro w' ⟨s0, s1, s2, s3⟩
                  go_simp
                  with_reducible rfl
                rotate_left
                · simp only [Act.put, List.setIfInBounds_toArray, List.set_cons_zero, List.set_cons_succ, i64_w, i32_w]
                  rfl
                refine take_ (i := 7) (N := some 24) (v := ?_) (a' := ?_) #[true, true, true, true, true, true, true, true, false, false] rfl rfl (take_ofW HT_.out HW_.out (by kernel_rfl)) (fun _ _ _ h => h) (Or.inl ⟨by rfl, ?_⟩) hHeld ?_ ?_
                rotate_left
                · rintro w' ⟨s0, s1, s2, s3⟩
                  go_simp
                  with_reducible rfl
                rotate_left
                · simp only [Act.put, List.setIfInBounds_toArray, List.set_cons_zero, List.set_cons_succ, i64_w, i32_w]
                  rfl
                refine one_ (i := 8) (N := some 25) #[true, true, true, true, true, true, true, true, true, false] rfl rfl (one_of HT_.out (by kernel_rfl)) (by decide) (fun K hK => ?_)
                refine goes_ Try.func46 (by kernel_rfl) rfl #[.agg #[.int .i64 ((rd_TA2int l0 x5_1).f0), .int .i64 ((rd_TA2int l0 x5_1).f1)], .agg #[.int .i64 ((rd_TA2int l1 x5_1).f0), .int .i64 ((rd_TA2int l1 x5_1).f1)]] (by rfl) rfl rfl (by (try simp only [List.map_toArray, List.map_cons, List.map_nil]); first | done | rfl | (simp only [List.length_drop, List.length_take]; rfl)) ?_
                with_reducible refine (laws_eqIntA2.calls ((rd_TA2int l0 x5_1).f0) ((rd_TA2int l0 x5_1).f1) ((rd_TA2int l1 x5_1).f0) ((rd_TA2int l1 x5_1).f1) true _ A7.out).mono ?_
                rintro e w10 ⟨rfl, hb⟩
                refine ⟨_, rfl, ?_⟩
                have n0_ := Aside0.mk (below_step (by repeat (first | (with_reducible first | exact HB.out | apply below_alloc | apply pw_below_drewN | apply below_drew1) | exact HB.out)) hb)
                clear HB
                have HB := n0_
                clear n0_
                (try clear hb)
                (try clear hb2)
                (try clear hk)
                (try clear hi)
                refine hK.out _ _ ⟨(by have h_ := ((HB.out.cell (World.block_lt_of_cell? w _ hw984_0)).trans hw984_0); first | exact h_ | (simp only [*] at h_; exact h_) | (simp [*]; done) | simpa [*] using h_), (by have h_ := ((HB.out.cell (World.block_lt_of_cell? w _ hw984_1)).trans hw984_1); first | exact h_ | (simp only [*] at h_; exact h_) | (simp [*]; done) | simpa [*] using h_), (by have h_ := ((HB.out.cell (World.block_lt_of_cell? w _ hw985_0)).trans hw985_0); first | exact h_ | (simp only [*] at h_; exact h_) | (simp [*]; done) | simpa [*] using h_), (by have h_ := ((HB.out.cell (World.block_lt_of_cell? w _ hw985_1)).trans hw985_1); first | exact h_ | (simp only [*] at h_; exact h_) | (simp [*]; done) | simpa [*] using h_)⟩ (fun hHeld => ?_)
                clear hK K
                refine norm_ (a' := ?_) ?_ ?_
                rotate_left
                · show Act.put _ (some 25) _ = _
                  simp only [Act.put, List.setIfInBounds_toArray, List.set_cons_zero, List.set_cons_succ, i64_w, i32_w]
                  rfl
                refine pure_ (i := 9) (N := some 26) (v := ?_) (a' := ?_) #[true, true, true, true, true, true, true, true, true, true] rfl rfl (any_of HT_.out (by kernel_rfl)) (fun _ _ _ h => h) (Or.inl ⟨by rfl, ?_⟩) ?_ ?_
                rotate_left
                · intro w'
                  go_simp
                  with_reducible rfl
                rotate_left
                · simp only [Act.put, List.setIfInBounds_toArray, List.set_cons_zero, List.set_cons_succ, i64_w, i32_w]
                  rfl
                refine done_ (done_of HT_.out (by kernel_rfl)) ?_
                try go_wp2
                go_roundg k1
                case measure => have := HK1.out; omega
                case rel => exact ⟨(wrap64 (x5_1 + 1)), (by first | rfl | (simp; done) | (simp [*]; done)), H', ⟨by have := HK1.out; omega⟩, ⟨by repeat (first | (with_reducible first | exact HB.out | apply below_alloc | apply pw_below_drewN | apply below_drew1) | exact HB.out)⟩⟩
              · replace c8 := Bool.eq_false_iff.mpr c8
                subst c8
                have H1 : (some false) = some r := by rw [if_neg (show ¬ (false = true) by decide)] at H; exact H
                clear H
                have H := H1
                clear H1
                obtain rfl := Option.some.inj H
                try go_wp2
                have n0_ := Aside0.mk (below_drew1 HB.out)
                clear HB
                have HB := n0_
                clear n0_
                have p984 : 0 ≤ (x5_1 : Int) := of_decide_eq_true (by first | (with_reducible assumption) | assumption)
                have q984 : x5_1 < (l0.length : Int) := of_decide_eq_true (by first | (with_reducible assumption) | assumption)
                obtain ⟨ad984, e984, hx984_0, hx984_1⟩ := at_TA2int HR0.out x5_1 p984 q984
                have hw984_1 := hx984_1
                have hw984_0 := hx984_0
                cases e984
                replace hx984_0 := (HB.out.cell (World.block_lt_of_cell? w _ hx984_0)).trans hx984_0
                replace hx984_1 := (HB.out.cell (World.block_lt_of_cell? w _ hx984_1)).trans hx984_1
                replace p984 := eq_true p984
                replace q984 := eq_true q984
                have p985 : 0 ≤ (x5_1 : Int) := of_decide_eq_true (by first | (with_reducible assumption) | assumption)
                have q985 : x5_1 < (l1.length : Int) := of_decide_eq_true (by first | (with_reducible assumption) | assumption)
                obtain ⟨ad985, e985, hx985_0, hx985_1⟩ := at_TA2int HR1.out x5_1 p985 q985
                have hw985_1 := hx985_1
                have hw985_0 := hx985_0
                cases e985
                replace hx985_0 := (HB.out.cell (World.block_lt_of_cell? w _ hx985_0)).trans hx985_0
                replace hx985_1 := (HB.out.cell (World.block_lt_of_cell? w _ hx985_1)).trans hx985_1
                replace p985 := eq_true p985
                replace q985 := eq_true q985
                refine start_ (n := 10) (S := fun w' => w'.cell? (ad984.add ((x5_1).toNat * 2)) = some (.int .i64 ((rd_TA2int l0 x5_1).f0)) ∧ w'.cell? ⟨(ad984.add ((x5_1).toNat * 2)).block, (ad984.add ((x5_1).toNat * 2)).off + 1, none⟩ = some (.int .i64 ((rd_TA2int l0 x5_1).f1)) ∧ w'.cell? (ad985.add ((x5_1).toNat * 2)) = some (.int .i64 ((rd_TA2int l1 x5_1).f0)) ∧ w'.cell? ⟨(ad985.add ((x5_1).toNat * 2)).block, (ad985.add ((x5_1).toNat * 2)).off + 1, none⟩ = some (.int .i64 ((rd_TA2int l1 x5_1).f1))) (ds := []) #[false, false, false, false, false, false, false, false, false, false] (by kernel_rfl) rfl rfl ⟨(by have h_ := ((HB.out.cell (World.block_lt_of_cell? w _ hw984_0)).trans hw984_0); first | exact h_ | (simp only [*] at h_; exact h_) | (simp [*]; done) | simpa [*] using h_), (by have h_ := ((HB.out.cell (World.block_lt_of_cell? w _ hw984_1)).trans hw984_1); first | exact h_ | (simp only [*] at h_; exact h_) | (simp [*]; done) | simpa [*] using h_), (by have h_ := ((HB.out.cell (World.block_lt_of_cell? w _ hw985_0)).trans hw985_0); first | exact h_ | (simp only [*] at h_; exact h_) | (simp [*]; done) | simpa [*] using h_), (by have h_ := ((HB.out.cell (World.block_lt_of_cell? w _ hw985_1)).trans hw985_1); first | exact h_ | (simp only [*] at h_; exact h_) | (simp [*]; done) | simpa [*] using h_)⟩ (fun hHeld => ?_); refine with_tabW laws_eqIntA2S.tab6 laws_eqIntA2S.bits6 (fun HT_ HW_ => ?_)
                generalize wr.drew = w11 at HB hx984_0 hx984_1 hx985_0 hx985_1 hHeld ⊢
                refine pure_ (i := 0) (N := some 17) (v := ?_) (a' := ?_) #[true, false, false, false, false, false, false, false, false, false] rfl rfl (any_of HT_.out (by kernel_rfl)) (fun _ _ _ h => h) (Or.inl ⟨by rfl, ?_⟩) ?_ ?_
                rotate_left
                · intro w'
                  go_simp
                  with_reducible rfl
                rotate_left
                · simp only [Act.put, List.setIfInBounds_toArray, List.set_cons_zero, List.set_cons_succ, i64_w, i32_w]
                  rfl
                refine pure_ (i := 1) (N := some 18) (v := ?_) (a' := ?_) #[true, true, false, false, false, false, false, false, false, false] rfl rfl (any_of HT_.out (by kernel_rfl)) (fun _ _ _ h => h) (Or.inl ⟨by rfl, ?_⟩) ?_ ?_
                rotate_left
                · intro w'
                  go_simp
                  with_reducible rfl
                rotate_left
                · simp only [Act.put, List.setIfInBounds_toArray, List.set_cons_zero, List.set_cons_succ, i64_w, i32_w]
                  rfl
                refine pure_ (i := 2) (N := some 19) (v := ?_) (a' := ?_) #[true, true, true, false, false, false, false, false, false, false] rfl rfl (any_of HT_.out (by kernel_rfl)) (fun _ _ _ h => h) (Or.inl ⟨by rfl, ?_⟩) ?_ ?_
                rotate_left
                · intro w'
                  go_simp
                  with_reducible rfl
                rotate_left
                · simp only [Act.put, List.setIfInBounds_toArray, List.set_cons_zero, List.set_cons_succ, i64_w, i32_w]
                  rfl
                refine pure_ (i := 4) (N := some 21) (v := ?_) (a' := ?_) #[true, true, true, false, true, false, false, false, false, false] rfl rfl (any_of HT_.out (by kernel_rfl)) (fun _ _ _ h => h) (Or.inl ⟨by rfl, ?_⟩) ?_ ?_
                rotate_left
                · intro w'
                  go_simp
                  with_reducible rfl
                rotate_left
                · simp only [Act.put, List.setIfInBounds_toArray, List.set_cons_zero, List.set_cons_succ, i64_w, i32_w]
                  rfl
                refine pure_ (i := 5) (N := some 22) (v := ?_) (a' := ?_) #[true, true, true, false, true, true, false, false, false, false] rfl rfl (any_of HT_.out (by kernel_rfl)) (fun _ _ _ h => h) (Or.inl ⟨by rfl, ?_⟩) ?_ ?_
                rotate_left
                · intro w'
                  go_simp
                  with_reducible rfl
                rotate_left
                · simp only [Act.put, List.setIfInBounds_toArray, List.set_cons_zero, List.set_cons_succ, i64_w, i32_w]
                  rfl
                refine pure_ (i := 6) (N := some 23) (v := ?_) (a' := ?_) #[true, true, true, false, true, true, true, false, false, false] rfl rfl (any_of HT_.out (by kernel_rfl)) (fun _ _ _ h => h) (Or.inl ⟨by rfl, ?_⟩) ?_ ?_
                rotate_left
                · intro w'
                  go_simp
                  with_reducible rfl
                rotate_left
                · simp only [Act.put, List.setIfInBounds_toArray, List.set_cons_zero, List.set_cons_succ, i64_w, i32_w]
                  rfl
                refine take_ (i := 3) (N := some 20) (v := ?_) (a' := ?_) #[true, true, true, true, true, true, true, false, false, false] rfl rfl (take_ofW HT_.out HW_.out (by kernel_rfl)) (fun _ _ _ h => h) (Or.inl ⟨by rfl, ?_⟩) hHeld ?_ ?_
                rotate_left
                · rintro w' ⟨s0, s1, s2, s3⟩
                  go_simp
                  with_reducible rfl
                rotate_left
                · simp only [Act.put, List.setIfInBounds_toArray, List.set_cons_zero, List.set_cons_succ, i64_w, i32_w]
                  rfl
                refine take_ (i := 7) (N := some 24) (v := ?_) (a' := ?_) #[true, true, true, true, true, true, true, true, false, false] rfl rfl (take_ofW HT_.out HW_.out (by kernel_rfl)) (fun _ _ _ h => h) (Or.inl ⟨by rfl, ?_⟩) hHeld ?_ ?_
                rotate_left
                · rintro w' ⟨s0, s1, s2, s3⟩
                  go_simp
                  with_reducible rfl
                rotate_left
                · simp only [Act.put, List.setIfInBounds_toArray, List.set_cons_zero, List.set_cons_succ, i64_w, i32_w]
                  rfl
                refine one_ (i := 8) (N := some 25) #[true, true, true, true, true, true, true, true, true, false] rfl rfl (one_of HT_.out (by kernel_rfl)) (by decide) (fun K hK => ?_)
                refine goes_ Try.func46 (by kernel_rfl) rfl #[.agg #[.int .i64 ((rd_TA2int l0 x5_1).f0), .int .i64 ((rd_TA2int l0 x5_1).f1)], .agg #[.int .i64 ((rd_TA2int l1 x5_1).f0), .int .i64 ((rd_TA2int l1 x5_1).f1)]] (by rfl) rfl rfl (by (try simp only [List.map_toArray, List.map_cons, List.map_nil]); first | done | rfl | (simp only [List.length_drop, List.length_take]; rfl)) ?_
                with_reducible refine (laws_eqIntA2.calls ((rd_TA2int l0 x5_1).f0) ((rd_TA2int l0 x5_1).f1) ((rd_TA2int l1 x5_1).f0) ((rd_TA2int l1 x5_1).f1) false _ A7.out).mono ?_
                rintro e w12 ⟨rfl, hb⟩
                refine ⟨_, rfl, ?_⟩
                have n0_ := Aside0.mk (below_step (by repeat (first | (with_reducible first | exact HB.out | apply below_alloc | apply pw_below_drewN | apply below_drew1) | exact HB.out)) hb)
                clear HB
                have HB := n0_
                clear n0_
                (try clear hb)
                (try clear hb2)
                (try clear hk)
                (try clear hi)
                refine hK.out _ _ ⟨(by have h_ := ((HB.out.cell (World.block_lt_of_cell? w _ hw984_0)).trans hw984_0); first | exact h_ | (simp only [*] at h_; exact h_) | (simp [*]; done) | simpa [*] using h_), (by have h_ := ((HB.out.cell (World.block_lt_of_cell? w _ hw984_1)).trans hw984_1); first | exact h_ | (simp only [*] at h_; exact h_) | (simp [*]; done) | simpa [*] using h_), (by have h_ := ((HB.out.cell (World.block_lt_of_cell? w _ hw985_0)).trans hw985_0); first | exact h_ | (simp only [*] at h_; exact h_) | (simp [*]; done) | simpa [*] using h_), (by have h_ := ((HB.out.cell (World.block_lt_of_cell? w _ hw985_1)).trans hw985_1); first | exact h_ | (simp only [*] at h_; exact h_) | (simp [*]; done) | simpa [*] using h_)⟩ (fun hHeld => ?_)
                clear hK K
                refine norm_ (a' := ?_) ?_ ?_
                rotate_left
                · show Act.put _ (some 25) _ = _
                  simp only [Act.put, List.setIfInBounds_toArray, List.set_cons_zero, List.set_cons_succ, i64_w, i32_w]
                  rfl
                refine pure_ (i := 9) (N := some 26) (v := ?_) (a' := ?_) #[true, true, true, true, true, true, true, true, true, true] rfl rfl (any_of HT_.out (by kernel_rfl)) (fun _ _ _ h => h) (Or.inl ⟨by rfl, ?_⟩) ?_ ?_
                rotate_left
                · intro w'
                  go_simp
                  with_reducible rfl
                rotate_left
                · simp only [Act.put, List.setIfInBounds_toArray, List.set_cons_zero, List.set_cons_succ, i64_w, i32_w]
                  rfl
                refine done_ (done_of HT_.out (by kernel_rfl)) ?_
                try go_wp2
                go_ret
                exact ⟨by first | rfl | (simp [errW_none, errW_some] <;> rfl) | (simp [*, errW_none, errW_some] <;> rfl), by repeat (first | (with_reducible first | exact HB.out | apply below_alloc | apply pw_below_drewN | apply below_drew1) | exact HB.out)⟩
            · rw [if_neg c6] at H
              exact absurd H (by simp)
          · rw [if_neg c5] at H
            exact absurd H (by simp)
        · rw [if_neg c4] at H
          have c4b0 : decide (x5_1 < (l0.length : Int)) = false := decide_eq_false c4
          clear c4
          obtain rfl := Option.some.inj H
          go_wp2
          go_ret
          exact ⟨by first | rfl | (simp [errW_none, errW_some] <;> rfl) | (simp [*, errW_none, errW_some] <;> rfl), by repeat (first | (with_reducible first | exact HB.out | apply below_alloc | apply pw_below_drewN | apply below_drew1) | exact HB.out)⟩
  · rw [if_neg c3] at H
    have c3b0 : ((l0.length : Int) == (l1.length : Int)) = false := beq_eq_false_iff_ne.mpr c3
    have c3b1 : ((l0.length : Int) != (l1.length : Int)) = true := bne_iff_ne.mpr c3
    have c3b2 : (l0.length == l1.length) = false := by first | simpa using c3 | (simp at c3 ⊢; omega)
    obtain rfl := Option.some.inj H
    go_enter Try.func53, Try.ntmps53
    go_wp2
    go_ret
    exact ⟨by first | rfl | (simp [errW_none, errW_some] <;> rfl) | (simp [*, errW_none, errW_some] <;> rfl), by repeat (first | (with_reducible first | exact HB.out | apply below_alloc | apply pw_below_drewN | apply below_drew1) | exact HB.out)⟩

end Go.Proofs.Ytpbboooeahmgpaa.P


namespace Go.Proofs.Ytpbboooeahmgpaa.P
open Go.RowKit Go.Proofs.YtpbboooeahmgpaaW.PrintWords Go.Proofs.YtpbboooeahmgpaaW.PrintLast Go.Proofs.YtpbboooeahmgpaaW.PrintMore
attribute [local go_sem] max2_int min2_int max_two min_two max_three min_three max_four min_four   -- for this text's walks alone
set_option linter.unusedVariables false
set_option linter.unusedSimpArgs false

def impl_ConflictsOf.f (k : Nat) (l0_0 : List (List Int)) (l1 : List (SimplLoan)) : Option ((List (SA2int)) × Bool) := (impl_areLoans.f l0_0 l1).bind fun t495 => (if t495 = true then ((impl_conflicts.f k l1).bind fun t496 => (some (t496, true))) else (some (([] : List (SA2int)), false)))
set_option maxHeartbeats 8000000 in
set_option maxRecDepth 100000 in
theorem impl_ConflictsOf.calls (k : Nat) (A0_0 : Option Addr) (c0_0 : Nat) (l0_0 : List (List Int)) (A1 : Option Addr) (c1 : Nat) (l1 : List (SimplLoan)) (r1 : List (SA2int)) (r2 : Bool) (w : World) (hr0_0 : Kd.C (Kd.slice 5 (Kd.int .u8)) w A0_0 l0_0.length l0_0) (hc0_0 : l0_0.length ≤ c0_0) (hr1 : Kd.C kimplLoan w A1 l1.length l1) (hc1 : l1.length ≤ c1) (h : impl_ConflictsOf.f k l0_0 l1 = some (r1, r2)) :
    Calls Try.prog 20 #[.agg #[.slice A0_0 l0_0.length c0_0], .slice A1 l1.length c1] w fun e w' => ∃ v0_ : Value, e = .returned (.tuple #[v0_, .bool r2]) ∧ Kd.R kA2int 75 w' w.heap.size (fun _ => True) v0_ r1 ∧ Below w.heap.size w w' := by
  have hu26 := Try.underlying26
  have HR0_0 := Aside0.mk hr0_0
  have HC0_0 := Aside0.mk hc0_0
  clear hr0_0 hc0_0
  have HR1 := Aside0.mk hr1
  have HC1 := Aside0.mk hc1
  clear hr1 hc1
  have HB := Aside0.mk (Below.refl w.heap.size w)
  have H : ((impl_areLoans.f l0_0 l1).bind fun t495 => (if t495 = true then ((impl_conflicts.f k l1).bind fun t496 => (some (t496, true))) else (some (([] : List (SA2int)), false)))) = some (r1, r2) := h
  clear h
  replace H := Option.bind_eq_some_iff.mp H
  obtain ⟨t495, A30, H⟩ := H
  replace H : (if t495 = true then ((impl_conflicts.f k l1).bind fun t496 => (some (t496, true))) else (some (([] : List (SA2int)), false))) = some (r1, r2) := H
  have A3 := Aside0.mk A30
  clear A30
  by_cases c4 : t495 = true
  · subst c4
    have H1 : ((impl_conflicts.f k l1).bind fun t496 => (some (t496, true))) = some (r1, r2) := by rw [if_pos rfl] at H; exact H
    clear H
    have H := H1
    clear H1
    replace H := Option.bind_eq_some_iff.mp H
    obtain ⟨t496, A50, H⟩ := H
    replace H : (some (t496, true)) = some (r1, r2) := H
    have A5 := Aside0.mk A50
    clear A50
    simp only [Option.some.injEq, Prod.mk.injEq] at H
    obtain ⟨rfl, rfl⟩ := H
    go_enter Try.func20, Try.ntmps20
    go_wp2_with (first | ((with_reducible refine gate_dst (N := 2) rfl ?_); refine box_event ?hg (N := 2) ?hd (cs := #[.slice A0_0 l0_0.length c0_0]) (t := 26) ?hr ?_; (case hd => rfl); (case hg => rfl); (case hr => first | (go_simp; done) | (go_simp; rfl)); intro gb494 hg w6 hbox hb; have n0_ := Aside0.mk (below_step (by repeat (first | (with_reducible first | exact HB.out | apply below_alloc | apply pw_below_drewN | apply below_drew1) | exact HB.out)) hb); have n1_ := Aside0.mk (hbox); have n2_ := Aside0.mk ((by rw [hg]; exact (below_size (by repeat (first | (with_reducible first | exact HB.out | apply below_alloc | apply pw_below_drewN | apply below_drew1) | exact HB.out))) : w.heap.size ≤ gb494)); have n3_ := Aside0.mk ((by rw [hg]; exact (below_size (by repeat (first | (with_reducible first | exact HB.out | apply below_alloc | apply pw_below_drewN | apply below_drew1) | exact HB.out))) : w.heap.size ≤ gb494)); clear HB; have HB := n0_; have BK494 := n1_; have GW494 := n2_; have GE494 := n3_; clear n0_ n1_ n2_ n3_; clear hb hbox hg; have hcz7_0 : w6.cell? ⟨gb494, 0, none⟩ = some (.slice A0_0 l0_0.length c0_0) := (blk_cell BK494.out 0).trans rfl; have hfz7_0 := blk_frozen BK494.out 0) | ((with_reducible refine gate_callee (f := 76) rfl ?_); refine goesL_ (some 8) rfl rfl Try.func76 (by kernel_rfl) rfl #[.agg #[.slice A0_0 l0_0.length c0_0], .slice A1 l1.length c1] rfl (by (try simp only [List.map_toArray, List.map_cons, List.map_nil]); first | done | rfl | (simp only [List.length_drop, List.length_take]; rfl)) ?_; (with_reducible refine (impl_areLoans.calls _ _ l0_0 _ _ l1 true _ ?side1 ?side2 ?side3 ?side4 A3.out).mono ?_); (case side1 => repeat (first | exact (Kd.C_below HR0_0.out HB.out) | (with_reducible refine Kd.C_alloc ?_ _) | (with_reducible refine Kd.C_drewN ?_ _) | (with_reducible refine Kd.C_drew ?_))); (case side2 => exact HC0_0.out); (case side3 => repeat (first | exact (Kd.C_below HR1.out HB.out) | (with_reducible refine Kd.C_alloc ?_ _) | (with_reducible refine Kd.C_drewN ?_ _) | (with_reducible refine Kd.C_drew ?_))); (case side4 => exact HC1.out); rintro e w8 ⟨rfl, hb⟩; refine ⟨_, rfl, ?_⟩; have n0_ := Aside0.mk (blk_below (g := gb494) (o := .cells #[.slice A0_0 l0_0.length c0_0] 26 (0, 0)) (by (with_reducible repeat (first | refine blk_drewN ?_ _ | refine blk_drew ?_ | refine blk_alloc ?_ _)); exact BK494.out) hb); have n1_ := Aside0.mk (below_step (by repeat (first | (with_reducible first | exact HB.out | apply below_alloc | apply pw_below_drewN | apply below_drew1 | refine below_set ?_ GE494.out) | exact HB.out)) hb); clear BK494; clear HB; have BK494 := n0_; have HB := n1_; clear n0_ n1_; (try clear hb); (try clear hb2); (try clear hk); (try clear hi)) | ((with_reducible refine gate_callee (f := 77) rfl ?_); refine goesL_ (some 11) rfl rfl Try.func77 (by kernel_rfl) rfl #[.slice A1 l1.length c1] rfl (by (try simp only [List.map_toArray, List.map_cons, List.map_nil]); first | done | rfl | (simp only [List.length_drop, List.length_take]; rfl)) ?_; (with_reducible refine (impl_conflicts.calls k _ _ l1 t496 _ ?side1 ?side2 A5.out).mono ?_); (case side1 => repeat (first | exact (Kd.C_below HR1.out HB.out) | (with_reducible refine Kd.C_alloc ?_ _) | (with_reducible refine Kd.C_drewN ?_ _) | (with_reducible refine Kd.C_drew ?_))); (case side2 => exact HC1.out); rintro e w9 ⟨v497, rfl, ho0, hb⟩; refine ⟨_, rfl, ?_⟩; have n0_ := Aside0.mk (Kd.R_lower ho0 (below_size (by repeat (first | (with_reducible first | exact HB.out | apply below_alloc | apply pw_below_drewN | apply below_drew1 | refine below_set ?_ GE494.out) | exact HB.out)))); have n1_ := Aside0.mk (blk_below (g := gb494) (o := .cells #[.slice A0_0 l0_0.length c0_0] 26 (0, 0)) (by (with_reducible repeat (first | refine blk_drewN ?_ _ | refine blk_drew ?_ | refine blk_alloc ?_ _)); exact BK494.out) hb); have n2_ := Aside0.mk (below_step (by repeat (first | (with_reducible first | exact HB.out | apply below_alloc | apply pw_below_drewN | apply below_drew1 | refine below_set ?_ GE494.out) | exact HB.out)) hb); clear BK494; clear HB; have HO498 := n0_; have BK494 := n1_; have HB := n2_; clear n0_ n1_ n2_; (try clear hb); (try clear hb2); (try clear hk); (try clear hi); (try clear ho0)))
    go_ret2
    exact ⟨_, by first | rfl | (simp [errW_none, errW_some] <;> rfl) | (simp [*, errW_none, errW_some] <;> rfl), by (with_reducible repeat (first | apply Kd.R_alloc | apply Kd.R_drewN | apply Kd.R_drew)); exact HO498.out, by repeat (first | (with_reducible first | exact HB.out | apply below_alloc | apply pw_below_drewN | apply below_drew1 | refine below_set ?_ GE494.out) | exact HB.out)⟩
  · replace c4 := Bool.eq_false_iff.mpr c4
    subst c4
    have H1 : (some (([] : List (SA2int)), false)) = some (r1, r2) := by rw [if_neg (show ¬ (false = true) by decide)] at H; exact H
    clear H
    have H := H1
    clear H1
    simp only [Option.some.injEq, Prod.mk.injEq] at H
    obtain ⟨rfl, rfl⟩ := H
    go_enter Try.func20, Try.ntmps20
    go_wp2_with (first | ((with_reducible refine gate_dst (N := 2) rfl ?_); refine box_event ?hg (N := 2) ?hd (cs := #[.slice A0_0 l0_0.length c0_0]) (t := 26) ?hr ?_; (case hd => rfl); (case hg => rfl); (case hr => first | (go_simp; done) | (go_simp; rfl)); intro gb494 hg w10 hbox hb; have n0_ := Aside0.mk (below_step (by repeat (first | (with_reducible first | exact HB.out | apply below_alloc | apply pw_below_drewN | apply below_drew1) | exact HB.out)) hb); have n1_ := Aside0.mk (hbox); have n2_ := Aside0.mk ((by rw [hg]; exact (below_size (by repeat (first | (with_reducible first | exact HB.out | apply below_alloc | apply pw_below_drewN | apply below_drew1) | exact HB.out))) : w.heap.size ≤ gb494)); have n3_ := Aside0.mk ((by rw [hg]; exact (below_size (by repeat (first | (with_reducible first | exact HB.out | apply below_alloc | apply pw_below_drewN | apply below_drew1) | exact HB.out))) : w.heap.size ≤ gb494)); clear HB; have HB := n0_; have BK494 := n1_; have GW494 := n2_; have GE494 := n3_; clear n0_ n1_ n2_ n3_; clear hb hbox hg; have hcz11_0 : w10.cell? ⟨gb494, 0, none⟩ = some (.slice A0_0 l0_0.length c0_0) := (blk_cell BK494.out 0).trans rfl; have hfz11_0 := blk_frozen BK494.out 0) | ((with_reducible refine gate_callee (f := 76) rfl ?_); refine goesL_ (some 8) rfl rfl Try.func76 (by kernel_rfl) rfl #[.agg #[.slice A0_0 l0_0.length c0_0], .slice A1 l1.length c1] rfl (by (try simp only [List.map_toArray, List.map_cons, List.map_nil]); first | done | rfl | (simp only [List.length_drop, List.length_take]; rfl)) ?_; (with_reducible refine (impl_areLoans.calls _ _ l0_0 _ _ l1 false _ ?side1 ?side2 ?side3 ?side4 A3.out).mono ?_); (case side1 => repeat (first | exact (Kd.C_below HR0_0.out HB.out) | (with_reducible refine Kd.C_alloc ?_ _) | (with_reducible refine Kd.C_drewN ?_ _) | (with_reducible refine Kd.C_drew ?_))); (case side2 => exact HC0_0.out); (case side3 => repeat (first | exact (Kd.C_below HR1.out HB.out) | (with_reducible refine Kd.C_alloc ?_ _) | (with_reducible refine Kd.C_drewN ?_ _) | (with_reducible refine Kd.C_drew ?_))); (case side4 => exact HC1.out); rintro e w12 ⟨rfl, hb⟩; refine ⟨_, rfl, ?_⟩; have n0_ := Aside0.mk (blk_below (g := gb494) (o := .cells #[.slice A0_0 l0_0.length c0_0] 26 (0, 0)) (by (with_reducible repeat (first | refine blk_drewN ?_ _ | refine blk_drew ?_ | refine blk_alloc ?_ _)); exact BK494.out) hb); have n1_ := Aside0.mk (below_step (by repeat (first | (with_reducible first | exact HB.out | apply below_alloc | apply pw_below_drewN | apply below_drew1 | refine below_set ?_ GE494.out) | exact HB.out)) hb); clear BK494; clear HB; have BK494 := n0_; have HB := n1_; clear n0_ n1_; (try clear hb); (try clear hb2); (try clear hk); (try clear hi)))
    go_ret2
    exact ⟨_, by first | rfl | (simp [errW_none, errW_some] <;> rfl) | (simp [*, errW_none, errW_some] <;> rfl), by first | exact Kd.R_nil _ _ _ _ _ | exact Kd.N_nil _ _ _ _ _ | exact Kd.V_nil _ _ _ _ _ | exact Kd.Q_nil _ _ _ _ _ | exact Kd.S_nil _ _ _ _ _, by repeat (first | (with_reducible first | exact HB.out | apply below_alloc | apply pw_below_drewN | apply below_drew1 | refine below_set ?_ GE494.out) | exact HB.out)⟩

end Go.Proofs.Ytpbboooeahmgpaa.P


namespace Go.Proofs.Ytpbboooeahmgpaa.P
open Go.RowKit Go.Proofs.YtpbboooeahmgpaaW.PrintWords Go.Proofs.YtpbboooeahmgpaaW.PrintLast Go.Proofs.YtpbboooeahmgpaaW.PrintMore
attribute [local go_sem] max2_int min2_int max_two min_two max_three min_three max_four min_four   -- for this text's walks alone
set_option linter.unusedVariables false
set_option linter.unusedSimpArgs false

def spec_ConflictsOf.f (k : Nat) (l0_0 : List (List Int)) (l1 : List (SimplLoan)) : Option ((List (SA2int)) × Bool) := (spec_l10Loans.f k l0_0 l1).bind fun t977 => (if t977 = true then ((spec_l10Pairs.f k l1).bind fun t978 => (some (t978, true))) else (some ((([] : List (SA2int))), false)))
set_option maxHeartbeats 8000000 in
set_option maxRecDepth 100000 in
theorem spec_ConflictsOf.calls (k : Nat) (A0_0 : Option Addr) (c0_0 : Nat) (l0_0 : List (List Int)) (A1 : Option Addr) (c1 : Nat) (l1 : List (SimplLoan)) (r1 : List (SA2int)) (r2 : Bool) (w : World) (hr0_0 : Kd.C (Kd.slice 5 (Kd.int .u8)) w A0_0 l0_0.length l0_0) (hc0_0 : l0_0.length ≤ c0_0) (hr1 : Kd.C kimplLoan w A1 l1.length l1) (hc1 : l1.length ≤ c1) (h : spec_ConflictsOf.f k l0_0 l1 = some (r1, r2)) :
    Calls Try.prog 52 #[.agg #[.slice A0_0 l0_0.length c0_0], .slice A1 l1.length c1] w fun e w' => ∃ v0_ : Value, e = .returned (.tuple #[v0_, .bool r2]) ∧ Kd.R kA2int 75 w' w.heap.size (fun _ => True) v0_ r1 ∧ Below w.heap.size w w' := by
  have hu26 := Try.underlying26
  have HR0_0 := Aside0.mk hr0_0
  have HC0_0 := Aside0.mk hc0_0
  clear hr0_0 hc0_0
  have HR1 := Aside0.mk hr1
  have HC1 := Aside0.mk hc1
  clear hr1 hc1
  have HB := Aside0.mk (Below.refl w.heap.size w)
  have H : ((spec_l10Loans.f k l0_0 l1).bind fun t977 => (if t977 = true then ((spec_l10Pairs.f k l1).bind fun t978 => (some (t978, true))) else (some ((([] : List (SA2int))), false)))) = some (r1, r2) := h
  clear h
  replace H := Option.bind_eq_some_iff.mp H
  obtain ⟨t977, A30, H⟩ := H
  replace H : (if t977 = true then ((spec_l10Pairs.f k l1).bind fun t978 => (some (t978, true))) else (some ((([] : List (SA2int))), false))) = some (r1, r2) := H
  have A3 := Aside0.mk A30
  clear A30
  by_cases c4 : t977 = true
  · subst c4
    have H1 : ((spec_l10Pairs.f k l1).bind fun t978 => (some (t978, true))) = some (r1, r2) := by rw [if_pos rfl] at H; exact H
    clear H
    have H := H1
    clear H1
    replace H := Option.bind_eq_some_iff.mp H
    obtain ⟨t978, A50, H⟩ := H
    replace H : (some (t978, true)) = some (r1, r2) := H
    have A5 := Aside0.mk A50
    clear A50
    simp only [Option.some.injEq, Prod.mk.injEq] at H
    obtain ⟨rfl, rfl⟩ := H
    go_enter Try.func52, Try.ntmps52
    go_wp2_with (first | ((with_reducible refine gate_dst (N := 2) rfl ?_); refine box_event ?hg (N := 2) ?hd (cs := #[.slice A0_0 l0_0.length c0_0]) (t := 26) ?hr ?_; (case hd => rfl); (case hg => rfl); (case hr => first | (go_simp; done) | (go_simp; rfl)); intro gb976 hg w6 hbox hb; have n0_ := Aside0.mk (below_step (by repeat (first | (with_reducible first | exact HB.out | apply below_alloc | apply pw_below_drewN | apply below_drew1) | exact HB.out)) hb); have n1_ := Aside0.mk (hbox); have n2_ := Aside0.mk ((by rw [hg]; exact (below_size (by repeat (first | (with_reducible first | exact HB.out | apply below_alloc | apply pw_below_drewN | apply below_drew1) | exact HB.out))) : w.heap.size ≤ gb976)); have n3_ := Aside0.mk ((by rw [hg]; exact (below_size (by repeat (first | (with_reducible first | exact HB.out | apply below_alloc | apply pw_below_drewN | apply below_drew1) | exact HB.out))) : w.heap.size ≤ gb976)); clear HB; have HB := n0_; have BK976 := n1_; have GW976 := n2_; have GE976 := n3_; clear n0_ n1_ n2_ n3_; clear hb hbox hg; have hcz7_0 : w6.cell? ⟨gb976, 0, none⟩ = some (.slice A0_0 l0_0.length c0_0) := (blk_cell BK976.out 0).trans rfl; have hfz7_0 := blk_frozen BK976.out 0) | ((with_reducible refine gate_callee (f := 83) rfl ?_); refine goesL_ (some 8) rfl rfl Try.func83 (by kernel_rfl) rfl #[.agg #[.slice A0_0 l0_0.length c0_0], .slice A1 l1.length c1] rfl (by (try simp only [List.map_toArray, List.map_cons, List.map_nil]); first | done | rfl | (simp only [List.length_drop, List.length_take]; rfl)) ?_; (with_reducible refine (spec_l10Loans.calls k _ _ l0_0 _ _ l1 true _ ?side1 ?side2 ?side3 ?side4 A3.out).mono ?_); (case side1 => repeat (first | exact (Kd.C_below HR0_0.out HB.out) | (with_reducible refine Kd.C_alloc ?_ _) | (with_reducible refine Kd.C_drewN ?_ _) | (with_reducible refine Kd.C_drew ?_))); (case side2 => exact HC0_0.out); (case side3 => repeat (first | exact (Kd.C_below HR1.out HB.out) | (with_reducible refine Kd.C_alloc ?_ _) | (with_reducible refine Kd.C_drewN ?_ _) | (with_reducible refine Kd.C_drew ?_))); (case side4 => exact HC1.out); rintro e w8 ⟨rfl, hb⟩; refine ⟨_, rfl, ?_⟩; have n0_ := Aside0.mk (blk_below (g := gb976) (o := .cells #[.slice A0_0 l0_0.length c0_0] 26 (0, 0)) (by (with_reducible repeat (first | refine blk_drewN ?_ _ | refine blk_drew ?_ | refine blk_alloc ?_ _)); exact BK976.out) hb); have n1_ := Aside0.mk (below_step (by repeat (first | (with_reducible first | exact HB.out | apply below_alloc | apply pw_below_drewN | apply below_drew1 | refine below_set ?_ GE976.out) | exact HB.out)) hb); clear BK976; clear HB; have BK976 := n0_; have HB := n1_; clear n0_ n1_; (try clear hb); (try clear hb2); (try clear hk); (try clear hi)) | ((with_reducible refine gate_callee (f := 96) rfl ?_); refine goesL_ (some 12) rfl rfl Try.func96 (by kernel_rfl) rfl #[.slice A1 l1.length c1] rfl (by (try simp only [List.map_toArray, List.map_cons, List.map_nil]); first | done | rfl | (simp only [List.length_drop, List.length_take]; rfl)) ?_; (with_reducible refine (spec_l10Pairs.calls k _ _ l1 t978 _ ?side1 ?side2 A5.out).mono ?_); (case side1 => repeat (first | exact (Kd.C_below HR1.out HB.out) | (with_reducible refine Kd.C_alloc ?_ _) | (with_reducible refine Kd.C_drewN ?_ _) | (with_reducible refine Kd.C_drew ?_))); (case side2 => exact HC1.out); rintro e w9 ⟨v979, rfl, ho0, hb⟩; refine ⟨_, rfl, ?_⟩; have n0_ := Aside0.mk (Kd.R_lower ho0 (below_size (by repeat (first | (with_reducible first | exact HB.out | apply below_alloc | apply pw_below_drewN | apply below_drew1 | refine below_set ?_ GE976.out) | exact HB.out)))); have n1_ := Aside0.mk (blk_below (g := gb976) (o := .cells #[.slice A0_0 l0_0.length c0_0] 26 (0, 0)) (by (with_reducible repeat (first | refine blk_drewN ?_ _ | refine blk_drew ?_ | refine blk_alloc ?_ _)); exact BK976.out) hb); have n2_ := Aside0.mk (below_step (by repeat (first | (with_reducible first | exact HB.out | apply below_alloc | apply pw_below_drewN | apply below_drew1 | refine below_set ?_ GE976.out) | exact HB.out)) hb); clear BK976; clear HB; have HO980 := n0_; have BK976 := n1_; have HB := n2_; clear n0_ n1_ n2_; (try clear hb); (try clear hb2); (try clear hk); (try clear hi); (try clear ho0)))
    go_ret2
    exact ⟨_, by first | rfl | (simp [errW_none, errW_some] <;> rfl) | (simp [*, errW_none, errW_some] <;> rfl), by (with_reducible repeat (first | apply Kd.R_alloc | apply Kd.R_drewN | apply Kd.R_drew)); exact HO980.out, by repeat (first | (with_reducible first | exact HB.out | apply below_alloc | apply pw_below_drewN | apply below_drew1 | refine below_set ?_ GE976.out) | exact HB.out)⟩
  · replace c4 := Bool.eq_false_iff.mpr c4
    subst c4
    have H1 : (some ((([] : List (SA2int))), false)) = some (r1, r2) := by rw [if_neg (show ¬ (false = true) by decide)] at H; exact H
    clear H
    have H := H1
    clear H1
    obtain ⟨y981, hy981⟩ : ∃ y_ : List (SA2int), y_ = (([] : List (SA2int))) := ⟨_, rfl⟩
    replace H : (some (y981, false)) = some (r1, r2) := by first | (rw [hy981]; with_reducible exact H) | (have H2_ := (Option.bind_some _ _).symm.trans H; rw [hy981]; with_reducible exact H2_) | (have H2_ := (Option.bind_some _ _).symm.trans H; with_reducible exact H2_) | with_reducible exact H | (rw [hy981]; exact H) | exact H
    have Ny981 := Aside0.mk hy981
    clear hy981
    simp only [Option.some.injEq, Prod.mk.injEq] at H
    obtain ⟨rfl, rfl⟩ := H
    go_enter Try.func52, Try.ntmps52
    go_wp2_with (first | ((with_reducible refine gate_dst (N := 2) rfl ?_); refine box_event ?hg (N := 2) ?hd (cs := #[.slice A0_0 l0_0.length c0_0]) (t := 26) ?hr ?_; (case hd => rfl); (case hg => rfl); (case hr => first | (go_simp; done) | (go_simp; rfl)); intro gb976 hg w10 hbox hb; have n0_ := Aside0.mk (below_step (by repeat (first | (with_reducible first | exact HB.out | apply below_alloc | apply pw_below_drewN | apply below_drew1) | exact HB.out)) hb); have n1_ := Aside0.mk (hbox); have n2_ := Aside0.mk ((by rw [hg]; exact (below_size (by repeat (first | (with_reducible first | exact HB.out | apply below_alloc | apply pw_below_drewN | apply below_drew1) | exact HB.out))) : w.heap.size ≤ gb976)); have n3_ := Aside0.mk ((by rw [hg]; exact (below_size (by repeat (first | (with_reducible first | exact HB.out | apply below_alloc | apply pw_below_drewN | apply below_drew1) | exact HB.out))) : w.heap.size ≤ gb976)); clear HB; have HB := n0_; have BK976 := n1_; have GW976 := n2_; have GE976 := n3_; clear n0_ n1_ n2_ n3_; clear hb hbox hg; have hcz11_0 : w10.cell? ⟨gb976, 0, none⟩ = some (.slice A0_0 l0_0.length c0_0) := (blk_cell BK976.out 0).trans rfl; have hfz11_0 := blk_frozen BK976.out 0) | ((with_reducible refine gate_callee (f := 83) rfl ?_); refine goesL_ (some 8) rfl rfl Try.func83 (by kernel_rfl) rfl #[.agg #[.slice A0_0 l0_0.length c0_0], .slice A1 l1.length c1] rfl (by (try simp only [List.map_toArray, List.map_cons, List.map_nil]); first | done | rfl | (simp only [List.length_drop, List.length_take]; rfl)) ?_; (with_reducible refine (spec_l10Loans.calls k _ _ l0_0 _ _ l1 false _ ?side1 ?side2 ?side3 ?side4 A3.out).mono ?_); (case side1 => repeat (first | exact (Kd.C_below HR0_0.out HB.out) | (with_reducible refine Kd.C_alloc ?_ _) | (with_reducible refine Kd.C_drewN ?_ _) | (with_reducible refine Kd.C_drew ?_))); (case side2 => exact HC0_0.out); (case side3 => repeat (first | exact (Kd.C_below HR1.out HB.out) | (with_reducible refine Kd.C_alloc ?_ _) | (with_reducible refine Kd.C_drewN ?_ _) | (with_reducible refine Kd.C_drew ?_))); (case side4 => exact HC1.out); rintro e w12 ⟨rfl, hb⟩; refine ⟨_, rfl, ?_⟩; have n0_ := Aside0.mk (blk_below (g := gb976) (o := .cells #[.slice A0_0 l0_0.length c0_0] 26 (0, 0)) (by (with_reducible repeat (first | refine blk_drewN ?_ _ | refine blk_drew ?_ | refine blk_alloc ?_ _)); exact BK976.out) hb); have n1_ := Aside0.mk (below_step (by repeat (first | (with_reducible first | exact HB.out | apply below_alloc | apply pw_below_drewN | apply below_drew1 | refine below_set ?_ GE976.out) | exact HB.out)) hb); clear BK976; clear HB; have BK976 := n0_; have HB := n1_; clear n0_ n1_; (try clear hb); (try clear hb2); (try clear hk); (try clear hi)) | ((with_reducible refine gate_dst (N := 10) rfl ?_); refine Kd.R_lit kA2int _ 75 ?hg (N := 10) ?hd (xs := ([] : List (SA2int))) (inner := []) (ok := fun _ => True) (okp := fun _ => True) ?hr ?hp (fun _ hk => hk) trivial (Below.refl _ _) (Nat.le_refl _) (by simp) ?_; (case hd => rfl); (case hg => rfl); (case hr => first | (go_simp; done) | (go_simp; rfl)); (case hp => exact (Reps.none _ _)); intro v982 w13 ho14 hb hg_ hnew_; clear hg_ hnew_; (first | rw [← Ny981.out] at ho14 | (simp only [Int.reduceToNat] at ho14; rw [← Ny981.out] at ho14)); have n0_ := Aside0.mk (Kd.R_lower ho14 (below_size (by repeat (first | (with_reducible first | exact HB.out | apply below_alloc | apply pw_below_drewN | apply below_drew1 | refine below_set ?_ GE976.out) | exact HB.out)))); have n1_ := Aside0.mk (blk_below (g := gb976) (o := .cells #[.slice A0_0 l0_0.length c0_0] 26 (0, 0)) (by (with_reducible repeat (first | refine blk_drewN ?_ _ | refine blk_drew ?_ | refine blk_alloc ?_ _)); exact BK976.out) hb); have n2_ := Aside0.mk (below_step (by repeat (first | (with_reducible first | exact HB.out | apply below_alloc | apply pw_below_drewN | apply below_drew1 | refine below_set ?_ GE976.out) | exact HB.out)) hb); clear BK976; clear HB; have HO983 := n0_; have BK976 := n1_; have HB := n2_; clear n0_ n1_ n2_; clear hb ho14))
    go_ret2
    exact ⟨_, by first | rfl | (simp [errW_none, errW_some] <;> rfl) | (simp [*, errW_none, errW_some] <;> rfl), by (with_reducible repeat (first | apply Kd.R_alloc | apply Kd.R_drewN | apply Kd.R_drew)); exact HO983.out, by repeat (first | (with_reducible first | exact HB.out | apply below_alloc | apply pw_below_drewN | apply below_drew1 | refine below_set ?_ GE976.out) | exact HB.out)⟩

end Go.Proofs.Ytpbboooeahmgpaa.P


/- ConflictsOf: what both sides come to. -/
namespace Go.Proofs.Ytpbboooeahmgpaa.P
open Go.RowKit Go.Proofs.YtpbboooeahmgpaaW.PrintWords Go.Proofs.YtpbboooeahmgpaaW.Mine
set_option linter.unusedVariables false
theorem confs_len {m : List (List Int)} {l : List SimplLoan} (h : loansB m l = true) : memB m = true ∧ (∀ x ∈ l, rangeL x) ∧ l.length ≤ 8 := by
  unfold loansB at h
  simp only [Bool.and_eq_true, decide_eq_true_eq, List.all_eq_true] at h
  exact ⟨h.1.1, fun x hx => rangeL_of h.1.1 (h.1.2 x hx), h.2⟩
theorem prs_len (l : List SimplLoan) : ∀ i, (prs i l).length ≤ l.length * l.length := by
  induction l with
  | nil => intro i; simp [prs]
  | cons a l ih =>
    intro i
    have h1 := rowP_length a i l (i + 1)
    have h2 := ih (i + 1)
    simp only [prs, List.length_append, List.length_cons, Nat.add_mul, Nat.mul_add, Nat.one_mul, Nat.mul_one]
    omega
def confsOf (m : List (List Int)) (l : List SimplLoan) : List SA2int × Bool := if loansB m l = true then (prs 0 l, true) else ([], false)
theorem confsOf_len (m : List (List Int)) (l : List SimplLoan) : (confsOf m l).1.length ≤ 64 := by
  unfold confsOf
  split
  next h =>
    have h1 := (confs_len h).2.2
    have h2 := prs_len l 0
    have h3 := Nat.mul_le_mul h1 h1
    show (prs 0 l).length ≤ 64
    omega
  next => simp
theorem implConfs_f (m : List (List Int)) (l : List SimplLoan) : Ev (fun k => impl_ConflictsOf.f k m l) (confsOf m l) := by
  unfold confsOf impl_ConflictsOf.f
  simp only [areLoans_f, Option.bind_some]
  by_cases h : loansB m l = true
  · simp only [h, if_true]
    obtain ⟨h1, h2, h3⟩ := confs_len h
    exact Ev.bind (conflicts_f l h2 (by omega)) (Ev.now _)
  · simp only [Bool.eq_false_iff.2 h, Bool.false_eq_true, if_false]
    exact Ev.now _
theorem specConfs_f (m : List (List Int)) (l : List SimplLoan) (hm : okM m) (hl : l.length ≤ 1048576) (hw : ∀ x ∈ l, wfL x) : Ev (fun k => spec_ConflictsOf.f k m l) (confsOf m l) := by
  refine Ev.bind (l10Loans_f m l hm (by omega) hw) ?_
  unfold confsOf
  by_cases h : loansB m l = true
  · simp only [h, if_true]
    obtain ⟨h1, h2, h3⟩ := confs_len h
    exact Ev.bind (pairs_f l h2 (by omega)) (Ev.now _)
  · simp only [Bool.eq_false_iff.2 h, Bool.false_eq_true, if_false]
    exact Ev.now _
theorem rdA2_mid (pre : List SA2int) (x : SA2int) (suf : List SA2int) : rd_TA2int (pre ++ x :: suf) (pre.length : Int) = x := by
  unfold rd_TA2int
  simp
theorem eqIntA2_f (a b : Int) : laws_eqIntA2.f a b a b = some true := if_pos ⟨rfl, rfl⟩
theorem eqIntA2S_ev (suf : List SA2int) : ∀ (pre : List SA2int), pre.length + suf.length ≤ 9223372036854775807 → Ev (fun k => laws_eqIntA2S.l0 k (pre ++ suf) (pre ++ suf) (pre.length : Int)) true := by
  induction suf with
  | nil =>
    intro pre h2
    refine Ev.step (fun k => ?_) (Ev.now _)
    simp [laws_eqIntA2S.l0]
  | cons x suf ih =>
    intro pre h2
    simp only [List.length_cons] at h2
    refine Ev.step (f := fun k => laws_eqIntA2S.l0 k ((pre ++ [x]) ++ suf) ((pre ++ [x]) ++ suf) ((pre ++ [x]).length : Int)) (fun k => ?_) (ih (pre ++ [x]) (by simp; omega))
    simp only [laws_eqIntA2S.l0]
    rw [if_pos (by simp; omega), if_pos (by omega), if_pos (by simp; omega), rdA2_mid, eqIntA2_f, Option.bind_some, if_pos rfl, wrap_len (by omega)]
    simp
theorem eqIntA2S_f (l : List SA2int) (h : l.length ≤ 9223372036854775807) : Ev (fun k => laws_eqIntA2S.f k l l) true := by
  refine Ev.congr (fun k => ?_) (eqIntA2S_ev l [] (by simpa using h))
  unfold laws_eqIntA2S.f
  rw [if_pos rfl]
  rfl
theorem markLq (l : List SimplLoan) (a : Int) (h0 : 0 ≤ a) (h : a + 7 * l.length ≤ 4611686018427387904) : laws_markLoanS.f l a = some (a + 7 * (l.length : Int), marksG markL 7 a l.length) := if_pos ⟨h0, h⟩
end Go.Proofs.Ytpbboooeahmgpaa.P


/- From a row's reading of an argument to what the print's kinds say of it. -/
namespace Go.Proofs.YtpbboooeahmgpaaW.Mine
open Go.RowKit Go.Proofs.YtpbboooeahmgpaaW.PrintWords
set_option linter.unusedVariables false
def ReadsK {α : Type} (P : Program) (T : TypeId) (d : Kd α) (ok : α → Prop) : Prop :=
  ∀ {H : Type} {enc : TypeId × Value → H} {w : World} {base : Nat} {spare : Nat → Bool} {held : Bool} {fuel : Nat} {cs : List Value} {x : DataW H × List MemPlace}, DataW.trod enc P w base spare held fuel T cs = some x → ∃ a : α, d.K w a cs ∧ ok a
theorem ReadsK.int {P : Program} {T : TypeId} {k : IntKind} (hT : P.underlying T = some (.int k)) : ReadsK P T (Kd.int k) (fun n => (Lit.int k n).wf = true) := by
  intro H enc w base spare held fuel cs x h
  obtain ⟨n, rfl, _, hw⟩ := DataW.trod_int hT h
  exact ⟨n, rfl, hw⟩
theorem ReadsK.bool {P : Program} {T : TypeId} (hT : P.underlying T = some .bool) : ReadsK P T Kd.bool (fun _ => True) := by
  intro H enc w base spare held fuel cs x h
  obtain ⟨b, rfl, _⟩ := DataW.trod_bool hT h
  exact ⟨b, rfl, trivial⟩
theorem exists_list {α : Type} {n : Nat} {p : Nat → α → Prop} (h : ∀ i, i < n → ∃ a, p i a) : ∃ l : List α, l.length = n ∧ ∀ i a, l[i]? = some a → p i a := by
  induction n with
  | zero => exact ⟨[], rfl, fun i a hi => by simp at hi⟩
  | succ n ih =>
    obtain ⟨l, hl, hp⟩ := ih (fun i hi => h i (by omega))
    obtain ⟨a, ha⟩ := h n (by omega)
    refine ⟨l ++ [a], by simp [hl], fun i b hb => ?_⟩
    rcases Nat.lt_or_ge i n with hi | hi
    · rw [List.getElem?_append_left (by omega)] at hb
      exact hp i b hb
    · have hi2 : i = n := by
        have := (List.getElem?_eq_some_iff.1 hb).1
        simp [hl] at this
        omega
      subst hi2
      rw [← hl, List.getElem?_append_right (Nat.le_refl _)] at hb
      simp at hb
      rw [← hb]
      exact ha
theorem ReadsK.slice {α : Type} {P : Program} {T e : TypeId} {d : Kd α} {ok : α → Prop} (hT : P.underlying T = some (.slice e)) (hc : P.cellsOf e = d.sz) (h1 : ReadsK P e d ok) : ReadsK P T (Kd.slice e d) (fun xs => ∀ x ∈ xs, ok x) := by
  intro H enc w base spare held fuel cs x h
  rcases Deep.open_slice hT h with ⟨rfl, _⟩ | ⟨a, len, cap, m, n, D, Pl, rfl, hb, hl, hm, hmm, _, hx⟩
  · exact ⟨[], ⟨none, 0, rfl, Nat.le_refl _, rfl, by simp, fun h => absurd h (by simp)⟩, fun x hx => by simp at hx⟩
  · have hlm : len ≤ m := by rw [hmm]; split <;> omega
    obtain ⟨l, hll, hp⟩ := exists_list (n := len) (p := fun i y => ∃ cs', w.cells? base (a.add (i * P.cellsOf e)) (P.cellsOf e) = some cs' ∧ d.K w y cs' ∧ ok y) (fun i hi => by
      obtain ⟨cs', h2, h3⟩ := hx i (by omega)
      obtain ⟨y, hy, hok⟩ := h1 h3
      exact ⟨y, cs', h2, hy, hok⟩)
    refine ⟨l, ⟨some a, cap, by rw [hll], by omega, rfl, ?_, fun hn => ⟨a, rfl, fun j p hj => ?_⟩⟩, fun y hy => ?_⟩
    · rw [hll]; unfold maxLen at hm; omega
    · obtain ⟨cs', h2, h3, _⟩ := hp j p hj
      obtain ⟨_, hlen, hcell⟩ := World.cells?_some h2
      refine ⟨cs', by rw [hlen, hc], h3, fun i u hu => ?_⟩
      have hi : i < P.cellsOf e := by
        have := (List.getElem?_eq_some_iff.1 hu).1
        omega
      have h4 := hcell i hi
      rw [hu] at h4
      rw [← h4, ← hc]
      congr 1
      unfold Addr.add
      by_cases z1 : j * P.cellsOf e = 0 <;> by_cases z2 : i = 0 <;> simp [z1, z2, Nat.add_assoc]
    · obtain ⟨j, hj, rfl⟩ := List.mem_iff_getElem.1 hy
      obtain ⟨_, _, _, hok⟩ := hp j _ (List.getElem?_eq_getElem hj)
      exact hok
def ReadsF {α : Type} (P : Program) (o : Nat) (fs : List Field) (d : Kd α) (ok : α → Prop) : Prop :=
  ∀ {H : Type} {enc : TypeId × Value → H} {w : World} {base : Nat} {spare : Nat → Bool} {held : Bool} {n : Nat} {cs : List Value}, (∀ f ∈ fs, ∃ x, DataW.trod enc P w base spare held n f.type ((cs.drop f.offset).take (P.cellsOf f.type)) = some x) → ∃ a : α, d.K w a ((cs.drop o).take d.sz) ∧ ok a
theorem ReadsF.last {α : Type} {P : Program} {o : Nat} {f : Field} {d : Kd α} {ok : α → Prop} (ho : f.offset = o) (h : ReadsK P f.type d ok) (hc : P.cellsOf f.type = d.sz) : ReadsF P o [f] d ok := by
  intro H enc w base spare held n cs hh
  obtain ⟨x, hx⟩ := hh f (by simp)
  rw [ho, hc] at hx
  exact h hx
theorem ReadsF.cons {α β : Type} {P : Program} {o : Nat} {f : Field} {fs : List Field} {d : Kd α} {d2 : Kd β} {ok : α → Prop} {ok2 : β → Prop} (ho : f.offset = o) (h : ReadsK P f.type d ok) (hc : P.cellsOf f.type = d.sz) (h2 : ReadsF P (o + d.sz) fs d2 ok2) : ReadsF P o (f :: fs) (Kd.pair d d2) (fun p => ok p.1 ∧ ok2 p.2) := by
  intro H enc w base spare held n cs hh
  obtain ⟨x, hx⟩ := hh f (by simp)
  rw [ho, hc] at hx
  obtain ⟨a, ha, hok⟩ := h hx
  obtain ⟨b, hb, hok2⟩ := h2 (fun g hg => hh g (by simp [hg]))
  refine ⟨(a, b), ⟨_, _, ?_, ha, hb⟩, hok, hok2⟩
  show (cs.drop o).take (d.sz + d2.sz) = _
  rw [List.take_add, List.drop_drop]
theorem ReadsK.struct {α : Type} {P : Program} {T : TypeId} {fs : Array Field} {d : Kd α} {ok : α → Prop} (hT : P.underlying T = some (.struct fs)) (hc : P.cellsOf T = d.sz) (h : ReadsF P 0 fs.toList d ok) : ReadsK P T d ok := by
  intro H enc w base spare held fuel cs x hx
  obtain ⟨xs, n, _, _, hl, hlen, hf⟩ := DataW.trod_struct hT hx
  obtain ⟨a, ha, hok⟩ := h (n := n) (cs := cs) (enc := enc) (w := w) (base := base) (spare := spare) (held := held) (fun f hf2 => by
    obtain ⟨i, hi, rfl⟩ := List.mem_iff_getElem.1 hf2
    have h1 := hf i fs[i] (by simp at hi; exact Array.getElem?_eq_getElem hi)
    have hi2 : i < xs.length := by simp at hi; omega
    rw [List.getElem?_eq_getElem hi2] at h1
    exact ⟨_, by simpa using h1⟩)
  refine ⟨a, ?_, hok⟩
  rwa [List.drop_zero, ← hc, ← hl, List.take_length] at ha
theorem ReadsK.iso {α β : Type} {P : Program} {T : TypeId} {d : Kd α} {ok : α → Prop} (h : ReadsK P T d ok) (f : β → α) (g : α → β) (hfg : ∀ a, f (g a) = a) : ReadsK P T (Kd.iso d f) (fun b => ok (f b)) := by
  intro H enc w base spare held fuel cs x hx
  obtain ⟨a, ha, hok⟩ := h hx
  refine ⟨g a, ?_, by show ok (f (g a)); rw [hfg]; exact hok⟩
  show d.K w (f (g a)) cs
  rw [hfg]
  exact ha
theorem agg_of {cs : Array Value} {L : List Value} (h : cs.toList = L) : cs = L.toArray := by rw [← h]
end Go.Proofs.YtpbboooeahmgpaaW.Mine


-- written by wip/gen_law.py
namespace Go.Proofs.Ytpbboooeahmgpaa.P
open Go.RowKit Go.Proofs.YtpbboooeahmgpaaW.PrintWords Go.Proofs.YtpbboooeahmgpaaW.PrintLast Go.Proofs.YtpbboooeahmgpaaW.PrintMore Go.Proofs.YtpbboooeahmgpaaW.Mine
open List (setIfInBounds_toArray set_cons_zero set_cons_succ)
attribute [local go_sem] max2_int min2_int max_two min_two max_three min_three max_four min_four
set_option linter.unusedVariables false
set_option linter.unusedSimpArgs false
set_option maxHeartbeats 8000000 in
set_option maxRecDepth 100000 in
theorem FnExactConflictsOf_run0 (A0_0 : Option Addr) (c0_0 : Nat) (l0_0 : List (List Int)) (A1_0 : Option Addr) (c1_0 : Nat) (l1_0 : List (SlawsLoan)) (r1_0 : Int) (w : World) (hr0_0 : Kd.C (Kd.slice 5 (Kd.int .u8)) w A0_0 l0_0.length l0_0) (hc0_0 : l0_0.length ≤ c0_0) (hr1_0 : Kd.C klawsLoan w A1_0 l1_0.length l1_0) (hc1_0 : l1_0.length ≤ c1_0) (H1 : ∃ k, laws_szMemory.f k l0_0 1048576 = some r1_0) (P_ : r1_0 < 0) :
    Calls Try.prog 10 #[.agg #[.slice A0_0 l0_0.length c0_0], .slice A1_0 l1_0.length c1_0] w fun e w' => e = .returned (.bool true) ∧ Below w.heap.size w w' := by
  have HR0_0 := Aside0.mk hr0_0; have HC0_0 := Aside0.mk hc0_0; clear hr0_0 hc0_0
  have HR1_0 := Aside0.mk hr1_0; have HC1_0 := Aside0.mk hc1_0; clear hr1_0 hc1_0
  obtain ⟨k, H1_⟩ := H1; have H1 := Aside0.mk H1_; clear H1_
  have Pb_ : decide (r1_0 < 0) = true := decide_eq_true P_; clear P_
  have HS0 : Aside0 (Stk w [] w) := ⟨Stk.nil w⟩
  go_enter Try.func10, Try.ntmps10
  refine reg (aF := ?_) (nw := ?_) [evB 0 2 [] 49 (fun s => #[.slice A0_0 l0_0.length c0_0]) 9999 [] (fun s => #[.slice A0_0 l0_0.length c0_0]), evP 1 4 [] (fun s => .bool false)] [] [] false 2 rfl rfl (by kernel_rfl) rfl (mf0) ?aF ?nw HS0.out ?hs ?_
  rotate_left 2
  case aF => intro s; simp only [putE, EvT.val, Act.put, setIfInBounds_toArray, set_cons_zero, set_cons_succ]; rfl
  case nw => intro s; simp only [thA, bsA, List.nil_append, List.cons_append, List.append_nil, if_true, if_false, Nat.reduceLT, set_cons_zero, set_cons_succ]; rfl
  case hs => exact ⟨bv rfl (fun s w => by go_simp; try rfl), pu rfl, trivial⟩
  intro s1 w1 h; have HS1 := Aside0.mk h; clear h HS0
  refine tl0 ?_
  refine reg0 (aF := ?_) [] [0] false 1 rfl rfl (by kernel_rfl) rfl (fun _ => rfl) ?aF HS1.out ?hs ?_
  rotate_left 1
  case aF => intro s; simp only [putE, EvT.val, Act.put, setIfInBounds_toArray, set_cons_zero, set_cons_succ]; rfl
  case hs => exact trivial
  intro s2 w2 h; have HS2 := Aside0.mk h; clear h HS1
  refine tlP (v := .int .i64 1048576) 5 rfl ?_
  refine tl0 ?_
  refine reg0 (aF := ?_) [evL 0 17 [] (fun s => .agg #[.slice A0_0 l0_0.length c0_0]), evP 1 18 [] (fun s => .int .i64 1048576), evC 2 (some 19) [] (fun s x => .int .i64 r1_0) (fun s x => [])] [3] false 4 rfl rfl (by kernel_rfl) rfl (fun _ => rfl) ?aF HS2.out ?hs ?_
  rotate_left 1
  case aF => intro s; simp only [putE, EvT.val, Act.put, setIfInBounds_toArray, set_cons_zero, set_cons_succ]; rfl
  case hs => exact ⟨ld rfl 0 (fun s => rfl) (fun s w h => by have h0 := h 0 _ rfl; clear h; go_simp; try rfl), pu rfl, cl rfl (fun s => #[.agg #[.slice A0_0 l0_0.length c0_0], .int .i64 1048576]) Try.func24 (fun s w1 h => (laws_szMemory.calls _ _ _ _ _ _ _ (Kd.C_below HR0_0.out h.hb) HC0_0.out H1.out).mono (by rintro e w2 ⟨rfl, hb⟩; exact fin0 hb)), trivial⟩
  intro s3 w3 h; have HS3 := Aside0.mk h; clear h HS2
  refine tlP (v := .int .i64 r1_0) 5 rfl ?_
  refine tl0 ?_
  refine wp_seq ?_
  refine reg0 (aF := ?_) [evP 0 20 [] (fun s => .int .i64 r1_0), evP 1 21 [] (fun s => .bool true)] [] false 2 rfl rfl (by kernel_rfl) rfl (fun _ => rfl) ?aF HS3.out ?hs ?_
  rotate_left 1
  case aF => intro s; simp only [putE, EvT.val, Act.put, setIfInBounds_toArray, set_cons_zero, set_cons_succ]; rfl
  case hs => exact ⟨pu rfl, pb (q := .lss) Pb_ rfl, trivial⟩
  intro s4 w4 h; have HS4 := Aside0.mk h; clear h HS3
  refine tl0 ?_
  refine wp_cond_true rfl ?_
  refine reg0 (aF := ?_) [] [0] false 1 rfl rfl (by kernel_rfl) rfl (fun _ => rfl) ?aF HS4.out ?hs ?_
  rotate_left 1
  case aF => intro s; simp only [putE, EvT.val, Act.put, setIfInBounds_toArray, set_cons_zero, set_cons_succ]; rfl
  case hs => exact trivial
  intro s5 w5 h; have HS5 := Aside0.mk h; clear h HS4
  refine tlP (v := .bool true) 4 rfl ?_
  refine tl0 ?_
  refine wp_ret ?_
  go_ret
  exact ⟨by first | rfl | simp, HS5.out.hb⟩
set_option maxHeartbeats 8000000 in
set_option maxRecDepth 100000 in
theorem FnExactConflictsOf_run1 (A0_0 : Option Addr) (c0_0 : Nat) (l0_0 : List (List Int)) (A1_0 : Option Addr) (c1_0 : Nat) (l1_0 : List (SlawsLoan)) (r1_0 : Int) (r2_0 : Int) (w : World) (hr0_0 : Kd.C (Kd.slice 5 (Kd.int .u8)) w A0_0 l0_0.length l0_0) (hc0_0 : l0_0.length ≤ c0_0) (hr1_0 : Kd.C klawsLoan w A1_0 l1_0.length l1_0) (hc1_0 : l1_0.length ≤ c1_0) (H1 : ∃ k, laws_szMemory.f k l0_0 1048576 = some r1_0) (H2 : laws_szLoanS.f l1_0 r1_0 = some r2_0) (N_r1_0 : ¬ r1_0 < 0) (P_ : r2_0 < 0) :
    Calls Try.prog 10 #[.agg #[.slice A0_0 l0_0.length c0_0], .slice A1_0 l1_0.length c1_0] w fun e w' => e = .returned (.bool true) ∧ Below w.heap.size w w' := by
  have HR0_0 := Aside0.mk hr0_0; have HC0_0 := Aside0.mk hc0_0; clear hr0_0 hc0_0
  have HR1_0 := Aside0.mk hr1_0; have HC1_0 := Aside0.mk hc1_0; clear hr1_0 hc1_0
  obtain ⟨k, H1_⟩ := H1; have H1 := Aside0.mk H1_; clear H1_
  have H2_ := Aside0.mk H2; clear H2; have H2 := H2_; clear H2_
  have Nb_r1_0 : decide (r1_0 < 0) = false := decide_eq_false N_r1_0; clear N_r1_0
  have Pb_ : decide (r2_0 < 0) = true := decide_eq_true P_; clear P_
  have HS0 : Aside0 (Stk w [] w) := ⟨Stk.nil w⟩
  go_enter Try.func10, Try.ntmps10
  refine reg (aF := ?_) (nw := ?_) [evB 0 2 [] 49 (fun s => #[.slice A0_0 l0_0.length c0_0]) 9999 [] (fun s => #[.slice A0_0 l0_0.length c0_0]), evP 1 4 [] (fun s => .bool false)] [] [] false 2 rfl rfl (by kernel_rfl) rfl (mf0) ?aF ?nw HS0.out ?hs ?_
  rotate_left 2
  case aF => intro s; simp only [putE, EvT.val, Act.put, setIfInBounds_toArray, set_cons_zero, set_cons_succ]; rfl
  case nw => intro s; simp only [thA, bsA, List.nil_append, List.cons_append, List.append_nil, if_true, if_false, Nat.reduceLT, set_cons_zero, set_cons_succ]; rfl
  case hs => exact ⟨bv rfl (fun s w => by go_simp; try rfl), pu rfl, trivial⟩
  intro s1 w1 h; have HS1 := Aside0.mk h; clear h HS0
  refine tl0 ?_
  refine reg0 (aF := ?_) [] [0] false 1 rfl rfl (by kernel_rfl) rfl (fun _ => rfl) ?aF HS1.out ?hs ?_
  rotate_left 1
  case aF => intro s; simp only [putE, EvT.val, Act.put, setIfInBounds_toArray, set_cons_zero, set_cons_succ]; rfl
  case hs => exact trivial
  intro s2 w2 h; have HS2 := Aside0.mk h; clear h HS1
  refine tlP (v := .int .i64 1048576) 5 rfl ?_
  refine tl0 ?_
  refine reg0 (aF := ?_) [evL 0 17 [] (fun s => .agg #[.slice A0_0 l0_0.length c0_0]), evP 1 18 [] (fun s => .int .i64 1048576), evC 2 (some 19) [] (fun s x => .int .i64 r1_0) (fun s x => [])] [3] false 4 rfl rfl (by kernel_rfl) rfl (fun _ => rfl) ?aF HS2.out ?hs ?_
  rotate_left 1
  case aF => intro s; simp only [putE, EvT.val, Act.put, setIfInBounds_toArray, set_cons_zero, set_cons_succ]; rfl
  case hs => exact ⟨ld rfl 0 (fun s => rfl) (fun s w h => by have h0 := h 0 _ rfl; clear h; go_simp; try rfl), pu rfl, cl rfl (fun s => #[.agg #[.slice A0_0 l0_0.length c0_0], .int .i64 1048576]) Try.func24 (fun s w1 h => (laws_szMemory.calls _ _ _ _ _ _ _ (Kd.C_below HR0_0.out h.hb) HC0_0.out H1.out).mono (by rintro e w2 ⟨rfl, hb⟩; exact fin0 hb)), trivial⟩
  intro s3 w3 h; have HS3 := Aside0.mk h; clear h HS2
  refine tlP (v := .int .i64 r1_0) 5 rfl ?_
  refine tl0 ?_
  refine wp_seq ?_
  refine reg0 (aF := ?_) [evP 0 20 [] (fun s => .int .i64 r1_0), evP 1 21 [] (fun s => .bool false)] [] false 2 rfl rfl (by kernel_rfl) rfl (fun _ => rfl) ?aF HS3.out ?hs ?_
  rotate_left 1
  case aF => intro s; simp only [putE, EvT.val, Act.put, setIfInBounds_toArray, set_cons_zero, set_cons_succ]; rfl
  case hs => exact ⟨pu rfl, pb (q := .lss) Nb_r1_0 rfl, trivial⟩
  intro s4 w4 h; have HS4 := Aside0.mk h; clear h HS3
  refine tl0 ?_
  refine wp_cond_false rfl ?_
  refine wp_skip ?_
  refine thN ?_
  refine reg0 (aF := ?_) [evP 0 22 [] (fun s => .slice A1_0 l1_0.length c1_0), evP 1 23 [] (fun s => .int .i64 r1_0), evC 2 (some 24) [] (fun s x => .int .i64 r2_0) (fun s x => [])] [3] false 4 rfl rfl (by kernel_rfl) rfl (fun _ => rfl) ?aF HS4.out ?hs ?_
  rotate_left 1
  case aF => intro s; simp only [putE, EvT.val, Act.put, setIfInBounds_toArray, set_cons_zero, set_cons_succ]; rfl
  case hs => exact ⟨pu rfl, pu rfl, cl rfl (fun s => #[.slice A1_0 l1_0.length c1_0, .int .i64 r1_0]) Try.func25 (fun s w1 h => (laws_szLoanS.calls _ _ _ _ _ _ (Kd.C_below HR1_0.out h.hb) HC1_0.out H2.out).mono (by rintro e w2 ⟨rfl, hd⟩; exact fin0 hd.below)), trivial⟩
  intro s5 w5 h; have HS5 := Aside0.mk h; clear h HS4
  refine tlP (v := .int .i64 r2_0) 5 rfl ?_
  refine tl0 ?_
  refine wp_seq ?_
  refine reg0 (aF := ?_) [evP 0 25 [] (fun s => .int .i64 r2_0), evP 1 26 [] (fun s => .bool true)] [] false 2 rfl rfl (by kernel_rfl) rfl (fun _ => rfl) ?aF HS5.out ?hs ?_
  rotate_left 1
  case aF => intro s; simp only [putE, EvT.val, Act.put, setIfInBounds_toArray, set_cons_zero, set_cons_succ]; rfl
  case hs => exact ⟨pu rfl, pb (q := .lss) Pb_ rfl, trivial⟩
  intro s6 w6 h; have HS6 := Aside0.mk h; clear h HS5
  refine tl0 ?_
  refine wp_cond_true rfl ?_
  refine reg0 (aF := ?_) [] [0] false 1 rfl rfl (by kernel_rfl) rfl (fun _ => rfl) ?aF HS6.out ?hs ?_
  rotate_left 1
  case aF => intro s; simp only [putE, EvT.val, Act.put, setIfInBounds_toArray, set_cons_zero, set_cons_succ]; rfl
  case hs => exact trivial
  intro s7 w7 h; have HS7 := Aside0.mk h; clear h HS6
  refine tlP (v := .bool true) 4 rfl ?_
  refine tl0 ?_
  refine wp_ret ?_
  go_ret
  exact ⟨by first | rfl | simp, HS7.out.hb⟩
set_option maxHeartbeats 8000000 in
set_option maxRecDepth 100000 in
theorem FnExactConflictsOf_run (A0_0 : Option Addr) (c0_0 : Nat) (l0_0 : List (List Int)) (A1_0 : Option Addr) (c1_0 : Nat) (l1_0 : List (SlawsLoan)) (r1_0 : Int) (r2_0 : Int) (r3_0 : List (List Int)) (r4_0 : List (SimplLoan)) (r5_0 : List (SA2int)) (r5_1 : Bool) (r10_0 : Int) (r10_1 : List (List Int)) (r11_0 : Int) (r11_1 : List SimplLoan) (r12_0 : Int) (r12_1 : List SA2int) (w : World) (hr0_0 : Kd.C (Kd.slice 5 (Kd.int .u8)) w A0_0 l0_0.length l0_0) (hc0_0 : l0_0.length ≤ c0_0) (hr1_0 : Kd.C klawsLoan w A1_0 l1_0.length l1_0) (hc1_0 : l1_0.length ≤ c1_0) (H1 : ∃ k, laws_szMemory.f k l0_0 1048576 = some r1_0) (H2 : laws_szLoanS.f l1_0 r1_0 = some r2_0) (H3 : laws_toMemory.f l0_0 = some r3_0) (H4 : ∃ k, laws_toLoanS.f k l1_0 = some r4_0) (H5 : ∃ k, spec_ConflictsOf.f k r3_0 r4_0 = some (r5_0, r5_1)) (H6 : ∃ k, impl_ConflictsOf.f k r3_0 r4_0 = some (r5_0, r5_1)) (H7 : ∃ k, laws_eqIntA2S.f k r5_0 r5_0 = some true) (H8 : ∃ k, laws_eqMemory.f k r3_0 r3_0 = some true) (H9 : ∃ k, laws_eqLoanS.f k r4_0 r4_0 = some true) (H10 : laws_markMemory.f r3_0 1 = some (r10_0, r10_1)) (H11 : laws_markLoanS.f r4_0 r10_0 = some (r11_0, r11_1)) (H12 : laws_markIntA2S.f r5_0 1 = some (r12_0, r12_1)) (H13 : laws_heldIntA2S.f r12_1 1 = some r12_0) (N_r11_0 : ¬ r11_0 < 0) (N_r12_0 : ¬ r12_0 < 0) (N_r1_0 : ¬ r1_0 < 0) (N_r2_0 : ¬ r2_0 < 0) :
    Calls Try.prog 10 #[.agg #[.slice A0_0 l0_0.length c0_0], .slice A1_0 l1_0.length c1_0] w fun e w' => e = .returned (.bool true) ∧ Below w.heap.size w w' := by
  have HR0_0 := Aside0.mk hr0_0; have HC0_0 := Aside0.mk hc0_0; clear hr0_0 hc0_0
  have HR1_0 := Aside0.mk hr1_0; have HC1_0 := Aside0.mk hc1_0; clear hr1_0 hc1_0
  obtain ⟨k, H1_⟩ := H1; have H1 := Aside0.mk H1_; clear H1_
  have H2_ := Aside0.mk H2; clear H2; have H2 := H2_; clear H2_
  have H3_ := Aside0.mk H3; clear H3; have H3 := H3_; clear H3_
  obtain ⟨k, H4_⟩ := H4; have H4 := Aside0.mk H4_; clear H4_
  obtain ⟨k, H5_⟩ := H5; have H5 := Aside0.mk H5_; clear H5_
  obtain ⟨k, H6_⟩ := H6; have H6 := Aside0.mk H6_; clear H6_
  obtain ⟨k, H7_⟩ := H7; have H7 := Aside0.mk H7_; clear H7_
  obtain ⟨k, H8_⟩ := H8; have H8 := Aside0.mk H8_; clear H8_
  obtain ⟨k, H9_⟩ := H9; have H9 := Aside0.mk H9_; clear H9_
  have H10_ := Aside0.mk H10; clear H10; have H10 := H10_; clear H10_
  have H11_ := Aside0.mk H11; clear H11; have H11 := H11_; clear H11_
  have H12_ := Aside0.mk H12; clear H12; have H12 := H12_; clear H12_
  have H13_ := Aside0.mk H13; clear H13; have H13 := H13_; clear H13_
  have Nb_r11_0 : decide (r11_0 < 0) = false := decide_eq_false N_r11_0; clear N_r11_0
  have Nb_r12_0 : decide (r12_0 < 0) = false := decide_eq_false N_r12_0; clear N_r12_0
  have Nb_r1_0 : decide (r1_0 < 0) = false := decide_eq_false N_r1_0; clear N_r1_0
  have Nb_r2_0 : decide (r2_0 < 0) = false := decide_eq_false N_r2_0; clear N_r2_0
  have HS0 : Aside0 (Stk w [] w) := ⟨Stk.nil w⟩
  go_enter Try.func10, Try.ntmps10
  refine reg (aF := ?_) (nw := ?_) [evB 0 2 [] 49 (fun s => #[.slice A0_0 l0_0.length c0_0]) 9999 [] (fun s => #[.slice A0_0 l0_0.length c0_0]), evP 1 4 [] (fun s => .bool false)] [] [] false 2 rfl rfl (by kernel_rfl) rfl (mf0) ?aF ?nw HS0.out ?hs ?_
  rotate_left 2
  case aF => intro s; simp only [putE, EvT.val, Act.put, setIfInBounds_toArray, set_cons_zero, set_cons_succ]; rfl
  case nw => intro s; simp only [thA, bsA, List.nil_append, List.cons_append, List.append_nil, if_true, if_false, Nat.reduceLT, set_cons_zero, set_cons_succ]; rfl
  case hs => exact ⟨bv rfl (fun s w => by go_simp; try rfl), pu rfl, trivial⟩
  intro s1 w1 h; have HS1 := Aside0.mk h; clear h HS0
  refine tl0 ?_
  refine reg0 (aF := ?_) [] [0] false 1 rfl rfl (by kernel_rfl) rfl (fun _ => rfl) ?aF HS1.out ?hs ?_
  rotate_left 1
  case aF => intro s; simp only [putE, EvT.val, Act.put, setIfInBounds_toArray, set_cons_zero, set_cons_succ]; rfl
  case hs => exact trivial
  intro s2 w2 h; have HS2 := Aside0.mk h; clear h HS1
  refine tlP (v := .int .i64 1048576) 5 rfl ?_
  refine tl0 ?_
  refine reg0 (aF := ?_) [evL 0 17 [] (fun s => .agg #[.slice A0_0 l0_0.length c0_0]), evP 1 18 [] (fun s => .int .i64 1048576), evC 2 (some 19) [] (fun s x => .int .i64 r1_0) (fun s x => [])] [3] false 4 rfl rfl (by kernel_rfl) rfl (fun _ => rfl) ?aF HS2.out ?hs ?_
  rotate_left 1
  case aF => intro s; simp only [putE, EvT.val, Act.put, setIfInBounds_toArray, set_cons_zero, set_cons_succ]; rfl
  case hs => exact ⟨ld rfl 0 (fun s => rfl) (fun s w h => by have h0 := h 0 _ rfl; clear h; go_simp; try rfl), pu rfl, cl rfl (fun s => #[.agg #[.slice A0_0 l0_0.length c0_0], .int .i64 1048576]) Try.func24 (fun s w1 h => (laws_szMemory.calls _ _ _ _ _ _ _ (Kd.C_below HR0_0.out h.hb) HC0_0.out H1.out).mono (by rintro e w2 ⟨rfl, hb⟩; exact fin0 hb)), trivial⟩
  intro s3 w3 h; have HS3 := Aside0.mk h; clear h HS2
  refine tlP (v := .int .i64 r1_0) 5 rfl ?_
  refine tl0 ?_
  refine wp_seq ?_
  refine reg0 (aF := ?_) [evP 0 20 [] (fun s => .int .i64 r1_0), evP 1 21 [] (fun s => .bool false)] [] false 2 rfl rfl (by kernel_rfl) rfl (fun _ => rfl) ?aF HS3.out ?hs ?_
  rotate_left 1
  case aF => intro s; simp only [putE, EvT.val, Act.put, setIfInBounds_toArray, set_cons_zero, set_cons_succ]; rfl
  case hs => exact ⟨pu rfl, pb (q := .lss) Nb_r1_0 rfl, trivial⟩
  intro s4 w4 h; have HS4 := Aside0.mk h; clear h HS3
  refine tl0 ?_
  refine wp_cond_false rfl ?_
  refine wp_skip ?_
  refine thN ?_
  refine reg0 (aF := ?_) [evP 0 22 [] (fun s => .slice A1_0 l1_0.length c1_0), evP 1 23 [] (fun s => .int .i64 r1_0), evC 2 (some 24) [] (fun s x => .int .i64 r2_0) (fun s x => [])] [3] false 4 rfl rfl (by kernel_rfl) rfl (fun _ => rfl) ?aF HS4.out ?hs ?_
  rotate_left 1
  case aF => intro s; simp only [putE, EvT.val, Act.put, setIfInBounds_toArray, set_cons_zero, set_cons_succ]; rfl
  case hs => exact ⟨pu rfl, pu rfl, cl rfl (fun s => #[.slice A1_0 l1_0.length c1_0, .int .i64 r1_0]) Try.func25 (fun s w1 h => (laws_szLoanS.calls _ _ _ _ _ _ (Kd.C_below HR1_0.out h.hb) HC1_0.out H2.out).mono (by rintro e w2 ⟨rfl, hd⟩; exact fin0 hd.below)), trivial⟩
  intro s5 w5 h; have HS5 := Aside0.mk h; clear h HS4
  refine tlP (v := .int .i64 r2_0) 5 rfl ?_
  refine tl0 ?_
  refine wp_seq ?_
  refine reg0 (aF := ?_) [evP 0 25 [] (fun s => .int .i64 r2_0), evP 1 26 [] (fun s => .bool false)] [] false 2 rfl rfl (by kernel_rfl) rfl (fun _ => rfl) ?aF HS5.out ?hs ?_
  rotate_left 1
  case aF => intro s; simp only [putE, EvT.val, Act.put, setIfInBounds_toArray, set_cons_zero, set_cons_succ]; rfl
  case hs => exact ⟨pu rfl, pb (q := .lss) Nb_r2_0 rfl, trivial⟩
  intro s6 w6 h; have HS6 := Aside0.mk h; clear h HS5
  refine tl0 ?_
  refine wp_cond_false rfl ?_
  refine wp_skip ?_
  refine thN ?_
  refine reg (aF := ?_) (nw := ?_) [evL 0 28 [] (fun s => .agg #[.slice A0_0 l0_0.length c0_0]), evC 1 (some 29) [] (fun s x => .agg #[.slice x.A r3_0.length x.c]) (fun s x => [rowS (Kd.slice 5 (Kd.int .u8)) 22 w x.lo x.hi x.A x.c r3_0]), evP 2 30 [] (fun s => .slice A1_0 l1_0.length c1_0), evC 3 (some 31) [] (fun s x => .slice x.A r4_0.length x.c) (fun s x => [rowR kimplLoan 30 w x.lo x.hi x.A x.c r4_0]), evC 4 (some 32) [1, 3] (fun s x => .tuple #[.slice x.A r5_0.length x.c, .bool r5_1]) (fun s x => [rowR kA2int 75 w x.lo x.hi x.A x.c r5_0]), evP 5 27 [4] (fun s => .tuple #[.slice (s 4).A r5_0.length (s 4).c, .bool r5_1]), evP 6 33 [4] (fun s => .slice (s 4).A r5_0.length (s 4).c), evP 7 34 [] (fun s => .bool r5_1), evP 8 6 [4] (fun s => .slice (s 4).A r5_0.length (s 4).c)] [9] [] false 10 rfl rfl (by kernel_rfl) rfl (mf0) ?aF ?nw HS6.out ?hs ?_
  rotate_left 2
  case aF => intro s; simp only [putE, EvT.val, Act.put, setIfInBounds_toArray, set_cons_zero, set_cons_succ]; rfl
  case nw => intro s; simp only [thA, bsA, List.nil_append, List.cons_append, List.append_nil, if_true, if_false, Nat.reduceLT, set_cons_zero, set_cons_succ]; rfl
  case hs => exact ⟨ld rfl 0 (fun s => rfl) (fun s w h => by have h0 := h 0 _ rfl; clear h; go_simp; try rfl), cl rfl (fun s => #[.agg #[.slice A0_0 l0_0.length c0_0]]) Try.func27 (fun s w1 h => (laws_toMemory.calls _ _ _ _ _ (Kd.C_below HR0_0.out h.hb) HC0_0.out H3.out).mono (by rintro e w2 ⟨v0_, rfl, ho0, hb⟩; obtain ⟨x, rfl, hx⟩ := fin_S ho0 hb h.hb.size; exact ⟨x, rfl, hx⟩)), pu rfl, cl rfl (fun s => #[.slice A1_0 l1_0.length c1_0]) Try.func28 (fun s w1 h => (laws_toLoanS.calls _ _ _ _ _ _ (Kd.C_below HR1_0.out h.hb) HC1_0.out H4.out).mono (by rintro e w2 ⟨v0_, rfl, ho0, hb⟩; obtain ⟨x, rfl, hx⟩ := fin_R ho0 hb h.hb.size; exact ⟨x, rfl, hx⟩)), cl rfl (fun s => #[.agg #[.slice (s 1).A r3_0.length (s 1).c], .slice (s 3).A r4_0.length (s 3).c]) Try.func52 (fun s w1 h => (spec_ConflictsOf.calls _ _ _ _ _ _ _ _ _ _ (Kd.S_reads' (h.get 0 rfl)).2.2 (Kd.S_reads' (h.get 0 rfl)).2.1 (Kd.R_reads' (h.get 1 rfl)).2.2 (Kd.R_reads' (h.get 1 rfl)).2.1 H5.out).mono (by rintro e w2 ⟨v0_, rfl, ho0, hb⟩; obtain ⟨x, rfl, hx⟩ := fin_R ho0 hb h.hb.size; exact ⟨x, rfl, hx⟩)), pu rfl, pu rfl, pu rfl, pu rfl, trivial⟩
  intro s7 w7 h; have HS7 := Aside0.mk h; clear h HS6
  refine tlP (v := .bool r5_1) 7 rfl ?_
  refine tl0 ?_
  refine reg (aF := ?_) (nw := ?_) [evL 0 35 [] (fun s => .agg #[.slice A0_0 l0_0.length c0_0]), evC 1 (some 36) [] (fun s x => .agg #[.slice x.A r3_0.length x.c]) (fun s x => [rowS (Kd.slice 5 (Kd.int .u8)) 22 w x.lo x.hi x.A x.c r3_0]), evB 2 8 [] 26 (fun s => #[.slice none 0 0]) 3 [1] (fun s => #[.slice (s 1).A r3_0.length (s 1).c]), evS 3] [] [] false 4 rfl rfl (by kernel_rfl) rfl (mf0) ?aF ?nw HS7.out ?hs ?_
  rotate_left 2
  case aF => intro s; simp only [putE, EvT.val, Act.put, setIfInBounds_toArray, set_cons_zero, set_cons_succ]; rfl
  case nw => intro s; simp only [thA, bsA, List.nil_append, List.cons_append, List.append_nil, if_true, if_false, Nat.reduceLT, set_cons_zero, set_cons_succ]; rfl
  case hs => exact ⟨ld rfl 3 (fun s => rfl) (fun s w h => by have h0 := h 0 _ rfl; clear h; go_simp; try rfl), cl rfl (fun s => #[.agg #[.slice A0_0 l0_0.length c0_0]]) Try.func27 (fun s w1 h => (laws_toMemory.calls _ _ _ _ _ (Kd.C_below HR0_0.out h.hb) HC0_0.out H3.out).mono (by rintro e w2 ⟨v0_, rfl, ho0, hb⟩; obtain ⟨x, rfl, hx⟩ := fin_S ho0 hb h.hb.size; exact ⟨x, rfl, hx⟩)), bv rfl (fun s w => by go_simp; try rfl), st rfl 2 0 (fun s => [.slice (s 1).A r3_0.length (s 1).c]) rfl (fun s w h hf => by have h0 := h 0 _ rfl; have f0 := hf 0; clear h hf; go_simp; try rfl), trivial⟩
  intro s8 w8 h; have HS8 := Aside0.mk h; clear h HS7
  refine tl0 ?_
  refine reg (aF := ?_) (nw := ?_) [evP 0 37 [] (fun s => .slice A1_0 l1_0.length c1_0), evC 1 (some 38) [] (fun s x => .slice x.A r4_0.length x.c) (fun s x => [rowR kimplLoan 30 w x.lo x.hi x.A x.c r4_0])] [2] [] false 3 rfl rfl (by kernel_rfl) rfl (mf0) ?aF ?nw HS8.out ?hs ?_
  rotate_left 2
  case aF => intro s; simp only [putE, EvT.val, Act.put, setIfInBounds_toArray, set_cons_zero, set_cons_succ]; rfl
  case nw => intro s; simp only [thA, bsA, List.nil_append, List.cons_append, List.append_nil, if_true, if_false, Nat.reduceLT, set_cons_zero, set_cons_succ]; rfl
  case hs => exact ⟨pu rfl, cl rfl (fun s => #[.slice A1_0 l1_0.length c1_0]) Try.func28 (fun s w1 h => (laws_toLoanS.calls _ _ _ _ _ _ (Kd.C_below HR1_0.out h.hb) HC1_0.out H4.out).mono (by rintro e w2 ⟨v0_, rfl, ho0, hb⟩; obtain ⟨x, rfl, hx⟩ := fin_R ho0 hb h.hb.size; exact ⟨x, rfl, hx⟩)), trivial⟩
  intro s9 w9 h; have HS9 := Aside0.mk h; clear h HS8
  refine tlP (v := .slice (s9 1).A r4_0.length (s9 1).c) 9 rfl ?_
  refine tl0 ?_
  refine reg (aF := ?_) (nw := ?_) [evL 0 40 [] (fun s => .agg #[.slice (s8 1).A r3_0.length (s8 1).c]), evP 1 41 [] (fun s => .slice (s9 1).A r4_0.length (s9 1).c), evC 2 (some 42) [] (fun s x => .tuple #[.slice x.A r5_0.length x.c, .bool r5_1]) (fun s x => [rowR kA2int 75 w x.lo x.hi x.A x.c r5_0]), evP 3 39 [2] (fun s => .tuple #[.slice (s 2).A r5_0.length (s 2).c, .bool r5_1]), evP 4 43 [2] (fun s => .slice (s 2).A r5_0.length (s 2).c), evP 5 44 [] (fun s => .bool r5_1), evP 6 10 [2] (fun s => .slice (s 2).A r5_0.length (s 2).c)] [7] [] false 8 rfl rfl (by kernel_rfl) rfl (mf0) ?aF ?nw HS9.out ?hs ?_
  rotate_left 2
  case aF => intro s; simp only [putE, EvT.val, Act.put, setIfInBounds_toArray, set_cons_zero, set_cons_succ]; rfl
  case nw => intro s; simp only [thA, bsA, List.nil_append, List.cons_append, List.append_nil, if_true, if_false, Nat.reduceLT, set_cons_zero, set_cons_succ]; rfl
  case hs => exact ⟨ld rfl 2 (fun s => rfl) (fun s w h => by have h0 := h 0 _ rfl; clear h; go_simp; try rfl), pu rfl, cl rfl (fun s => #[.agg #[.slice (s8 1).A r3_0.length (s8 1).c], .slice (s9 1).A r4_0.length (s9 1).c]) Try.func20 (fun s w1 h => (impl_ConflictsOf.calls _ _ _ _ _ _ _ _ _ _ (Kd.S_reads' (h.get 1 rfl)).2.2 (Kd.S_reads' (h.get 1 rfl)).2.1 (Kd.R_reads' (h.get 0 rfl)).2.2 (Kd.R_reads' (h.get 0 rfl)).2.1 H6.out).mono (by rintro e w2 ⟨v0_, rfl, ho0, hb⟩; obtain ⟨x, rfl, hx⟩ := fin_R ho0 hb h.hb.size; exact ⟨x, rfl, hx⟩)), pu rfl, pu rfl, pu rfl, pu rfl, trivial⟩
  intro s10 w10 h; have HS10 := Aside0.mk h; clear h HS9
  refine tlP (v := .bool r5_1) 11 rfl ?_
  refine tl0 ?_
  refine wp_seq ?_
  refine reg0 (aF := ?_) [evP 0 45 [] (fun s => .slice (s10 2).A r5_0.length (s10 2).c), evP 1 46 [] (fun s => .slice (s7 4).A r5_0.length (s7 4).c), evC 2 (some 47) [] (fun s x => .bool true) (fun s x => []), evP 3 48 [] (fun s => .bool false), evP 4 49 [] (fun s => .bool false), evP 5 50 [] (fun s => .bool r5_1), evP 6 51 [] (fun s => .bool r5_1), evP 7 52 [] (fun s => .bool false), evP 8 53 [] (fun s => .bool false)] [] false 9 rfl rfl (by kernel_rfl) rfl (fun _ => rfl) ?aF HS10.out ?hs ?_
  rotate_left 1
  case aF => intro s; simp only [putE, EvT.val, Act.put, setIfInBounds_toArray, set_cons_zero, set_cons_succ]; rfl
  case hs => exact ⟨pu rfl, pu rfl, cl rfl (fun s => #[.slice (s10 2).A r5_0.length (s10 2).c, .slice (s7 4).A r5_0.length (s7 4).c]) Try.func53 (fun s w1 h => (laws_eqIntA2S.calls _ _ _ _ _ _ _ _ _ (Kd.R_reads' (h.get 0 rfl)).2.2 (Kd.R_reads' (h.get 0 rfl)).2.1 (Kd.R_reads' (h.get 6 rfl)).2.2 (Kd.R_reads' (h.get 6 rfl)).2.1 H7.out).mono (by rintro e w2 ⟨rfl, hb⟩; exact fin0 hb)), pu rfl, pu rfl, pu rfl, pu rfl, pn Try.underlying4 rfl, pu rfl, trivial⟩
  intro s11 w11 h; have HS11 := Aside0.mk h; clear h HS10
  refine tl0 ?_
  refine wp_cond_false rfl ?_
  refine wp_skip ?_
  refine thN ?_
  refine wp_seq ?_
  refine reg (aF := ?_) (nw := ?_) [evR 0 54 3 (fun s => .agg #[.slice (s8 1).A r3_0.length (s8 1).c]), evL 1 55 [] (fun s => .agg #[.slice A0_0 l0_0.length c0_0]), evC 2 (some 56) [] (fun s x => .agg #[.slice x.A r3_0.length x.c]) (fun s x => [rowS (Kd.slice 5 (Kd.int .u8)) 22 w x.lo x.hi x.A x.c r3_0]), evC 3 (some 57) [2] (fun s x => .bool true) (fun s x => []), evP 4 58 [] (fun s => .bool false)] [] [] true 5 rfl rfl (by kernel_rfl) rfl (mf0) ?aF ?nw HS11.out ?hs ?_
  rotate_left 2
  case aF => intro s; simp only [putE, EvT.val, Act.put, setIfInBounds_toArray, set_cons_zero, set_cons_succ]; rfl
  case nw => intro s; simp only [thA, bsA, List.nil_append, List.cons_append, List.append_nil, if_true, if_false, Nat.reduceLT, set_cons_zero, set_cons_succ]; rfl
  case hs => exact ⟨lr rfl 3 rfl (fun s w h => by have h0 := h 0 _ rfl; clear h; go_simp; try rfl), ld rfl 7 (fun s => rfl) (fun s w h => by have h0 := h 0 _ rfl; clear h; go_simp; try rfl), cl rfl (fun s => #[.agg #[.slice A0_0 l0_0.length c0_0]]) Try.func27 (fun s w1 h => (laws_toMemory.calls _ _ _ _ _ (Kd.C_below HR0_0.out h.hb) HC0_0.out H3.out).mono (by rintro e w2 ⟨v0_, rfl, ho0, hb⟩; obtain ⟨x, rfl, hx⟩ := fin_S ho0 hb h.hb.size; exact ⟨x, rfl, hx⟩)), cl rfl (fun s => #[.agg #[.slice (s8 1).A r3_0.length (s8 1).c], .agg #[.slice (s 2).A r3_0.length (s 2).c]]) Try.func31 (fun s w1 h => (laws_eqMemory.calls _ _ _ _ _ _ _ _ _ (Kd.S_reads' (h.get 3 rfl)).2.2 (Kd.S_reads' (h.get 3 rfl)).2.1 (Kd.S_reads' (h.get 0 rfl)).2.2 (Kd.S_reads' (h.get 0 rfl)).2.1 H8.out).mono (by rintro e w2 ⟨rfl, hb⟩; exact fin0 hb)), pu rfl, trivial⟩
  intro s12 w12 h; have HS12 := Aside0.mk h; clear h HS11
  refine tl0 ?_
  refine wp_cond_false rfl ?_
  refine wp_skip ?_
  refine thN ?_
  refine wp_seq ?_
  refine reg (aF := ?_) (nw := ?_) [evP 0 59 [] (fun s => .slice (s9 1).A r4_0.length (s9 1).c), evP 1 60 [] (fun s => .slice A1_0 l1_0.length c1_0), evC 2 (some 61) [] (fun s x => .slice x.A r4_0.length x.c) (fun s x => [rowR kimplLoan 30 w x.lo x.hi x.A x.c r4_0]), evC 3 (some 62) [2] (fun s x => .bool true) (fun s x => []), evP 4 63 [] (fun s => .bool false)] [] [] false 5 rfl rfl (by kernel_rfl) rfl (mf0) ?aF ?nw HS12.out ?hs ?_
  rotate_left 2
  case aF => intro s; simp only [putE, EvT.val, Act.put, setIfInBounds_toArray, set_cons_zero, set_cons_succ]; rfl
  case nw => intro s; simp only [thA, bsA, List.nil_append, List.cons_append, List.append_nil, if_true, if_false, Nat.reduceLT, set_cons_zero, set_cons_succ]; rfl
  case hs => exact ⟨pu rfl, pu rfl, cl rfl (fun s => #[.slice A1_0 l1_0.length c1_0]) Try.func28 (fun s w1 h => (laws_toLoanS.calls _ _ _ _ _ _ (Kd.C_below HR1_0.out h.hb) HC1_0.out H4.out).mono (by rintro e w2 ⟨v0_, rfl, ho0, hb⟩; obtain ⟨x, rfl, hx⟩ := fin_R ho0 hb h.hb.size; exact ⟨x, rfl, hx⟩)), cl rfl (fun s => #[.slice (s9 1).A r4_0.length (s9 1).c, .slice (s 2).A r4_0.length (s 2).c]) Try.func32 (fun s w1 h => (laws_eqLoanS.calls _ _ _ _ _ _ _ _ _ (Kd.R_reads' (h.get 3 rfl)).2.2 (Kd.R_reads' (h.get 3 rfl)).2.1 (Kd.R_reads' (h.get 0 rfl)).2.2 (Kd.R_reads' (h.get 0 rfl)).2.1 H9.out).mono (by rintro e w2 ⟨rfl, hb⟩; exact fin0 hb)), pu rfl, trivial⟩
  intro s13 w13 h; have HS13 := Aside0.mk h; clear h HS12
  refine tl0 ?_
  refine wp_cond_false rfl ?_
  refine wp_skip ?_
  refine thN ?_
  refine reg0 (aF := ?_) [] [0] false 1 rfl rfl (by kernel_rfl) rfl (fun _ => rfl) ?aF HS13.out ?hs ?_
  rotate_left 1
  case aF => intro s; simp only [putE, EvT.val, Act.put, setIfInBounds_toArray, set_cons_zero, set_cons_succ]; rfl
  case hs => exact trivial
  intro s14 w14 h; have HS14 := Aside0.mk h; clear h HS13
  refine tlP (v := .int .i64 1) 12 rfl ?_
  refine tl0 ?_
  refine reg (aF := ?_) (nw := ?_) [evL 0 64 [] (fun s => .agg #[.slice (s8 1).A r3_0.length (s8 1).c]), evP 1 65 [] (fun s => .int .i64 1), evW 2 (some 66) [] (fun s => .int .i64 r10_0)] [3] [⟨4, 2, [], fun s => ⟨(s8 1).lo, (s8 1).hi, fun w_ => Kd.S (Kd.slice 5 (Kd.int .u8)) 22 w_ w.heap.size (fun k_ => (s8 1).lo ≤ k_ ∧ k_ < (s8 1).hi) (.slice (s8 1).A r3_0.length (s8 1).c) r10_1⟩⟩] false 4 rfl rfl (by kernel_rfl) rfl ((mf1 mf0)) ?aF ?nw HS14.out ?hs ?_
  rotate_left 2
  case aF => intro s; simp only [putE, EvT.val, Act.put, setIfInBounds_toArray, set_cons_zero, set_cons_succ]; rfl
  case nw => intro s; simp only [thA, bsA, List.nil_append, List.cons_append, List.append_nil, if_true, if_false, Nat.reduceLT, set_cons_zero, set_cons_succ]; rfl
  case hs => exact ⟨ld rfl 5 (fun s => rfl) (fun s w h => by have h0 := h 0 _ rfl; clear h; go_simp; try rfl), pu rfl, cw rfl 0 4 rfl rfl (fun s => #[.agg #[.slice (s8 1).A r3_0.length (s8 1).c], .int .i64 1]) Try.func38 (fun s w1 h => (laws_markMemory.calls (fun k_ => (s8 1).lo ≤ k_ ∧ k_ < (s8 1).hi) _ _ _ _ _ w _ h.hb (h.get 0 rfl) H10.out).mono (by rintro e w2 ⟨rfl, ho0, hb, hk⟩; exact ⟨rfl, Wrote.of 0 h rfl hb hk (fun w_ ha => S_again ho0 ha)⟩)), trivial⟩
  intro s15 w15 h; have HS15 := Aside0.mk h; clear h HS14
  refine tlP (v := .int .i64 r10_0) 12 rfl ?_
  refine tl0 ?_
  refine reg (aF := ?_) (nw := ?_) [evP 0 67 [] (fun s => .slice (s9 1).A r4_0.length (s9 1).c), evP 1 68 [] (fun s => .int .i64 r10_0), evW 2 (some 69) [] (fun s => .int .i64 r11_0)] [3] [⟨3, 2, [], fun s => ⟨(s9 1).lo, (s9 1).hi, fun w_ => Kd.R kimplLoan 30 w_ w.heap.size (fun k_ => (s9 1).lo ≤ k_ ∧ k_ < (s9 1).hi) (.slice (s9 1).A r4_0.length (s9 1).c) r11_1⟩⟩] false 4 rfl rfl (by kernel_rfl) rfl ((mf1 mf0)) ?aF ?nw HS15.out ?hs ?_
  rotate_left 2
  case aF => intro s; simp only [putE, EvT.val, Act.put, setIfInBounds_toArray, set_cons_zero, set_cons_succ]; rfl
  case nw => intro s; simp only [thA, bsA, List.nil_append, List.cons_append, List.append_nil, if_true, if_false, Nat.reduceLT, set_cons_zero, set_cons_succ]; rfl
  case hs => exact ⟨pu rfl, pu rfl, cw rfl 0 3 rfl rfl (fun s => #[.slice (s9 1).A r4_0.length (s9 1).c, .int .i64 r10_0]) Try.func39 (fun s w1 h => (laws_markLoanS.calls (fun k_ => (s9 1).lo ≤ k_ ∧ k_ < (s9 1).hi) _ _ _ _ _ w _ h.hb (h.get 0 rfl) H11.out).mono (by rintro e w2 ⟨rfl, ho0, hb, hk⟩; exact ⟨rfl, Wrote.of 0 h rfl hb hk (fun w_ ha => R_again ho0 ha)⟩)), trivial⟩
  intro s16 w16 h; have HS16 := Aside0.mk h; clear h HS15
  refine tlP (v := .int .i64 r11_0) 12 rfl ?_
  refine tl0 ?_
  refine wp_seq ?_
  refine reg0 (aF := ?_) [evP 0 70 [] (fun s => .int .i64 r11_0), evP 1 71 [] (fun s => .bool false), evP 2 72 [] (fun s => .bool false), evP 3 73 [] (fun s => .slice (s10 2).A r5_0.length (s10 2).c), evP 4 74 [] (fun s => .slice (s7 4).A r5_0.length (s7 4).c), evC 5 (some 75) [] (fun s x => .bool true) (fun s x => []), evP 6 76 [] (fun s => .bool false), evP 7 77 [] (fun s => .bool false), evP 8 78 [] (fun s => .bool false), evP 9 79 [] (fun s => .bool r5_1), evP 10 80 [] (fun s => .bool r5_1), evP 11 81 [] (fun s => .bool false), evP 12 82 [] (fun s => .bool false)] [] false 13 rfl rfl (by kernel_rfl) rfl (fun _ => rfl) ?aF HS16.out ?hs ?_
  rotate_left 1
  case aF => intro s; simp only [putE, EvT.val, Act.put, setIfInBounds_toArray, set_cons_zero, set_cons_succ]; rfl
  case hs => exact ⟨pu rfl, pb (q := .lss) Nb_r11_0 rfl, pu rfl, pu rfl, pu rfl, cl rfl (fun s => #[.slice (s10 2).A r5_0.length (s10 2).c, .slice (s7 4).A r5_0.length (s7 4).c]) Try.func53 (fun s w1 h => (laws_eqIntA2S.calls _ _ _ _ _ _ _ _ _ (Kd.R_reads' (h.get 2 rfl)).2.2 (Kd.R_reads' (h.get 2 rfl)).2.1 (Kd.R_reads' (h.get 8 rfl)).2.2 (Kd.R_reads' (h.get 8 rfl)).2.1 H7.out).mono (by rintro e w2 ⟨rfl, hb⟩; exact fin0 hb)), pu rfl, pu rfl, pu rfl, pu rfl, pu rfl, pn Try.underlying4 rfl, pu rfl, trivial⟩
  intro s17 w17 h; have HS17 := Aside0.mk h; clear h HS16
  refine tl0 ?_
  refine wp_cond_false rfl ?_
  refine wp_skip ?_
  refine thN ?_
  refine reg0 (aF := ?_) [] [0] false 1 rfl rfl (by kernel_rfl) rfl (fun _ => rfl) ?aF HS17.out ?hs ?_
  rotate_left 1
  case aF => intro s; simp only [putE, EvT.val, Act.put, setIfInBounds_toArray, set_cons_zero, set_cons_succ]; rfl
  case hs => exact trivial
  intro s18 w18 h; have HS18 := Aside0.mk h; clear h HS17
  refine tlP (v := .int .i64 1) 13 rfl ?_
  refine tl0 ?_
  refine reg (aF := ?_) (nw := ?_) [evP 0 83 [] (fun s => .slice (s10 2).A r5_0.length (s10 2).c), evP 1 84 [] (fun s => .int .i64 1), evW 2 (some 85) [] (fun s => .int .i64 r12_0)] [3] [⟨2, 2, [], fun s => ⟨(s10 2).lo, (s10 2).hi, fun w_ => Kd.R kA2int 75 w_ w.heap.size (fun k_ => (s10 2).lo ≤ k_ ∧ k_ < (s10 2).hi) (.slice (s10 2).A r5_0.length (s10 2).c) r12_1⟩⟩] false 4 rfl rfl (by kernel_rfl) rfl ((mf1 mf0)) ?aF ?nw HS18.out ?hs ?_
  rotate_left 2
  case aF => intro s; simp only [putE, EvT.val, Act.put, setIfInBounds_toArray, set_cons_zero, set_cons_succ]; rfl
  case nw => intro s; simp only [thA, bsA, List.nil_append, List.cons_append, List.append_nil, if_true, if_false, Nat.reduceLT, set_cons_zero, set_cons_succ]; rfl
  case hs => exact ⟨pu rfl, pu rfl, cw rfl 0 2 rfl rfl (fun s => #[.slice (s10 2).A r5_0.length (s10 2).c, .int .i64 1]) Try.func54 (fun s w1 h => (laws_markIntA2S.calls (fun k_ => (s10 2).lo ≤ k_ ∧ k_ < (s10 2).hi) _ _ _ _ _ w _ h.hb (h.get 0 rfl) H12.out).mono (by rintro e w2 ⟨rfl, ho0, hb, hk⟩; exact ⟨rfl, Wrote.of 0 h rfl hb hk (fun w_ ha => R_again ho0 ha)⟩)), trivial⟩
  intro s19 w19 h; have HS19 := Aside0.mk h; clear h HS18
  refine tlP (v := .int .i64 r12_0) 13 rfl ?_
  refine tl0 ?_
  refine reg0 (aF := ?_) [] [0] false 1 rfl rfl (by kernel_rfl) rfl (fun _ => rfl) ?aF HS19.out ?hs ?_
  rotate_left 1
  case aF => intro s; simp only [putE, EvT.val, Act.put, setIfInBounds_toArray, set_cons_zero, set_cons_succ]; rfl
  case hs => exact trivial
  intro s20 w20 h; have HS20 := Aside0.mk h; clear h HS19
  refine tlP (v := .int .i64 1) 14 rfl ?_
  refine tl0 ?_
  refine reg0 (aF := ?_) [evP 0 86 [] (fun s => .slice (s10 2).A r5_0.length (s10 2).c), evP 1 87 [] (fun s => .int .i64 1), evC 2 (some 88) [] (fun s x => .int .i64 r12_0) (fun s x => [])] [3] false 4 rfl rfl (by kernel_rfl) rfl (fun _ => rfl) ?aF HS20.out ?hs ?_
  rotate_left 1
  case aF => intro s; simp only [putE, EvT.val, Act.put, setIfInBounds_toArray, set_cons_zero, set_cons_succ]; rfl
  case hs => exact ⟨pu rfl, pu rfl, cl rfl (fun s => #[.slice (s10 2).A r5_0.length (s10 2).c, .int .i64 1]) Try.func55 (fun s w1 h => by rw [show r5_0.length = r12_1.length from (Kd.R_reads' (h.get 2 rfl)).1]; exact (laws_heldIntA2S.calls _ _ _ _ _ _ ((Kd.R_reads' (h.get 2 rfl)).1 ▸ (Kd.R_reads' (h.get 2 rfl)).2.2) ((Kd.R_reads' (h.get 2 rfl)).1 ▸ (Kd.R_reads' (h.get 2 rfl)).2.1) H13.out).mono (by rintro e w2 ⟨rfl, hb⟩; exact fin0 hb)), trivial⟩
  intro s21 w21 h; have HS21 := Aside0.mk h; clear h HS20
  refine tlP (v := .int .i64 r12_0) 14 rfl ?_
  refine tl0 ?_
  refine wp_seq ?_
  refine reg0 (aF := ?_) [evP 0 89 [] (fun s => .int .i64 r12_0), evP 1 90 [] (fun s => .bool false)] [] false 2 rfl rfl (by kernel_rfl) rfl (fun _ => rfl) ?aF HS21.out ?hs ?_
  rotate_left 1
  case aF => intro s; simp only [putE, EvT.val, Act.put, setIfInBounds_toArray, set_cons_zero, set_cons_succ]; rfl
  case hs => exact ⟨pu rfl, pb (q := .lss) Nb_r12_0 rfl, trivial⟩
  intro s22 w22 h; have HS22 := Aside0.mk h; clear h HS21
  refine tl0 ?_
  refine wp_cond_false rfl ?_
  refine wp_skip ?_
  refine thN ?_
  refine wp_seq ?_
  refine reg0 (aF := ?_) [evP 0 91 [] (fun s => .int .i64 r12_0), evP 1 92 [] (fun s => .int .i64 r12_0), evP 2 93 [] (fun s => .bool false)] [] false 3 rfl rfl (by kernel_rfl) rfl (fun _ => rfl) ?aF HS22.out ?hs ?_
  rotate_left 1
  case aF => intro s; simp only [putE, EvT.val, Act.put, setIfInBounds_toArray, set_cons_zero, set_cons_succ]; rfl
  case hs => exact ⟨pu rfl, pu rfl, pb (q := .neq) (bne_self_eq_false _) rfl, trivial⟩
  intro s23 w23 h; have HS23 := Aside0.mk h; clear h HS22
  refine tl0 ?_
  refine wp_cond_false rfl ?_
  refine wp_skip ?_
  refine thN ?_
  refine reg (aF := ?_) (nw := ?_) [evL 0 95 [] (fun s => .agg #[.slice A0_0 l0_0.length c0_0]), evC 1 (some 96) [] (fun s x => .agg #[.slice x.A r3_0.length x.c]) (fun s x => [rowS (Kd.slice 5 (Kd.int .u8)) 22 w x.lo x.hi x.A x.c r3_0]), evP 2 97 [] (fun s => .slice A1_0 l1_0.length c1_0), evC 3 (some 98) [] (fun s x => .slice x.A r4_0.length x.c) (fun s x => [rowR kimplLoan 30 w x.lo x.hi x.A x.c r4_0]), evC 4 (some 99) [1, 3] (fun s x => .tuple #[.slice x.A r5_0.length x.c, .bool r5_1]) (fun s x => [rowR kA2int 75 w x.lo x.hi x.A x.c r5_0]), evP 5 94 [4] (fun s => .tuple #[.slice (s 4).A r5_0.length (s 4).c, .bool r5_1]), evP 6 100 [4] (fun s => .slice (s 4).A r5_0.length (s 4).c), evP 7 101 [] (fun s => .bool r5_1), evP 8 15 [4] (fun s => .slice (s 4).A r5_0.length (s 4).c)] [9] [] false 10 rfl rfl (by kernel_rfl) rfl (mf0) ?aF ?nw HS23.out ?hs ?_
  rotate_left 2
  case aF => intro s; simp only [putE, EvT.val, Act.put, setIfInBounds_toArray, set_cons_zero, set_cons_succ]; rfl
  case nw => intro s; simp only [thA, bsA, List.nil_append, List.cons_append, List.append_nil, if_true, if_false, Nat.reduceLT, set_cons_zero, set_cons_succ]; rfl
  case hs => exact ⟨ld rfl 9 (fun s => rfl) (fun s w h => by have h0 := h 0 _ rfl; clear h; go_simp; try rfl), cl rfl (fun s => #[.agg #[.slice A0_0 l0_0.length c0_0]]) Try.func27 (fun s w1 h => (laws_toMemory.calls _ _ _ _ _ (Kd.C_below HR0_0.out h.hb) HC0_0.out H3.out).mono (by rintro e w2 ⟨v0_, rfl, ho0, hb⟩; obtain ⟨x, rfl, hx⟩ := fin_S ho0 hb h.hb.size; exact ⟨x, rfl, hx⟩)), pu rfl, cl rfl (fun s => #[.slice A1_0 l1_0.length c1_0]) Try.func28 (fun s w1 h => (laws_toLoanS.calls _ _ _ _ _ _ (Kd.C_below HR1_0.out h.hb) HC1_0.out H4.out).mono (by rintro e w2 ⟨v0_, rfl, ho0, hb⟩; obtain ⟨x, rfl, hx⟩ := fin_R ho0 hb h.hb.size; exact ⟨x, rfl, hx⟩)), cl rfl (fun s => #[.agg #[.slice (s 1).A r3_0.length (s 1).c], .slice (s 3).A r4_0.length (s 3).c]) Try.func20 (fun s w1 h => (impl_ConflictsOf.calls _ _ _ _ _ _ _ _ _ _ (Kd.S_reads' (h.get 0 rfl)).2.2 (Kd.S_reads' (h.get 0 rfl)).2.1 (Kd.R_reads' (h.get 1 rfl)).2.2 (Kd.R_reads' (h.get 1 rfl)).2.1 H6.out).mono (by rintro e w2 ⟨v0_, rfl, ho0, hb⟩; obtain ⟨x, rfl, hx⟩ := fin_R ho0 hb h.hb.size; exact ⟨x, rfl, hx⟩)), pu rfl, pu rfl, pu rfl, pu rfl, trivial⟩
  intro s24 w24 h; have HS24 := Aside0.mk h; clear h HS23
  refine tlP (v := .bool r5_1) 16 rfl ?_
  refine tl0 ?_
  refine wp_seq ?_
  refine reg0 (aF := ?_) [evP 0 102 [] (fun s => .slice (s24 4).A r5_0.length (s24 4).c), evP 1 103 [] (fun s => .slice (s7 4).A r5_0.length (s7 4).c), evC 2 (some 104) [] (fun s x => .bool true) (fun s x => []), evP 3 105 [] (fun s => .bool false), evP 4 106 [] (fun s => .bool false), evP 5 107 [] (fun s => .bool r5_1), evP 6 108 [] (fun s => .bool r5_1), evP 7 109 [] (fun s => .bool false), evP 8 110 [] (fun s => .bool false)] [] false 9 rfl rfl (by kernel_rfl) rfl (fun _ => rfl) ?aF HS24.out ?hs ?_
  rotate_left 1
  case aF => intro s; simp only [putE, EvT.val, Act.put, setIfInBounds_toArray, set_cons_zero, set_cons_succ]; rfl
  case hs => exact ⟨pu rfl, pu rfl, cl rfl (fun s => #[.slice (s24 4).A r5_0.length (s24 4).c, .slice (s7 4).A r5_0.length (s7 4).c]) Try.func53 (fun s w1 h => (laws_eqIntA2S.calls _ _ _ _ _ _ _ _ _ (Kd.R_reads' (h.get 2 rfl)).2.2 (Kd.R_reads' (h.get 2 rfl)).2.1 (Kd.R_reads' (h.get 11 rfl)).2.2 (Kd.R_reads' (h.get 11 rfl)).2.1 H7.out).mono (by rintro e w2 ⟨rfl, hb⟩; exact fin0 hb)), pu rfl, pu rfl, pu rfl, pu rfl, pn Try.underlying4 rfl, pu rfl, trivial⟩
  intro s25 w25 h; have HS25 := Aside0.mk h; clear h HS24
  refine tl0 ?_
  refine wp_cond_false rfl ?_
  refine wp_skip ?_
  refine thN ?_
  refine reg0 (aF := ?_) [] [0] false 1 rfl rfl (by kernel_rfl) rfl (fun _ => rfl) ?aF HS25.out ?hs ?_
  rotate_left 1
  case aF => intro s; simp only [putE, EvT.val, Act.put, setIfInBounds_toArray, set_cons_zero, set_cons_succ]; rfl
  case hs => exact trivial
  intro s26 w26 h; have HS26 := Aside0.mk h; clear h HS25
  refine tlP (v := .int .i64 1) 14 rfl ?_
  refine tl0 ?_
  refine reg0 (aF := ?_) [evP 0 111 [] (fun s => .slice (s10 2).A r5_0.length (s10 2).c), evP 1 112 [] (fun s => .int .i64 1), evC 2 (some 113) [] (fun s x => .int .i64 r12_0) (fun s x => [])] [3] false 4 rfl rfl (by kernel_rfl) rfl (fun _ => rfl) ?aF HS26.out ?hs ?_
  rotate_left 1
  case aF => intro s; simp only [putE, EvT.val, Act.put, setIfInBounds_toArray, set_cons_zero, set_cons_succ]; rfl
  case hs => exact ⟨pu rfl, pu rfl, cl rfl (fun s => #[.slice (s10 2).A r5_0.length (s10 2).c, .int .i64 1]) Try.func55 (fun s w1 h => by rw [show r5_0.length = r12_1.length from (Kd.R_reads' (h.get 5 rfl)).1]; exact (laws_heldIntA2S.calls _ _ _ _ _ _ ((Kd.R_reads' (h.get 5 rfl)).1 ▸ (Kd.R_reads' (h.get 5 rfl)).2.2) ((Kd.R_reads' (h.get 5 rfl)).1 ▸ (Kd.R_reads' (h.get 5 rfl)).2.1) H13.out).mono (by rintro e w2 ⟨rfl, hb⟩; exact fin0 hb)), trivial⟩
  intro s27 w27 h; have HS27 := Aside0.mk h; clear h HS26
  refine tlP (v := .int .i64 r12_0) 14 rfl ?_
  refine tl0 ?_
  refine wp_seq ?_
  refine reg0 (aF := ?_) [evP 0 114 [] (fun s => .int .i64 r12_0), evP 1 115 [] (fun s => .bool false)] [] false 2 rfl rfl (by kernel_rfl) rfl (fun _ => rfl) ?aF HS27.out ?hs ?_
  rotate_left 1
  case aF => intro s; simp only [putE, EvT.val, Act.put, setIfInBounds_toArray, set_cons_zero, set_cons_succ]; rfl
  case hs => exact ⟨pu rfl, pb (q := .lss) Nb_r12_0 rfl, trivial⟩
  intro s28 w28 h; have HS28 := Aside0.mk h; clear h HS27
  refine tl0 ?_
  refine wp_cond_false rfl ?_
  refine wp_skip ?_
  refine thN ?_
  refine wp_seq ?_
  refine reg0 (aF := ?_) [evP 0 116 [] (fun s => .int .i64 r12_0), evP 1 117 [] (fun s => .int .i64 r12_0), evP 2 118 [] (fun s => .bool false)] [] false 3 rfl rfl (by kernel_rfl) rfl (fun _ => rfl) ?aF HS28.out ?hs ?_
  rotate_left 1
  case aF => intro s; simp only [putE, EvT.val, Act.put, setIfInBounds_toArray, set_cons_zero, set_cons_succ]; rfl
  case hs => exact ⟨pu rfl, pu rfl, pb (q := .neq) (bne_self_eq_false _) rfl, trivial⟩
  intro s29 w29 h; have HS29 := Aside0.mk h; clear h HS28
  refine tl0 ?_
  refine wp_cond_false rfl ?_
  refine wp_skip ?_
  refine thN ?_
  refine reg0 (aF := ?_) [] [0] false 1 rfl rfl (by kernel_rfl) rfl (fun _ => rfl) ?aF HS29.out ?hs ?_
  rotate_left 1
  case aF => intro s; simp only [putE, EvT.val, Act.put, setIfInBounds_toArray, set_cons_zero, set_cons_succ]; rfl
  case hs => exact trivial
  intro s30 w30 h; have HS30 := Aside0.mk h; clear h HS29
  refine tlP (v := .bool true) 4 rfl ?_
  refine tl0 ?_
  refine wp_ret ?_
  go_ret
  exact ⟨by first | rfl | simp, HS30.out.hb⟩
end Go.Proofs.Ytpbboooeahmgpaa.P


/- The law FnExactConflictsOf. -/
namespace Go.Proofs.Ytpbboooeahmgpaa.P
open Go.RowKit Go.Proofs.YtpbboooeahmgpaaW.PrintWords Go.Proofs.YtpbboooeahmgpaaW.Mine
set_option linter.unusedVariables false
theorem FnExactConflictsOf_walk (w : World) (cs0 : Array Value) (a0 : (List (List Int))) (hK0 : (Kd.slice 22 (Kd.slice 5 (Kd.int .u8))).K w a0 cs0.toList) (ok0 : (∀ y1 ∈ a0, (∀ y2 ∈ y1, (Lit.int .u8 y2).wf = true))) (A1 : Option Addr) (len1 cap1 : Nat) (a1 : (List SlawsLoan)) (hK1 : (Kd.slice 53 klawsLoan).K w a1 [.slice A1 len1 cap1]) (ok1 : (∀ y1 ∈ a1, (((Lit.int .i64 y1.f0.f0).wf = true ∧ (Lit.int .i64 y1.f0.f1).wf = true ∧ (Lit.int .i64 y1.f0.f2).wf = true ∧ (Lit.int .i64 y1.f0.f3).wf = true) ∧ True ∧ (Lit.int .i64 y1.f2).wf = true ∧ (Lit.int .i64 y1.f3).wf = true))) :
    Calls Try.prog 10 #[.agg cs0, .slice A1 len1 cap1] w fun e w' => e = .returned (.bool true) ∧ Below w.heap.size w w' := by
  obtain ⟨A0, c0, hcs0, hc0, hr0⟩ := hK0
  obtain rfl := agg_of hcs0
  obtain ⟨_, _, he1, hc1, hr1⟩ := hK1
  cases he1
  obtain ⟨r, hz, hh⟩ := szMemory_f a0 1048576 (by omega) (by omega) hr0.2.1 (C_inner_len hr0)
  rcases hh with ⟨hm, h5⟩ | rfl
  · have hz2 := szLoanS_f a1 r h5.1 (by omega) hr1.2.1
    by_cases hc2 : (a1.length : Int) ≤ r
    · rw [if_pos hc2] at hz2
      have hl1 : a1.length ≤ 1048576 := by omega
      have hwf : ∀ x ∈ a1.map loanOf, wfL x := by intro x hx; obtain ⟨y, hy, rfl⟩ := List.mem_map.1 hx; exact wf_i64 (ok1 y hy).1.2.1
      have h7 := confsOf_len a0 (a1.map loanOf)
      have hl2 : (a1.map loanOf).length ≤ 1048576 := by rw [List.length_map]; exact hl1
      have hs1 := hm.2.2
      exact FnExactConflictsOf_run A0 c0 a0 _ _ a1 _ _ _ _ _ _ _ _ _ _ _ _ w hr0 hc0 hr1 hc1 hz.rounds hz2 (toMemory_f a0 hm) (toLoanS_f a1 hl1).rounds (specConfs_f a0 (a1.map loanOf) hm hl2 hwf).rounds (implConfs_f a0 (a1.map loanOf)).rounds (eqIntA2S_f (confsOf a0 (a1.map loanOf)).1 (by omega)).rounds (eqM _ hm).rounds (eqLoanS_f _ (by omega)).rounds (markM _ hm) (markLq _ _ (by omega) (by omega)) (markA2s (confsOf a0 (a1.map loanOf)).1 1 (by omega) (by omega)) (heldIntA2S_f (confsOf a0 (a1.map loanOf)).1.length 1 (by omega) (by omega)) (by omega) (by omega) (by omega) (by omega)
    · rw [if_neg hc2] at hz2
      exact FnExactConflictsOf_run1 A0 c0 a0 _ _ a1 _ _ w hr0 hc0 hr1 hc1 hz.rounds hz2 (by omega) (by omega)
  · exact FnExactConflictsOf_run0 A0 c0 a0 _ _ a1 _ w hr0 hc0 hr1 hc1 hz.rounds (by omega)
end Go.Proofs.Ytpbboooeahmgpaa.P


namespace Go.Proofs.Ytpbboooeahmgpaa.fnExactConflictsOf
open Go.ChangeShapes Go.WideShapes Go.ChangeAt Go.RowKit Go.Proofs.YtpbboooeahmgpaaW.PrintWords Go.Proofs.YtpbboooeahmgpaaW.Mine Go.Proofs.Ytpbboooeahmgpaa.P
open Go.ChangeMaps (open_string shut_string)
set_option linter.unusedVariables false
theorem own : ownKnob Try.prog.godebug = none := by kernel_rfl
theorem laidOut : laidOutB Try.prog = true := by kernel_rfl
set_option maxRecDepth 100000 in
theorem lifted (os : Os) (started : os.Started) (H : Type) (enc : TypeId × Value → H) :
    ReturnsInHanded {} Try.checked os 10 .any (Rows.fnExactConflictsOfSpec.pre6 enc Try.prog Try.f10 Rows.fnExactConflictsOfRow.domain false) (Rows.fnExactConflictsOfSpec.post enc Try.prog Try.f10 false true false false) := by
  refine returnsInHanded_of_change_sized (C := Try.checked) own started (by kernel_rfl) Try.func10
    (ChangeSpec.witness6 (enc := enc) (C := Try.checked) false ⟨#[], #[.agg #[.slice none 0 0], .slice none 0 0], []⟩ 8 (by kernel_rfl) (by kernel_rfl) (by kernel_rfl) (by kernel_rfl)) ?_
  intro W base args ds gs before hval0 hW hcnd hsz0 _
  have hval : ∀ (j : Nat) t v, Try.f10.params[j]? = some t → args[j]? = some v → Value.okWide Try.prog W .any base t v := hval0
  have hW' := hW
  obtain ⟨p, q, hA0, hV, rfl, hfz, hnd⟩ := hW
  have hA : DataW.TrodAll enc Try.prog W 0 (fun _ => true) true Try.f10.params.toList args.toList ds p := hA0
  rw [Try.params10] at hA hval
  obtain ⟨v0, vs0, d0, ds0, p0, q0, hargs, rfl, rfl, h0, r0⟩ := trodAll_cons hA
  obtain ⟨v1, vs1, d1, ds1, p1, q1, rfl, rfl, rfl, h1, r1⟩ := trodAll_cons r0
  obtain ⟨rfl, rfl, rfl⟩ := trodAll_nil r1
  obtain rfl : args = #[v0, v1] := by cases args; simp_all
  obtain ⟨rfl, rfl⟩ := trodVars_none hV
  have k0 := h0
  have lt0 : ∀ x ∈ p0, x.block < W.heap.size := by obtain ⟨m, hm⟩ := k0; exact DataW.trod_lt m _ _ _ hm
  obtain ⟨cs0, rfl, _⟩ := okWide_struct Try.underlying49 (hval 0 49 v0 rfl rfl)
  obtain ⟨a0, hK0, ok0⟩ : ∃ a : (List (List Int)), (Kd.slice 22 (Kd.slice 5 (Kd.int .u8))).K W a cs0.toList ∧ (∀ y1 ∈ a, (∀ y2 ∈ y1, (Lit.int .u8 y2).wf = true)) := by obtain ⟨fuel, hf⟩ := h0; exact (ReadsK.struct Try.underlying49 (by kernel_rfl) (ReadsF.last rfl (ReadsK.slice Try.underlying24 (by kernel_rfl) (ReadsK.slice Try.underlying22 (by kernel_rfl) (ReadsK.int Try.underlying5))) (by kernel_rfl))) hf
  have k1 := h1
  have lt1 : ∀ x ∈ p1, x.block < W.heap.size := by obtain ⟨m, hm⟩ := k1; exact DataW.trod_lt m _ _ _ hm
  obtain ⟨A1, len1, cap1, rfl⟩ := okWide_slice Try.underlying50 (hval 1 50 v1 rfl rfl)
  obtain ⟨a1, hK1, ok1⟩ : ∃ a : (List SlawsLoan), (Kd.slice 53 klawsLoan).K W a [.slice A1 len1 cap1] ∧ (∀ y1 ∈ a, (((Lit.int .i64 y1.f0.f0).wf = true ∧ (Lit.int .i64 y1.f0.f1).wf = true ∧ (Lit.int .i64 y1.f0.f2).wf = true ∧ (Lit.int .i64 y1.f0.f3).wf = true) ∧ True ∧ (Lit.int .i64 y1.f2).wf = true ∧ (Lit.int .i64 y1.f3).wf = true)) := by obtain ⟨fuel, hf⟩ := h1; exact (ReadsK.slice Try.underlying50 (by kernel_rfl) (ReadsK.iso (ReadsK.struct Try.underlying53 (by kernel_rfl) (ReadsF.cons rfl (ReadsK.iso (ReadsK.struct Try.underlying51 (by kernel_rfl) (ReadsF.cons rfl (ReadsK.int Try.underlying3) (by kernel_rfl) (ReadsF.cons rfl (ReadsK.int Try.underlying3) (by kernel_rfl) (ReadsF.cons rfl (ReadsK.int Try.underlying3) (by kernel_rfl) (ReadsF.last rfl (ReadsK.int Try.underlying3) (by kernel_rfl)))))) (fun x : SlawsWindow => (x.f0, x.f1, x.f2, x.f3)) (fun a => (⟨a.1, a.2.1, a.2.2.1, a.2.2.2⟩ : SlawsWindow)) (fun _ => rfl)) (by kernel_rfl) (ReadsF.cons rfl (ReadsK.bool Try.underlying4) (by kernel_rfl) (ReadsF.cons rfl (ReadsK.int Try.underlying3) (by kernel_rfl) (ReadsF.last rfl (ReadsK.int Try.underlying3) (by kernel_rfl)))))) (fun x : SlawsLoan => (x.f0, x.f1, x.f2, x.f3)) (fun a => (⟨a.1, a.2.1, a.2.2.1, a.2.2.2⟩ : SlawsLoan)) (fun _ => rfl))) hf
  clear hA0 hval0 hsz0
  refine (FnExactConflictsOf_walk W cs0 a0 hK0 ok0 A1 len1 cap1 a1 hK1 ok1).mono fun e W' ⟨he, bel⟩ => ?_
  subst he
  exact ⟨_, rfl, _, _, _, [], _, [], hW', trodAll_mk1 (shut_bool Try.underlying4 _), (trodAll_cons_mk (Below.trod laidOut (by kernel_rfl) (of_decide_eq_true (by kernel_rfl)) k0 bel lt0) (trodAll_cons_mk (Below.trod laidOut (by kernel_rfl) (of_decide_eq_true (by kernel_rfl)) k1 bel lt1) trodAll_mk0)), rfl, bel.frame _, fun h => by cases h⟩
theorem over : Rows.fnExactConflictsOfRow.holds Try.pinned (OpenSpec.ofChange Rows.fnExactConflictsOfSpec) :=
  OpenClaim.holds_of_wide 10 Try.f10 rfl rfl rfl rfl rfl rfl rfl ⟨rfl, rfl, rfl, rfl, rfl⟩ rfl rfl rfl rfl rfl (by kernel_rfl) Try.func10 (by kernel_rfl)
    (of_decide_eq_true (by kernel_rfl)) (by unfold Func.isWrapper; first | (rw [if_pos (by decide +kernel)]; kernel_rfl) | (rw [if_neg (by decide +kernel)]; exact ⟨rfl, rfl⟩))
    (fun os started H enc _ => lifted os started H enc)
theorem proved : Rows.FnExactConflictsOfSaid := over
end Go.Proofs.Ytpbboooeahmgpaa.fnExactConflictsOf
namespace Go.Proofs.Ytpbboooeahmgpaa
theorem fnExactConflictsOf_holds : Rows.FnExactConflictsOfSaid := fnExactConflictsOf.proved
#print axioms fnExactConflictsOf_holds
end Go.Proofs.Ytpbboooeahmgpaa


