/- For all arguments, impl.HeldAt answers what spec.HeldAt answers, leaves its arguments alone, and shares nothing of what it returns.
   The row of the law FnExactHeldAt, out of its walk. Conditions: none. -/
import Derived.Test.YtpbboooeahmgpaaQFnExactHeldAt2
import Derived.Test.YtpbboooeahmgpaaRows
import Derived.WalkKit
import Derived.ProofKit
import Derived.OpenShut
import Derived.ShutString
import Derived.ChangeOld
import Derived.Below
import Derived.SizedLaws
import Derived.Test.YtpbboooeahmgpaaWApart
import Derived.Test.YtpbboooeahmgpaaWFoot
import Derived.Test.YtpbboooeahmgpaaWGuard
import Derived.Test.YtpbboooeahmgpaaWKept
import Derived.Test.YtpbboooeahmgpaaWLast
import Derived.Test.YtpbboooeahmgpaaWMore
import Derived.Test.YtpbboooeahmgpaaWN
import Derived.Test.YtpbboooeahmgpaaWRepsOne
import Derived.Test.YtpbboooeahmgpaaWShare
import Derived.Test.YtpbboooeahmgpaaWTab
import Derived.Test.YtpbboooeahmgpaaWWords
/- Rows of flat elements written in place: what a loop of marks does to the cells. -/
namespace Go.Proofs.YtpbboooeahmgpaaW.Mine
open Go.RowKit Go.Proofs.YtpbboooeahmgpaaW.PrintWords
set_option linter.unusedVariables false
set_option linter.unusedSimpArgs false
/-! ### operations one behind the other, a block written -/
section
variable {P : Program} {ops : Array Oper} {Q : Exit → Act → World → Prop} {w w2 : World} {a : Act} {r : List Nat} {i g : Nat} {o : Oper}
theorem mRun (ho : ops.toList[i]? = some o) (hw : Region.wanted o (yielded ops a.tmps) = true) (h : Oper.wp P o a w (wpOps P ops Q r) Q) : wpOps P ops Q (i :: r) a w := by
  rw [Array.getElem?_toList] at ho
  rw [wpOps_cons]
  unfold wpOp
  rw [ho]
  simp only
  rw [if_pos hw]
  exact .inl h
theorem mSkip (ho : ops.toList[i]? = some o) (hr : (execOp a.eval o).run P w = .ok .skip w2) (h : wpOps P ops Q r a w2) (hd : o.dst = none := by rfl) (hw : Region.wanted o (yielded ops a.tmps) = true := by rfl) : wpOps P ops Q (i :: r) a w := by
  refine mRun ho hw ?_
  unfold Oper.wp
  rw [hr]
  show wpOps P ops Q r (a.put o.dst undef) _
  rw [hd]
  exact h
theorem mReg {id n : Nat} (l : List Nat) (hn : ops.size = n) (hl : List.range n = l) (h : wpOps P ops Q l a w) : (Code.region id ops false).wp P Q a w := by
  subst hl hn
  exact wp_region h
theorem mSet {cs : Array Value} {j : Nat} {u : Value} : (w.setRow g cs).setCell ⟨g, j, none⟩ u = w.setRow g (cs.setIfInBounds j u) := by
  unfold World.setRow World.setCell
  congr 1
  apply Array.ext_getElem?
  intro k
  simp only [Array.getElem?_modify]
  by_cases e : g = k
  · subst e
    simp only [if_true]
    cases h : w.heap[g]? with
    | none => rfl
    | some x => cases x <;> rfl
  · simp only [if_neg e]
theorem mCell {c0 cs : Array Value} {t j : Nat} (h : w.heap[g]? = some (.cells c0 t (0, 0))) (hj : j < cs.size) : (w.setRow g cs).cell? ⟨g, j, none⟩ = some (cs.getD j undef) := by
  rw [blk_cell (setRow_heap w g c0 cs t _ h) j]
  simp [hj]
theorem mFrozen {c0 cs : Array Value} {t : Nat} (h : w.heap[g]? = some (.cells c0 t (0, 0))) (j : Nat) : (w.setRow g cs).frozen? ⟨g, j, none⟩ = false := blk_frozen (setRow_heap w g c0 cs t _ h) j
end
/-! ### lists of cells -/
theorem setAll_toList : ∀ (us : List Value) (off : Nat) (cs : Array Value), off + us.length ≤ cs.size → (setAll cs off us).toList = cs.toList.take off ++ (us ++ cs.toList.drop (off + us.length))
  | [], off, cs, h => by simp [setAll]
  | u :: r, off, cs, h => by
    simp only [List.length_cons] at h
    have hl : off < cs.toList.length := by simp; omega
    show (setAll (cs.setIfInBounds off u) (off + 1) r).toList = _
    rw [setAll_toList r (off + 1) _ (by simp; omega), Array.toList_setIfInBounds, List.drop_set_of_lt (by omega), List.take_succ_eq_append_getElem (by simpa using hl), List.take_set_of_le (Nat.le_refl _), List.getElem_set_self]
    simp [show off + 1 + r.length = off + (r.length + 1) by omega]
section
variable {α : Type} {cells : α → List Value} {q : Nat}
theorem flat_length (hlen : ∀ x, (cells x).length = q) (l : List α) : (l.flatMap cells).length = l.length * q := by
  induction l with
  | nil => simp
  | cons x l ih => rw [List.flatMap_cons, List.length_append, ih, hlen, List.length_cons, Nat.add_mul, Nat.one_mul, Nat.add_comm]
theorem flat_step (hlen : ∀ x, (cells x).length = q) (L : List Value) (M D : List α) (x y : α) (n : Nat) (hn : n = M.length + 1 + D.length) (h : L.take (n * q) = (M ++ x :: D).flatMap cells) :
    (L.take (M.length * q) ++ (cells y ++ L.drop (M.length * q + q))).take (n * q) = (M ++ y :: D).flatMap cells := by
  have e1 : n * q = M.length * q + (q + D.length * q) := by rw [hn, Nat.add_mul, Nat.add_mul, Nat.one_mul, Nat.add_assoc]
  have hM := flat_length hlen M
  have hD := flat_length hlen D
  have h1 : L.take (M.length * q) = M.flatMap cells := by
    have := congrArg (List.take (M.length * q)) h
    rw [List.take_take, Nat.min_eq_left (by omega), List.flatMap_append, List.take_left' hM] at this
    exact this
  have h2 : (L.drop (M.length * q + q)).take (D.length * q) = D.flatMap cells := by
    have := congrArg (List.drop (M.length * q + q)) h
    rw [List.drop_take, show n * q - (M.length * q + q) = D.length * q by omega, List.flatMap_append, List.flatMap_cons] at this
    rw [this, ← List.drop_drop, List.drop_left' hM, List.drop_left' (hlen x)]
  rw [h1, e1, List.flatMap_append, List.flatMap_cons]
  have e2 : (M.flatMap cells).length + ((cells y).length + D.length * q) = M.length * q + (q + D.length * q) := by rw [hM, hlen]
  rw [← e2, List.take_length_add_append, List.take_length_add_append, h2]
/-- What marks from a on make of n elements. -/
def marksG (mk : Int → α) (q : Nat) : Int → Nat → List α
  | _, 0 => []
  | a, n + 1 => mk a :: marksG mk q (a + q) n
theorem marksG_length (mk : Int → α) : ∀ (n : Nat) (a : Int), (marksG mk q a n).length = n
  | 0, _ => rfl
  | n + 1, a => by simp [marksG, marksG_length mk n]
theorem marksG_snoc (mk : Int → α) : ∀ (n : Nat) (a : Int), marksG mk q a (n + 1) = marksG mk q a n ++ [mk (a + q * n)]
  | 0, a => by simp [marksG]
  | n + 1, a => by
    rw [marksG, marksG_snoc mk n (a + q), marksG, List.cons_append]
    rw [show a + (q : Int) + (q : Int) * (n : Int) = a + (q : Int) * ((n + 1 : Nat) : Int) by push_cast; rw [Int.mul_add, Int.mul_one]; omega]
/-- One round. -/
theorem marks_round (hlen : ∀ x, (cells x).length = q) (mk : Int → α) (a : Int) (l : List α) (i : Nat) (hi : i < l.length) {c c' : Array Value} (h : c.toList.take (l.length * q) = (marksG mk q a i ++ l.drop i).flatMap cells) (hs : l.length * q ≤ c.size) (hc : c' = setAll c (i * q) (cells (mk (a + q * i)))) :
    c'.toList.take (l.length * q) = (marksG mk q a (i + 1) ++ l.drop (i + 1)).flatMap cells := by
  have hb : i * q + q ≤ l.length * q := by
    have := Nat.mul_le_mul_right q hi
    rw [Nat.succ_mul] at this
    exact this
  subst hc
  rw [setAll_toList _ _ _ (by rw [hlen]; omega), hlen, marksG_snoc, List.append_assoc, List.singleton_append]
  rw [List.drop_eq_getElem_cons hi] at h
  have := flat_step hlen c.toList (marksG mk q a i) (l.drop (i + 1)) l[i] (mk (a + q * i)) l.length (by rw [marksG_length, List.length_drop]; omega) h
  rw [marksG_length] at this
  exact this
/-! ### a row as its cells -/
variable {d : Kd α}
/-- An element is its cells. -/
structure FlatK (d : Kd α) (cells : α → List Value) (q : Nat) : Prop where
  sz : d.sz = q
  len : ∀ x, (cells x).length = q
  opn : ∀ {w : World} {x : α} {cs : List Value}, d.K w x cs → cs = cells x
  mak : ∀ (w : World) (base : Nat) (ok : Nat → Prop) (x : α), d.M w base ok x (cells x)
theorem reps_flat (hlen : ∀ x, (cells x).length = q) : ∀ (l : List α) (cs : List Value), Reps (fun (x : α) c => c = cells x) q l cs → cs = l.flatMap cells
  | [], cs, h => List.eq_nil_of_length_eq_zero (by have := h.1; simpa using this)
  | x :: l, cs, h => by
    have h0 : cs.take q = cells x := by
      have := h.2 0 x rfl
      simpa using this
    have h1 := reps_flat hlen l (cs.drop q) ⟨by rw [List.length_drop, h.1, List.length_cons, Nat.add_mul, Nat.one_mul, Nat.add_sub_cancel], fun j p hp => by
      have := h.2 (j + 1) p (by simpa using hp)
      rw [List.drop_drop, show q + j * q = (j + 1) * q by rw [Nat.add_mul, Nat.one_mul, Nat.add_comm]]
      exact this⟩
    rw [List.flatMap_cons, ← h0, ← h1, List.take_append_drop]
theorem flat_reps (hlen : ∀ x, (cells x).length = q) : ∀ (l : List α), Reps (fun (x : α) c => c = cells x) q l (l.flatMap cells)
  | [] => ⟨by simp, fun j p h => by cases h⟩
  | x :: l => by
    refine ⟨flat_length hlen _, fun j p hp => ?_⟩
    cases j with
    | zero =>
      cases hp
      rw [List.flatMap_cons, Nat.zero_mul, List.drop_zero, List.take_left' (hlen _)]
    | succ j =>
      have := (flat_reps hlen l).2 j p (by simpa using hp)
      rw [List.flatMap_cons, show (j + 1) * q = q + j * q by rw [Nat.add_mul, Nat.one_mul, Nat.add_comm], ← List.drop_drop, List.drop_left' (hlen _)]
      exact this
variable {w w1 : World} {e base : Nat} {ok : Nat → Prop} {v : Value} {l : List α}
theorem cells_of_R (F : FlatK d cells q) (h : Kd.R d e w base ok v l) : w.ownsRow base e q v l.length (l.flatMap cells) := by
  obtain ⟨_, inner, ho, hr⟩ := h
  rw [F.sz] at ho hr
  have : inner = l.flatMap cells := reps_flat F.len l inner ⟨hr.1, fun j p hp => F.opn (d.K_of_M (hr.2 j p hp))⟩
  rw [← this]
  exact ho
theorem R_of_cells (F : FlatK d cells q) (ho : w.ownsRow base e q v l.length (l.flatMap cells)) (hok : ∀ k, v.ownBlock = some k → ok k) : Kd.R d e w base ok v l := by
  refine ⟨hok, l.flatMap cells, by rw [F.sz]; exact ho, ?_⟩
  rw [F.sz]
  exact ⟨(flat_reps F.len l).1, fun j p hp => by rw [(flat_reps F.len l).2 j p hp]; exact F.mak _ _ _ _⟩
/-- A row that is not empty: its block, and what a world says of it when this block alone has been written. -/
theorem R_blk (F : FlatK d cells q) (h : Kd.R d e w base ok v l) (hl : 0 < l.length) :
    ∃ g cap cur, v = .slice (some ⟨g, 0, none⟩) l.length cap ∧ ok g ∧ w.heap[g]? = some (.cells cur e (0, 0)) ∧ l.length * q ≤ cur.size ∧ cur.toList.take (l.length * q) = l.flatMap cells ∧ base ≤ g ∧
      ∀ (w1 : World) (cur' : Array Value) (l' : List α), w1.heap[g]? = some (.cells cur' e (0, 0)) → cur'.size = cur.size → l'.length = l.length → cur'.toList.take (l.length * q) = l'.flatMap cells → Kd.R d e w1 base ok v l' := by
  have ho := cells_of_R F h
  rcases ho.2 with ⟨_, h0⟩ | ⟨g, cap, cur, rfl, hb, hh, hle, hmax, hsz, htk⟩
  · omega
  · refine ⟨g, cap, cur, rfl, h.1 g rfl, hh, by rw [hsz]; exact Nat.mul_le_mul_right _ hle, htk, hb, ?_⟩
    intro w1 cur' l' hh' hs hl' ht
    refine R_of_cells F ⟨by rw [flat_length F.len], .inr ⟨g, cap, cur', by rw [hl'], hb, hh', by rw [hl']; exact hle, hmax, by rw [hs, hsz], by rw [hl', ht]⟩⟩ (fun k hk => h.1 k hk)
/-- The marks of a row, out of the loop's walk. -/
theorem marks_fin (F : FlatK d cells q) {w0 w' : World} {P_ : Nat → Prop} {mk : Int → α} {a : Int} (hB : Below w0.heap.size w0 w) (ho : Kd.R d e w w0.heap.size P_ v l) {g cap : Nat} {cur cur' : Array Value} (hv : v = .slice (some ⟨g, 0, none⟩) l.length cap) (hg : w.heap[g]? = some (.cells cur e (0, 0))) (hP : P_ g) (hge : w0.heap.size ≤ g)
    (hback : ∀ (w1 : World) (cur' : Array Value) (l' : List α), w1.heap[g]? = some (.cells cur' e (0, 0)) → cur'.size = cur.size → l'.length = l.length → cur'.toList.take (l.length * q) = l'.flatMap cells → Kd.R d e w1 w0.heap.size P_ v l')
    (hs : cur'.size = cur.size) (ht : cur'.toList.take (l.length * q) = (marksG mk q a l.length).flatMap cells) (hw : w' = w.setRow g cur') :
    Kd.R d e w' w0.heap.size P_ v (marksG mk q a l.length) ∧ Below w0.heap.size w0 w' ∧ Kept w w' P_ := by
  subst hw
  refine ⟨hback _ cur' _ (setRow_heap w g _ _ _ _ hg) hs (marksG_length _ _ _) ht, below_setRow hB hge _, ⟨by simp, fun k _ hn => setRow_other w g k cur' (fun e_ => hn (by rw [e_]; exact hP))⟩⟩
end
/-! ### rows of other types are other rows -/
section
variable {α : Type} {d : Kd α} {w w' : World} {e base : Nat} {ok ok2 : Nat → Prop} {es : List Nat} {v : Value} {xs : List α}
end
end Go.Proofs.YtpbboooeahmgpaaW.Mine


/- markIntS: a slice of flat elements written in place. -/
namespace Go.Proofs.Ytpbboooeahmgpaa.P
open Go.RowKit Go.Proofs.YtpbboooeahmgpaaW.PrintWords Go.Proofs.YtpbboooeahmgpaaW.PrintMore Go.Proofs.YtpbboooeahmgpaaW.Mine
open List (setIfInBounds_toArray set_cons_zero set_cons_succ)
set_option linter.unusedVariables false
set_option linter.unusedSimpArgs false
def cellsI (x : Int) : List Value := [.int .i64 x]
theorem flat_markIntS : FlatK (Kd.int .i64) cellsI 1 := ⟨rfl, fun _ => rfl, fun h => h, fun _ _ _ _ => rfl⟩
set_option maxHeartbeats 8000000 in
set_option maxRecDepth 100000 in
theorem laws_markIntS_loop (g c : Nat) (l : List Int) (a : Int) (cur : Array Value) (w : World) (hg : w.heap[g]? = some (.cells cur 3 (0, 0))) (ht : cur.toList.take (l.length * 1) = l.flatMap cellsI) (hsz : l.length * 1 ≤ cur.size) (ha : 0 ≤ a) (hb : a + 1 * l.length ≤ 4611686018427387904) :
    Calls Try.prog 40 #[.slice (some ⟨g, 0, none⟩) l.length c, .int .i64 a] w fun e w' => e = .returned (.int .i64 (a + 1 * l.length)) ∧ ∃ cur' : Array Value, cur'.size = cur.size ∧ cur'.toList.take (l.length * 1) = (marksG (fun k => k) 1 a l.length).flatMap cellsI ∧ w' = w.setRow g cur' := by
  have HG := Aside0.mk hg; have HT := Aside0.mk ht; clear hg ht
  go_enter Try.func40, Try.ntmps40
  go_wp2
  go_loopg [1, 5] (l.length + 1) (fun kq v1 v5 w' => ∃ (i : Nat) (ci : Array Value), v1 = .int .i64 (a + 1 * i) ∧ v5 = .int .i64 (i : Int) ∧ Aside0 (kq + i = l.length + 1 ∧ i ≤ l.length) ∧ Aside0 (ci.size = cur.size) ∧ Aside0 (ci.toList.take (l.length * 1) = (marksG (fun k => k) 1 a i ++ l.drop i).flatMap cellsI) ∧ Aside0 (w' = w.setRow g ci))
  case atStart => exact ⟨0, cur, by simp, rfl, ⟨rfl, Nat.zero_le _⟩, ⟨rfl⟩, ⟨by simpa [marksG] using HT.out⟩, ⟨(setRow_self w g cur _ _ HG.out).symm⟩⟩
  case round =>
    obtain ⟨i, ci, rfl, rfl, HK, HZ, HC, HW⟩ := hrel
    by_cases hi : i < l.length
    · obtain ⟨k1, rfl⟩ : ∃ q, gk = q + 1 := ⟨gk - 1, by have := HK.out; omega⟩
      have hi1 : decide ((i : Int) < (l.length : Int)) = true := decide_eq_true (by omega)
      have p5 := eq_true (show (0 : Int) ≤ (i : Int) by omega); have q5 := eq_true (show (i : Int) < (l.length : Int) by omega)
      obtain ⟨b, hbb⟩ : ∃ b : Int, b = a + 1 * i := ⟨_, rfl⟩
      have hb0 : 0 ≤ b ∧ b + 1 ≤ 4611686018427387904 := by omega
      rw [← hbb]; have HBB := Aside0.mk hbb; clear hbb
      obtain ⟨c0_, hc0_⟩ : ∃ x, x = ci := ⟨_, rfl⟩
      have hz0_ : c0_.size = cur.size := by rw [hc0_]; exact HZ.out
      rw [← hc0_] at HC; have HW2 := HW.out; subst HW2; rw [← hc0_]
      clear hc0_ HZ HW
      refine wp_seq ?_
      refine wp_seq ?_
      refine mReg [0, 1, 2, 3] rfl rfl ?_
      refine tlP (v := .int .i64 ((i : Int))) 6 rfl ?_
      simp only [Act.put, setIfInBounds_toArray, set_cons_zero, set_cons_succ]
      refine tlP (v := .slice (some ⟨g, 0, none⟩) l.length c) 7 rfl ?_
      simp only [Act.put, setIfInBounds_toArray, set_cons_zero, set_cons_succ]
      refine tlP (v := .int .i64 (l.length : Int)) 8 (hr := by go_simp; try rfl) rfl ?_
      simp only [Act.put, setIfInBounds_toArray, set_cons_zero, set_cons_succ]
      refine tlP (v := .bool true) 9 rfl ?_ (hr := by go_simp; try simp [hi])
      simp only [Act.put, setIfInBounds_toArray, set_cons_zero, set_cons_succ]
      refine tl0 ?_
      refine wp_cond_true rfl ?_
      refine wp_skip ?_
      refine thN ?_
      refine wp_seq ?_
      refine wp_block ?_
      refine wp_seq ?_
      refine mReg [0, 1, 2, 3, 4] rfl rfl ?_
      refine tlP (v := .slice (some ⟨g, 0, none⟩) l.length c) 12 rfl ?_
      simp only [Act.put, setIfInBounds_toArray, set_cons_zero, set_cons_succ]
      refine tlP (v := .int .i64 ((i : Int))) 13 rfl ?_
      simp only [Act.put, setIfInBounds_toArray, set_cons_zero, set_cons_succ]
      refine tlP (v := .int .i64 (b)) 14 rfl ?_
      simp only [Act.put, setIfInBounds_toArray, set_cons_zero, set_cons_succ]
      refine tlP (v := .pointer (some ⟨g, i, none⟩)) 15 (hr := by go_simp; try rfl) rfl ?_
      simp only [Act.put, setIfInBounds_toArray, set_cons_zero, set_cons_succ]
      have hc_ : (w.setRow g c0_).cell? ⟨g, i, none⟩ = some (c0_.getD (i) undef) := mCell HG.out (by simp only [hz0_]; omega)
      have hf_ : (w.setRow g c0_).frozen? ⟨g, i, none⟩ = false := mFrozen HG.out _
      refine mSkip (w2 := w.setRow g (c0_.setIfInBounds (i) (.int .i64 (b)))) rfl (by rw [← mSet]; go_simp; try rfl) ?_
      clear hc_ hf_
      obtain ⟨c1_, hc1_⟩ : ∃ x, x = c0_.setIfInBounds (i) (.int .i64 (b)) := ⟨_, rfl⟩
      have hz1_ : c1_.size = cur.size := by rw [hc1_, Array.size_setIfInBounds, hz0_]
      rw [← hc1_]; have HC1_ := Aside0.mk hc1_; clear hc1_
      refine tl0 ?_
      refine mReg [0, 1, 2] rfl rfl ?_
      refine tlP (v := .int .i64 (b)) 16 rfl ?_
      simp only [Act.put, setIfInBounds_toArray, set_cons_zero, set_cons_succ]
      refine tlP (v := .int .i64 (b + 1)) 17 rfl ?_ (hr := run_arith (q := .add) (k := .i64) (m := b) (n := 1) (r := b + 1) rfl rfl rfl (.inl ⟨rfl, by rw [show (b : Int) + 1 = b + 1 by omega]; exact i64_ok (n := b + 1) (by omega) (by omega)⟩))
      simp only [Act.put, setIfInBounds_toArray, set_cons_zero, set_cons_succ]
      refine tlP (v := .int .i64 (b + 1)) 1 rfl ?_
      simp only [Act.put, setIfInBounds_toArray, set_cons_zero, set_cons_succ]
      refine tlE ?_
      show Exit.inBlock _ _ _ _ _
      simp only [Exit.inBlock]
      refine thN ?_
      refine mReg [0, 1, 2] rfl rfl ?_
      refine tlP (v := .int .i64 ((i : Int))) 10 rfl ?_
      simp only [Act.put, setIfInBounds_toArray, set_cons_zero, set_cons_succ]
      refine tlP (v := .int .i64 ((i : Int) + 1)) 11 rfl ?_ (hr := run_arith (q := .add) (k := .i64) (m := (i : Int)) (n := 1) (r := (i : Int) + 1) rfl rfl rfl (.inl ⟨rfl, i64_ok (n := (i : Int) + 1) (by omega) (by omega)⟩))
      simp only [Act.put, setIfInBounds_toArray, set_cons_zero, set_cons_succ]
      refine tlP (v := .int .i64 ((i : Int) + 1)) 5 rfl ?_
      simp only [Act.put, setIfInBounds_toArray, set_cons_zero, set_cons_succ]
      refine tlE ?_
      go_wp2
      go_roundg k1
      case measure => have := HK.out; omega
      case rel => exact ⟨i + 1, c1_, by rw [HBB.out]; congr 1; push_cast; omega, by congr 1, ⟨by have := HK.out; omega, by omega⟩, ⟨hz1_⟩, ⟨marks_round flat_markIntS.len (fun k => k) a l i hi HC.out (by rw [hz0_]; exact hsz) (by rw [HC1_.out, HBB.out, Nat.mul_one]; rfl)⟩, ⟨rfl⟩⟩
    · have hkk := HK.out
      by_cases hge : i = l.length
      · subst hge
        have HW2 := HW.out; subst HW2
        go_wp2
        go_ret
        exact ⟨by first | rfl | simp, ci, HZ.out, by simpa using HC.out, rfl⟩
      · exfalso; omega
set_option maxHeartbeats 1600000 in
set_option maxRecDepth 100000 in
theorem laws_markIntS_nil (A : Option Addr) (c : Nat) (a : Int) (w : World) : Calls Try.prog 40 #[.slice A 0 c, .int .i64 a] w fun e w' => e = .returned (.int .i64 a) ∧ w' = w := by
  go_enter Try.func40, Try.ntmps40
  go_wp2
  go_loopg [1, 5] 1 (fun kq v1 v5 w' => v1 = .int .i64 a ∧ v5 = .int .i64 (0 : Int) ∧ w' = w)
  case atStart => exact ⟨rfl, rfl, rfl⟩
  case round =>
    obtain ⟨rfl, rfl, rfl⟩ := hrel
    go_wp2
    go_ret
    exact ⟨rfl, rfl⟩
def laws_markIntS.f (l : List Int) (a : Int) : Option (Int × List Int) := if 0 ≤ a ∧ a + 1 * l.length ≤ 4611686018427387904 then some (a + 1 * l.length, marksG (fun k => k) 1 a l.length) else none
theorem laws_markIntS.calls (P_ : Nat → Prop) (u : Value) (l : List Int) (a : Int) (r1 : Int) (r2 : List Int) (w0 w : World) (hB : Below w0.heap.size w0 w) (ho : Kd.R (Kd.int .i64) 3 w w0.heap.size P_ u l) (h : laws_markIntS.f l a = some (r1, r2)) :
    Calls Try.prog 40 #[u, .int .i64 a] w fun e w' => e = .returned (.int .i64 r1) ∧ Kd.R (Kd.int .i64) 3 w' w0.heap.size P_ u r2 ∧ Below w0.heap.size w0 w' ∧ Kept w w' P_ := by
  unfold laws_markIntS.f at h
  split at h
  next hh =>
    obtain ⟨rfl, rfl⟩ : a + 1 * l.length = r1 ∧ marksG (fun k => k) 1 a l.length = r2 := by simpa using h
    by_cases hl : 0 < l.length
    · obtain ⟨g, cap, cur, hv, hP, hg, hsz, htk, hge, hback⟩ := R_blk flat_markIntS ho hl
      subst hv
      refine (laws_markIntS_loop g cap l a cur w hg htk hsz hh.1 hh.2).mono ?_
      rintro e w' ⟨rfl, cur', hs', ht', hw'⟩
      exact ⟨rfl, marks_fin flat_markIntS hB ho rfl hg hP hge hback hs' ht' hw'⟩
    · obtain rfl : l = [] := List.eq_nil_of_length_eq_zero (by omega)
      obtain ⟨A, c, rfl⟩ := Kd.R_slice ho
      refine (laws_markIntS_nil A c a w).mono ?_
      rintro e w' ⟨rfl, rfl⟩
      exact ⟨by simp, ho, hB, Kept.refl _ _⟩
  next => cases h
end Go.Proofs.Ytpbboooeahmgpaa.P


namespace Go.Proofs.Ytpbboooeahmgpaa.P
open Go.RowKit Go.Proofs.YtpbboooeahmgpaaW.PrintWords Go.Proofs.YtpbboooeahmgpaaW.PrintLast Go.Proofs.YtpbboooeahmgpaaW.PrintMore
attribute [local go_sem] max2_int min2_int max_two min_two max_three min_three max_four min_four   -- for this text's walks alone
set_option linter.unusedVariables false
set_option linter.unusedSimpArgs false

/-! ### laws_heldIntS: function 41 -/
def laws_heldIntS.l0 : Nat → List Int → Int → Int → Option (Int)
  | 0, _, _, _ => none
  | k + 1, x0, x1, x5 => if x5 < (x0.length : Int) then (if 0 ≤ x5 then (if (rd x0 x5) = x1 then (laws_heldIntS.l0 k x0 (wrap64 (x1 + 1)) (wrap64 (x5 + 1))) else (some (-1))) else (none)) else (some x1)
def laws_heldIntS.f (k : Nat) (l0 : List Int) (a1 : Int) : Option (Int) := laws_heldIntS.l0 k l0 a1 0
set_option maxHeartbeats 8000000 in
set_option maxRecDepth 100000 in
theorem laws_heldIntS.calls (k : Nat) (A0 : Option Addr) (c0 : Nat) (l0 : List Int) (a1 : Int) (r : Int) (w : World) (hr0 : Kd.C (Kd.int .i64) w A0 l0.length l0) (hc0 : l0.length ≤ c0) (h : laws_heldIntS.f k l0 a1 = some r) :
    Calls Try.prog 41 #[.slice A0 l0.length c0, .int .i64 a1] w fun e w' => e = .returned (.int .i64 r) ∧ Drawn0 w w' := by
  have HR0 := Aside0.mk hr0
  have HC0 := Aside0.mk hc0
  clear hr0 hc0
  have H : (laws_heldIntS.l0 k l0 a1 0) = some r := h
  clear h
  have H' := Aside0.mk H
  clear H
  go_enter Try.func41, Try.ntmps41
  go_wp2
  go_loopg [1, 5] k (fun kq v1 v5 w' => ∃ (x1_1 : Int) (x5_1 : Int), v1 = .int .i64 x1_1 ∧ v5 = .int .i64 x5_1 ∧ Aside0 (laws_heldIntS.l0 kq l0 x1_1 x5_1 = some r) ∧ Aside0 (kq ≤ k) ∧ Drawn0 w w')
  case atStart => exact ⟨(a1), (0), (by first | rfl | (simp; done) | (simp [*]; done)), (by first | rfl | (simp; done) | (simp [*]; done)), H', ⟨Nat.le_refl _⟩, by repeat (first | exact Drawn0.refl _ | apply Drawn0.step)⟩
  case round =>
    clear H'
    try clear p2
    obtain ⟨x1_1, x5_1, rfl, rfl, HA, HK1, ⟨m1, rfl⟩⟩ := hrel
    cases gk with
    | zero => exact absurd HA.out (by simp [laws_heldIntS.l0])
    | succ k1 =>
      have H := HA.out
      clear HA
      simp only [laws_heldIntS.l0] at H
      by_cases c3 : x5_1 < (l0.length : Int)
      · rw [if_pos c3] at H
        have c3b0 : decide (x5_1 < (l0.length : Int)) = true := decide_eq_true c3
        clear c3
        by_cases c4 : 0 ≤ x5_1
        · rw [if_pos c4] at H
          have c4b0 : decide (0 ≤ x5_1) = true := decide_eq_true c4
          clear c4
          by_cases c5 : (rd l0 x5_1) = x1_1
          · rw [if_pos c5] at H
            have c5b0 : ((rd l0 x5_1) == x1_1) = true := beq_iff_eq.mpr c5
            have c5b1 : ((rd l0 x5_1) != x1_1) = false := bne_eq_false_iff_eq.mpr c5
            clear c5
            have H' := Aside0.mk H
            clear H
            have p719 : 0 ≤ (x5_1 : Int) := of_decide_eq_true (by first | (with_reducible assumption) | assumption)
            have q719 : x5_1 < (l0.length : Int) := of_decide_eq_true (by first | (with_reducible assumption) | assumption)
            obtain ⟨ad719, e719, hx719_0⟩ := Kd.at_int HR0.out x5_1 p719 q719
            cases e719
            replace p719 := eq_true p719
            replace q719 := eq_true q719
            go_wp2
            go_roundg k1
            case measure => have := HK1.out; omega
            case rel => exact ⟨(wrap64 (x1_1 + 1)), (wrap64 (x5_1 + 1)), (by first | rfl | (simp; done) | (simp [*]; done)), (by first | rfl | (simp; done) | (simp [*]; done)), H', ⟨by have := HK1.out; omega⟩, by repeat (first | exact Drawn0.refl _ | apply Drawn0.step)⟩
          · rw [if_neg c5] at H
            have c5b0 : ((rd l0 x5_1) == x1_1) = false := beq_eq_false_iff_ne.mpr c5
            have c5b1 : ((rd l0 x5_1) != x1_1) = true := bne_iff_ne.mpr c5
            obtain rfl := Option.some.inj H
            have p719 : 0 ≤ (x5_1 : Int) := of_decide_eq_true (by first | (with_reducible assumption) | assumption)
            have q719 : x5_1 < (l0.length : Int) := of_decide_eq_true (by first | (with_reducible assumption) | assumption)
            obtain ⟨ad719, e719, hx719_0⟩ := Kd.at_int HR0.out x5_1 p719 q719
            cases e719
            replace p719 := eq_true p719
            replace q719 := eq_true q719
            go_wp2
            go_ret
            exact ⟨by first | rfl | (simp; done) | (simp [*]; done), by repeat (first | exact Drawn0.refl _ | apply Drawn0.step)⟩
        · rw [if_neg c4] at H
          exact absurd H (by simp)
      · rw [if_neg c3] at H
        have c3b0 : decide (x5_1 < (l0.length : Int)) = false := decide_eq_false c3
        clear c3
        obtain rfl := Option.some.inj H
        go_wp2
        go_ret
        exact ⟨by first | rfl | (simp; done) | (simp [*]; done), by repeat (first | exact Drawn0.refl _ | apply Drawn0.step)⟩

end Go.Proofs.Ytpbboooeahmgpaa.P


namespace Go.Proofs.Ytpbboooeahmgpaa.P
open Go.RowKit Go.Proofs.YtpbboooeahmgpaaW.PrintWords Go.Proofs.YtpbboooeahmgpaaW.PrintLast Go.Proofs.YtpbboooeahmgpaaW.PrintMore
attribute [local go_sem] max2_int min2_int max_two min_two max_three min_three max_four min_four   -- for this text's walks alone
set_option linter.unusedVariables false
set_option linter.unusedSimpArgs false

/-! ### laws_eqIntS: function 37 -/
def laws_eqIntS.l0 : Nat → List Int → List Int → Int → Option (Bool)
  | 0, _, _, _ => none
  | k + 1, x0, x1, x5 => if x5 < (x0.length : Int) then (if 0 ≤ x5 then (if x5 < (x1.length : Int) then (if (rd x0 x5) = (rd x1 x5) then (laws_eqIntS.l0 k x0 x1 (wrap64 (x5 + 1))) else (some false)) else (none)) else (none)) else (some true)
def laws_eqIntS.f (k : Nat) (l0 : List Int) (l1 : List Int) : Option (Bool) := if (l0.length : Int) = (l1.length : Int) then (laws_eqIntS.l0 k l0 l1 0) else (some false)
set_option maxHeartbeats 8000000 in
set_option maxRecDepth 100000 in
theorem laws_eqIntS.calls (k : Nat) (A0 : Option Addr) (c0 : Nat) (l0 : List Int) (A1 : Option Addr) (c1 : Nat) (l1 : List Int) (r : Bool) (w : World) (hr0 : Kd.C (Kd.int .i64) w A0 l0.length l0) (hc0 : l0.length ≤ c0) (hr1 : Kd.C (Kd.int .i64) w A1 l1.length l1) (hc1 : l1.length ≤ c1) (h : laws_eqIntS.f k l0 l1 = some r) :
    Calls Try.prog 37 #[.slice A0 l0.length c0, .slice A1 l1.length c1] w fun e w' => e = .returned (.bool r) ∧ Drawn0 w w' := by
  have HR0 := Aside0.mk hr0
  have HC0 := Aside0.mk hc0
  clear hr0 hc0
  have HR1 := Aside0.mk hr1
  have HC1 := Aside0.mk hc1
  clear hr1 hc1
  have H : (if (l0.length : Int) = (l1.length : Int) then (laws_eqIntS.l0 k l0 l1 0) else (some false)) = some r := h
  clear h
  by_cases c3 : (l0.length : Int) = (l1.length : Int)
  · rw [if_pos c3] at H
    have c3b0 : ((l0.length : Int) == (l1.length : Int)) = true := beq_iff_eq.mpr c3
    have c3b1 : ((l0.length : Int) != (l1.length : Int)) = false := bne_eq_false_iff_eq.mpr c3
    have c3b2 : (l0.length == l1.length) = true := by first | simpa using c3 | (simp at c3 ⊢; omega)
    clear c3
    have H' := Aside0.mk H
    clear H
    go_enter Try.func37, Try.ntmps37
    go_wp2
    repeat (go_quiet (fail); try go_wp2)
    go_loopg [5] k (fun kq v5 w' => ∃ (x5_1 : Int), v5 = .int .i64 x5_1 ∧ Aside0 (laws_eqIntS.l0 kq l0 l1 x5_1 = some r) ∧ Aside0 (kq ≤ k) ∧ Drawn0 w w')
    case atStart => exact ⟨(0), (by first | rfl | (simp; done) | (simp [*]; done)), H', ⟨Nat.le_refl _⟩, by repeat (first | exact Drawn0.refl _ | apply Drawn0.step)⟩
    case round =>
      clear H'
      try clear c1
      try clear p2
      try clear c3
      try clear c3b0
      try clear c3b1
      try clear c3b2
      obtain ⟨x5_1, rfl, HA, HK1, ⟨m1, rfl⟩⟩ := hrel
      cases gk with
      | zero => exact absurd HA.out (by simp [laws_eqIntS.l0])
      | succ k1 =>
        have H := HA.out
        clear HA
        simp only [laws_eqIntS.l0] at H
        by_cases c4 : x5_1 < (l0.length : Int)
        · rw [if_pos c4] at H
          have c4b0 : decide (x5_1 < (l0.length : Int)) = true := decide_eq_true c4
          clear c4
          by_cases c5 : 0 ≤ x5_1
          · rw [if_pos c5] at H
            have c5b0 : decide (0 ≤ x5_1) = true := decide_eq_true c5
            clear c5
            by_cases c6 : x5_1 < (l1.length : Int)
            · rw [if_pos c6] at H
              have c6b0 : decide (x5_1 < (l1.length : Int)) = true := decide_eq_true c6
              clear c6
              by_cases c7 : (rd l0 x5_1) = (rd l1 x5_1)
              · rw [if_pos c7] at H
                have c7b0 : ((rd l0 x5_1) == (rd l1 x5_1)) = true := beq_iff_eq.mpr c7
                have c7b1 : ((rd l0 x5_1) != (rd l1 x5_1)) = false := bne_eq_false_iff_eq.mpr c7
                clear c7
                have H' := Aside0.mk H
                clear H
                have p714 : 0 ≤ (x5_1 : Int) := of_decide_eq_true (by first | (with_reducible assumption) | assumption)
                have q714 : x5_1 < (l0.length : Int) := of_decide_eq_true (by first | (with_reducible assumption) | assumption)
                obtain ⟨ad714, e714, hx714_0⟩ := Kd.at_int HR0.out x5_1 p714 q714
                cases e714
                replace p714 := eq_true p714
                replace q714 := eq_true q714
                have p715 : 0 ≤ (x5_1 : Int) := of_decide_eq_true (by first | (with_reducible assumption) | assumption)
                have q715 : x5_1 < (l1.length : Int) := of_decide_eq_true (by first | (with_reducible assumption) | assumption)
                obtain ⟨ad715, e715, hx715_0⟩ := Kd.at_int HR1.out x5_1 p715 q715
                cases e715
                replace p715 := eq_true p715
                replace q715 := eq_true q715
                go_wp2
                repeat (go_quiet (fail); try go_wp2)
                go_roundg k1
                case measure => have := HK1.out; omega
                case rel => exact ⟨(wrap64 (x5_1 + 1)), (by first | rfl | (simp; done) | (simp [*]; done)), H', ⟨by have := HK1.out; omega⟩, by repeat (first | exact Drawn0.refl _ | apply Drawn0.step)⟩
              · rw [if_neg c7] at H
                have c7b0 : ((rd l0 x5_1) == (rd l1 x5_1)) = false := beq_eq_false_iff_ne.mpr c7
                have c7b1 : ((rd l0 x5_1) != (rd l1 x5_1)) = true := bne_iff_ne.mpr c7
                obtain rfl := Option.some.inj H
                have p714 : 0 ≤ (x5_1 : Int) := of_decide_eq_true (by first | (with_reducible assumption) | assumption)
                have q714 : x5_1 < (l0.length : Int) := of_decide_eq_true (by first | (with_reducible assumption) | assumption)
                obtain ⟨ad714, e714, hx714_0⟩ := Kd.at_int HR0.out x5_1 p714 q714
                cases e714
                replace p714 := eq_true p714
                replace q714 := eq_true q714
                have p715 : 0 ≤ (x5_1 : Int) := of_decide_eq_true (by first | (with_reducible assumption) | assumption)
                have q715 : x5_1 < (l1.length : Int) := of_decide_eq_true (by first | (with_reducible assumption) | assumption)
                obtain ⟨ad715, e715, hx715_0⟩ := Kd.at_int HR1.out x5_1 p715 q715
                cases e715
                replace p715 := eq_true p715
                replace q715 := eq_true q715
                go_wp2
                repeat (go_quiet (fail); try go_wp2)
                go_ret
                exact ⟨by first | rfl | (simp; done) | (simp [*]; done), by repeat (first | exact Drawn0.refl _ | apply Drawn0.step)⟩
            · rw [if_neg c6] at H
              exact absurd H (by simp)
          · rw [if_neg c5] at H
            exact absurd H (by simp)
        · rw [if_neg c4] at H
          have c4b0 : decide (x5_1 < (l0.length : Int)) = false := decide_eq_false c4
          clear c4
          obtain rfl := Option.some.inj H
          go_wp2
          repeat (go_quiet (fail); try go_wp2)
          go_ret
          exact ⟨by first | rfl | (simp; done) | (simp [*]; done), by repeat (first | exact Drawn0.refl _ | apply Drawn0.step)⟩
  · rw [if_neg c3] at H
    have c3b0 : ((l0.length : Int) == (l1.length : Int)) = false := beq_eq_false_iff_ne.mpr c3
    have c3b1 : ((l0.length : Int) != (l1.length : Int)) = true := bne_iff_ne.mpr c3
    have c3b2 : (l0.length == l1.length) = false := by first | simpa using c3 | (simp at c3 ⊢; omega)
    obtain rfl := Option.some.inj H
    go_enter Try.func37, Try.ntmps37
    go_wp2
    repeat (go_quiet (fail); try go_wp2)
    go_ret
    exact ⟨by first | rfl | (simp; done) | (simp [*]; done), by repeat (first | exact Drawn0.refl _ | apply Drawn0.step)⟩

end Go.Proofs.Ytpbboooeahmgpaa.P


/- What the laws ask of a list of numbers: equality, marks, marks held. -/
namespace Go.Proofs.Ytpbboooeahmgpaa.P
open Go.RowKit Go.Proofs.YtpbboooeahmgpaaW.PrintWords Go.Proofs.YtpbboooeahmgpaaW.Mine
set_option linter.unusedVariables false
theorem heldIntS_ev (n : Nat) : ∀ (pre : List Int) (a : Int), 0 ≤ a → a + n ≤ 4611686018427387904 → pre.length + n ≤ 4611686018427387904 → Ev (fun k => laws_heldIntS.l0 k (pre ++ marksG (fun k => k) 1 a n) a (pre.length : Int)) (a + 1 * n) := by
  induction n with
  | zero =>
    intro pre a h0 h1 h2
    refine Ev.step (fun k => ?_) (Ev.now _)
    simp [laws_heldIntS.l0, marksG]
  | succ n ih =>
    intro pre a h0 h1 h2
    rw [show marksG (fun k => k) 1 a (n + 1) = a :: marksG (fun k => k) 1 (a + 1) n from rfl]
    refine Ev.step (f := fun k => laws_heldIntS.l0 k ((pre ++ [a]) ++ marksG (fun k => k) 1 (a + 1) n) (a + 1) ((pre ++ [a]).length : Int)) (fun k => ?_) ?_
    · simp only [laws_heldIntS.l0]
      rw [if_pos (by simp; omega), if_pos (by omega), rd_mid, if_pos rfl, wrap_ok (by omega) (by omega), wrap_len (by omega)]
      simp
    · have := ih (pre ++ [a]) (a + 1) (by omega) (by omega) (by simp; omega)
      rw [show a + 1 * ((n + 1 : Nat) : Int) = a + 1 + 1 * (n : Int) by omega]
      exact this
theorem heldIntS_f (n : Nat) (a : Int) (h0 : 0 ≤ a) (h1 : a + n ≤ 4611686018427387904) : Ev (fun k => laws_heldIntS.f k (marksG (fun k => k) 1 a n) a) (a + 1 * n) := by
  have := heldIntS_ev n [] a h0 h1 (by simp; omega)
  simpa [laws_heldIntS.f] using this
theorem eqIntS_ev (suf : List Int) : ∀ (pre : List Int), pre.length + suf.length ≤ 9223372036854775807 → Ev (fun k => laws_eqIntS.l0 k (pre ++ suf) (pre ++ suf) (pre.length : Int)) true := by
  induction suf with
  | nil =>
    intro pre h2
    refine Ev.step (fun k => ?_) (Ev.now _)
    simp [laws_eqIntS.l0]
  | cons x suf ih =>
    intro pre h2
    simp only [List.length_cons] at h2
    refine Ev.step (f := fun k => laws_eqIntS.l0 k ((pre ++ [x]) ++ suf) ((pre ++ [x]) ++ suf) ((pre ++ [x]).length : Int)) (fun k => ?_) (ih (pre ++ [x]) (by simp; omega))
    simp only [laws_eqIntS.l0]
    rw [if_pos (by simp; omega), if_pos (by omega), if_pos (by simp; omega), if_pos trivial, wrap_len (by omega)]
    simp
theorem eqIntS_f (l : List Int) (h : l.length ≤ 9223372036854775807) : Ev (fun k => laws_eqIntS.f k l l) true := by
  refine Ev.congr (fun k => ?_) (eqIntS_ev l [] (by simpa using h))
  unfold laws_eqIntS.f
  rw [if_pos rfl]
  rfl
theorem markI (l : List Int) (a : Int) (h0 : 0 ≤ a) (h : a + 1 * l.length ≤ 4611686018427387904) : laws_markIntS.f l a = some (a + 1 * l.length, marksG (fun k => k) 1 a l.length) := if_pos ⟨h0, h⟩
end Go.Proofs.Ytpbboooeahmgpaa.P


/- markLoanS: a slice of flat elements written in place. -/
namespace Go.Proofs.Ytpbboooeahmgpaa.P
open Go.RowKit Go.Proofs.YtpbboooeahmgpaaW.PrintWords Go.Proofs.YtpbboooeahmgpaaW.PrintMore Go.Proofs.YtpbboooeahmgpaaW.Mine
open List (setIfInBounds_toArray set_cons_zero set_cons_succ)
set_option linter.unusedVariables false
set_option linter.unusedSimpArgs false
def cellsM (x : SimplLoan) : List Value := [.int .i64 x.f0.f0, .int .i64 x.f0.f1, .int .i64 x.f0.f2, .int .i64 x.f0.f3, .bool x.f1, .int .i64 x.f2, .int .i64 x.f3]
def markL (a : Int) : SimplLoan := ⟨⟨a, a + 1, a + 2, a + 3⟩, decide ((a + 4) % 3 = 0), a + 5, a + 6⟩
theorem flat_markLoanS : FlatK kimplLoan cellsM 7 := ⟨rfl, fun _ => rfl, fun h => kimplLoan_open h, fun w base ok x => kimplLoan_mkM w base ok x⟩
set_option maxHeartbeats 8000000 in
set_option maxRecDepth 100000 in
theorem laws_markLoanS_loop (g c : Nat) (l : List SimplLoan) (a : Int) (cur : Array Value) (w : World) (hg : w.heap[g]? = some (.cells cur 30 (0, 0))) (ht : cur.toList.take (l.length * 7) = l.flatMap cellsM) (hsz : l.length * 7 ≤ cur.size) (ha : 0 ≤ a) (hb : a + 7 * l.length ≤ 4611686018427387904) :
    Calls Try.prog 39 #[.slice (some ⟨g, 0, none⟩) l.length c, .int .i64 a] w fun e w' => e = .returned (.int .i64 (a + 7 * l.length)) ∧ ∃ cur' : Array Value, cur'.size = cur.size ∧ cur'.toList.take (l.length * 7) = (marksG (markL) 7 a l.length).flatMap cellsM ∧ w' = w.setRow g cur' := by
  have HG := Aside0.mk hg; have HT := Aside0.mk ht; clear hg ht
  go_enter Try.func39, Try.ntmps39
  go_wp2
  go_loopg [1, 5] (l.length + 1) (fun kq v1 v5 w' => ∃ (i : Nat) (ci : Array Value), v1 = .int .i64 (a + 7 * i) ∧ v5 = .int .i64 (i : Int) ∧ Aside0 (kq + i = l.length + 1 ∧ i ≤ l.length) ∧ Aside0 (ci.size = cur.size) ∧ Aside0 (ci.toList.take (l.length * 7) = (marksG (markL) 7 a i ++ l.drop i).flatMap cellsM) ∧ Aside0 (w' = w.setRow g ci))
  case atStart => exact ⟨0, cur, by simp, rfl, ⟨rfl, Nat.zero_le _⟩, ⟨rfl⟩, ⟨by simpa [marksG] using HT.out⟩, ⟨(setRow_self w g cur _ _ HG.out).symm⟩⟩
  case round =>
    obtain ⟨i, ci, rfl, rfl, HK, HZ, HC, HW⟩ := hrel
    by_cases hi : i < l.length
    · obtain ⟨k1, rfl⟩ : ∃ q, gk = q + 1 := ⟨gk - 1, by have := HK.out; omega⟩
      have hi1 : decide ((i : Int) < (l.length : Int)) = true := decide_eq_true (by omega)
      have p5 := eq_true (show (0 : Int) ≤ (i : Int) by omega); have q5 := eq_true (show (i : Int) < (l.length : Int) by omega)
      obtain ⟨b, hbb⟩ : ∃ b : Int, b = a + 7 * i := ⟨_, rfl⟩
      have hb0 : 0 ≤ b ∧ b + 7 ≤ 4611686018427387904 := by omega
      rw [← hbb]; have HBB := Aside0.mk hbb; clear hbb
      obtain ⟨c0_, hc0_⟩ : ∃ x, x = ci := ⟨_, rfl⟩
      have hz0_ : c0_.size = cur.size := by rw [hc0_]; exact HZ.out
      rw [← hc0_] at HC; have HW2 := HW.out; subst HW2; rw [← hc0_]
      clear hc0_ HZ HW
      refine wp_seq ?_
      refine wp_seq ?_
      refine mReg [0, 1, 2, 3] rfl rfl ?_
      refine tlP (v := .int .i64 ((i : Int))) 6 rfl ?_
      simp only [Act.put, setIfInBounds_toArray, set_cons_zero, set_cons_succ]
      refine tlP (v := .slice (some ⟨g, 0, none⟩) l.length c) 7 rfl ?_
      simp only [Act.put, setIfInBounds_toArray, set_cons_zero, set_cons_succ]
      refine tlP (v := .int .i64 (l.length : Int)) 8 (hr := by go_simp; try rfl) rfl ?_
      simp only [Act.put, setIfInBounds_toArray, set_cons_zero, set_cons_succ]
      refine tlP (v := .bool true) 9 rfl ?_ (hr := by go_simp; try simp [hi])
      simp only [Act.put, setIfInBounds_toArray, set_cons_zero, set_cons_succ]
      refine tl0 ?_
      refine wp_cond_true rfl ?_
      refine wp_skip ?_
      refine thN ?_
      refine wp_seq ?_
      refine wp_block ?_
      refine wp_seq ?_
      refine mReg [0, 1, 2, 3, 4, 5, 6] rfl rfl ?_
      refine tlP (v := .slice (some ⟨g, 0, none⟩) l.length c) 12 rfl ?_
      simp only [Act.put, setIfInBounds_toArray, set_cons_zero, set_cons_succ]
      refine tlP (v := .int .i64 ((i : Int))) 13 rfl ?_
      simp only [Act.put, setIfInBounds_toArray, set_cons_zero, set_cons_succ]
      refine tlP (v := .int .i64 (b)) 14 rfl ?_
      simp only [Act.put, setIfInBounds_toArray, set_cons_zero, set_cons_succ]
      refine tlP (v := .pointer (some ⟨g, i * 7, none⟩)) 15 (hr := by go_simp; try rfl) rfl ?_
      simp only [Act.put, setIfInBounds_toArray, set_cons_zero, set_cons_succ]
      refine tlP (v := .pointer (some ⟨g, i * 7, none⟩)) 16 (hr := by go_simp; try rfl) rfl ?_
      simp only [Act.put, setIfInBounds_toArray, set_cons_zero, set_cons_succ]
      refine tlP (v := .pointer (some ⟨g, i * 7, none⟩)) 17 (hr := by go_simp; try rfl) rfl ?_
      simp only [Act.put, setIfInBounds_toArray, set_cons_zero, set_cons_succ]
      have hc_ : (w.setRow g c0_).cell? ⟨g, i * 7, none⟩ = some (c0_.getD (i * 7) undef) := mCell HG.out (by simp only [hz0_]; omega)
      have hf_ : (w.setRow g c0_).frozen? ⟨g, i * 7, none⟩ = false := mFrozen HG.out _
      refine mSkip (w2 := w.setRow g (c0_.setIfInBounds (i * 7) (.int .i64 (b)))) rfl (by rw [← mSet]; go_simp; try rfl) ?_
      clear hc_ hf_
      obtain ⟨c1_, hc1_⟩ : ∃ x, x = c0_.setIfInBounds (i * 7) (.int .i64 (b)) := ⟨_, rfl⟩
      have hz1_ : c1_.size = cur.size := by rw [hc1_, Array.size_setIfInBounds, hz0_]
      rw [← hc1_]; have HC1_ := Aside0.mk hc1_; clear hc1_
      refine tl0 ?_
      refine wp_seq ?_
      refine mReg [0, 1, 2] rfl rfl ?_
      refine tlP (v := .int .i64 (b)) 18 rfl ?_
      simp only [Act.put, setIfInBounds_toArray, set_cons_zero, set_cons_succ]
      refine tlP (v := .int .i64 (b + 1)) 19 rfl ?_ (hr := run_arith (q := .add) (k := .i64) (m := b) (n := 1) (r := b + 1) rfl rfl rfl (.inl ⟨rfl, by rw [show (b : Int) + 1 = b + 1 by omega]; exact i64_ok (n := b + 1) (by omega) (by omega)⟩))
      simp only [Act.put, setIfInBounds_toArray, set_cons_zero, set_cons_succ]
      refine tlP (v := .int .i64 (b + 1)) 1 rfl ?_
      simp only [Act.put, setIfInBounds_toArray, set_cons_zero, set_cons_succ]
      refine tl0 ?_
      refine wp_seq ?_
      refine mReg [0, 1, 2, 3, 4, 5, 6] rfl rfl ?_
      refine tlP (v := .slice (some ⟨g, 0, none⟩) l.length c) 20 rfl ?_
      simp only [Act.put, setIfInBounds_toArray, set_cons_zero, set_cons_succ]
      refine tlP (v := .int .i64 ((i : Int))) 21 rfl ?_
      simp only [Act.put, setIfInBounds_toArray, set_cons_zero, set_cons_succ]
      refine tlP (v := .int .i64 (b + 1)) 22 rfl ?_
      simp only [Act.put, setIfInBounds_toArray, set_cons_zero, set_cons_succ]
      refine tlP (v := .pointer (some ⟨g, i * 7, none⟩)) 23 (hr := by go_simp; try rfl) rfl ?_
      simp only [Act.put, setIfInBounds_toArray, set_cons_zero, set_cons_succ]
      refine tlP (v := .pointer (some ⟨g, i * 7, none⟩)) 24 (hr := by go_simp; try rfl) rfl ?_
      simp only [Act.put, setIfInBounds_toArray, set_cons_zero, set_cons_succ]
      refine tlP (v := .pointer (some ⟨g, i * 7 + 1, none⟩)) 25 (hr := by go_simp; try rfl) rfl ?_
      simp only [Act.put, setIfInBounds_toArray, set_cons_zero, set_cons_succ]
      have hc_ : (w.setRow g c1_).cell? ⟨g, i * 7 + 1, none⟩ = some (c1_.getD (i * 7 + 1) undef) := mCell HG.out (by simp only [hz1_]; omega)
      have hf_ : (w.setRow g c1_).frozen? ⟨g, i * 7 + 1, none⟩ = false := mFrozen HG.out _
      refine mSkip (w2 := w.setRow g (c1_.setIfInBounds (i * 7 + 1) (.int .i64 (b + 1)))) rfl (by rw [← mSet]; go_simp; try rfl) ?_
      clear hc_ hf_
      obtain ⟨c2_, hc2_⟩ : ∃ x, x = c1_.setIfInBounds (i * 7 + 1) (.int .i64 (b + 1)) := ⟨_, rfl⟩
      have hz2_ : c2_.size = cur.size := by rw [hc2_, Array.size_setIfInBounds, hz1_]
      rw [← hc2_]; have HC2_ := Aside0.mk hc2_; clear hc2_
      refine tl0 ?_
      refine wp_seq ?_
      refine mReg [0, 1, 2] rfl rfl ?_
      refine tlP (v := .int .i64 (b + 1)) 26 rfl ?_
      simp only [Act.put, setIfInBounds_toArray, set_cons_zero, set_cons_succ]
      refine tlP (v := .int .i64 (b + 2)) 27 rfl ?_ (hr := run_arith (q := .add) (k := .i64) (m := b + 1) (n := 1) (r := b + 2) rfl rfl rfl (.inl ⟨rfl, by rw [show (b + 1 : Int) + 1 = b + 2 by omega]; exact i64_ok (n := b + 2) (by omega) (by omega)⟩))
      simp only [Act.put, setIfInBounds_toArray, set_cons_zero, set_cons_succ]
      refine tlP (v := .int .i64 (b + 2)) 1 rfl ?_
      simp only [Act.put, setIfInBounds_toArray, set_cons_zero, set_cons_succ]
      refine tl0 ?_
      refine wp_seq ?_
      refine mReg [0, 1, 2, 3, 4, 5, 6] rfl rfl ?_
      refine tlP (v := .slice (some ⟨g, 0, none⟩) l.length c) 28 rfl ?_
      simp only [Act.put, setIfInBounds_toArray, set_cons_zero, set_cons_succ]
      refine tlP (v := .int .i64 ((i : Int))) 29 rfl ?_
      simp only [Act.put, setIfInBounds_toArray, set_cons_zero, set_cons_succ]
      refine tlP (v := .int .i64 (b + 2)) 30 rfl ?_
      simp only [Act.put, setIfInBounds_toArray, set_cons_zero, set_cons_succ]
      refine tlP (v := .pointer (some ⟨g, i * 7, none⟩)) 31 (hr := by go_simp; try rfl) rfl ?_
      simp only [Act.put, setIfInBounds_toArray, set_cons_zero, set_cons_succ]
      refine tlP (v := .pointer (some ⟨g, i * 7, none⟩)) 32 (hr := by go_simp; try rfl) rfl ?_
      simp only [Act.put, setIfInBounds_toArray, set_cons_zero, set_cons_succ]
      refine tlP (v := .pointer (some ⟨g, i * 7 + 2, none⟩)) 33 (hr := by go_simp; try rfl) rfl ?_
      simp only [Act.put, setIfInBounds_toArray, set_cons_zero, set_cons_succ]
      have hc_ : (w.setRow g c2_).cell? ⟨g, i * 7 + 2, none⟩ = some (c2_.getD (i * 7 + 2) undef) := mCell HG.out (by simp only [hz2_]; omega)
      have hf_ : (w.setRow g c2_).frozen? ⟨g, i * 7 + 2, none⟩ = false := mFrozen HG.out _
      refine mSkip (w2 := w.setRow g (c2_.setIfInBounds (i * 7 + 2) (.int .i64 (b + 2)))) rfl (by rw [← mSet]; go_simp; try rfl) ?_
      clear hc_ hf_
      obtain ⟨c3_, hc3_⟩ : ∃ x, x = c2_.setIfInBounds (i * 7 + 2) (.int .i64 (b + 2)) := ⟨_, rfl⟩
      have hz3_ : c3_.size = cur.size := by rw [hc3_, Array.size_setIfInBounds, hz2_]
      rw [← hc3_]; have HC3_ := Aside0.mk hc3_; clear hc3_
      refine tl0 ?_
      refine wp_seq ?_
      refine mReg [0, 1, 2] rfl rfl ?_
      refine tlP (v := .int .i64 (b + 2)) 34 rfl ?_
      simp only [Act.put, setIfInBounds_toArray, set_cons_zero, set_cons_succ]
      refine tlP (v := .int .i64 (b + 3)) 35 rfl ?_ (hr := run_arith (q := .add) (k := .i64) (m := b + 2) (n := 1) (r := b + 3) rfl rfl rfl (.inl ⟨rfl, by rw [show (b + 2 : Int) + 1 = b + 3 by omega]; exact i64_ok (n := b + 3) (by omega) (by omega)⟩))
      simp only [Act.put, setIfInBounds_toArray, set_cons_zero, set_cons_succ]
      refine tlP (v := .int .i64 (b + 3)) 1 rfl ?_
      simp only [Act.put, setIfInBounds_toArray, set_cons_zero, set_cons_succ]
      refine tl0 ?_
      refine wp_seq ?_
      refine mReg [0, 1, 2, 3, 4, 5, 6] rfl rfl ?_
      refine tlP (v := .slice (some ⟨g, 0, none⟩) l.length c) 36 rfl ?_
      simp only [Act.put, setIfInBounds_toArray, set_cons_zero, set_cons_succ]
      refine tlP (v := .int .i64 ((i : Int))) 37 rfl ?_
      simp only [Act.put, setIfInBounds_toArray, set_cons_zero, set_cons_succ]
      refine tlP (v := .int .i64 (b + 3)) 38 rfl ?_
      simp only [Act.put, setIfInBounds_toArray, set_cons_zero, set_cons_succ]
      refine tlP (v := .pointer (some ⟨g, i * 7, none⟩)) 39 (hr := by go_simp; try rfl) rfl ?_
      simp only [Act.put, setIfInBounds_toArray, set_cons_zero, set_cons_succ]
      refine tlP (v := .pointer (some ⟨g, i * 7, none⟩)) 40 (hr := by go_simp; try rfl) rfl ?_
      simp only [Act.put, setIfInBounds_toArray, set_cons_zero, set_cons_succ]
      refine tlP (v := .pointer (some ⟨g, i * 7 + 3, none⟩)) 41 (hr := by go_simp; try rfl) rfl ?_
      simp only [Act.put, setIfInBounds_toArray, set_cons_zero, set_cons_succ]
      have hc_ : (w.setRow g c3_).cell? ⟨g, i * 7 + 3, none⟩ = some (c3_.getD (i * 7 + 3) undef) := mCell HG.out (by simp only [hz3_]; omega)
      have hf_ : (w.setRow g c3_).frozen? ⟨g, i * 7 + 3, none⟩ = false := mFrozen HG.out _
      refine mSkip (w2 := w.setRow g (c3_.setIfInBounds (i * 7 + 3) (.int .i64 (b + 3)))) rfl (by rw [← mSet]; go_simp; try rfl) ?_
      clear hc_ hf_
      obtain ⟨c4_, hc4_⟩ : ∃ x, x = c3_.setIfInBounds (i * 7 + 3) (.int .i64 (b + 3)) := ⟨_, rfl⟩
      have hz4_ : c4_.size = cur.size := by rw [hc4_, Array.size_setIfInBounds, hz3_]
      rw [← hc4_]; have HC4_ := Aside0.mk hc4_; clear hc4_
      refine tl0 ?_
      refine wp_seq ?_
      refine mReg [0, 1, 2] rfl rfl ?_
      refine tlP (v := .int .i64 (b + 3)) 42 rfl ?_
      simp only [Act.put, setIfInBounds_toArray, set_cons_zero, set_cons_succ]
      refine tlP (v := .int .i64 (b + 4)) 43 rfl ?_ (hr := run_arith (q := .add) (k := .i64) (m := b + 3) (n := 1) (r := b + 4) rfl rfl rfl (.inl ⟨rfl, by rw [show (b + 3 : Int) + 1 = b + 4 by omega]; exact i64_ok (n := b + 4) (by omega) (by omega)⟩))
      simp only [Act.put, setIfInBounds_toArray, set_cons_zero, set_cons_succ]
      refine tlP (v := .int .i64 (b + 4)) 1 rfl ?_
      simp only [Act.put, setIfInBounds_toArray, set_cons_zero, set_cons_succ]
      refine tl0 ?_
      refine wp_seq ?_
      refine mReg [0, 1, 2, 3, 4, 5, 6, 7] rfl rfl ?_
      refine tlP (v := .slice (some ⟨g, 0, none⟩) l.length c) 44 rfl ?_
      simp only [Act.put, setIfInBounds_toArray, set_cons_zero, set_cons_succ]
      refine tlP (v := .int .i64 ((i : Int))) 45 rfl ?_
      simp only [Act.put, setIfInBounds_toArray, set_cons_zero, set_cons_succ]
      refine tlP (v := .int .i64 (b + 4)) 46 rfl ?_
      simp only [Act.put, setIfInBounds_toArray, set_cons_zero, set_cons_succ]
      refine tlP (v := .int .i64 ((b + 4) % 3)) 47 (hr := by go_simp; first | rfl | exact Int.tmod_eq_emod_of_nonneg (by omega)) rfl ?_
      simp only [Act.put, setIfInBounds_toArray, set_cons_zero, set_cons_succ]
      refine tlP (v := .bool (decide ((b + 4) % 3 = 0))) 48 (hr := by go_simp; try rfl) rfl ?_
      simp only [Act.put, setIfInBounds_toArray, set_cons_zero, set_cons_succ]
      refine tlP (v := .pointer (some ⟨g, i * 7, none⟩)) 49 (hr := by go_simp; try rfl) rfl ?_
      simp only [Act.put, setIfInBounds_toArray, set_cons_zero, set_cons_succ]
      refine tlP (v := .pointer (some ⟨g, i * 7 + 4, none⟩)) 50 (hr := by go_simp; try rfl) rfl ?_
      simp only [Act.put, setIfInBounds_toArray, set_cons_zero, set_cons_succ]
      have hc_ : (w.setRow g c4_).cell? ⟨g, i * 7 + 4, none⟩ = some (c4_.getD (i * 7 + 4) undef) := mCell HG.out (by simp only [hz4_]; omega)
      have hf_ : (w.setRow g c4_).frozen? ⟨g, i * 7 + 4, none⟩ = false := mFrozen HG.out _
      refine mSkip (w2 := w.setRow g (c4_.setIfInBounds (i * 7 + 4) (.bool (decide ((b + 4) % 3 = 0))))) rfl (by rw [← mSet]; go_simp; try rfl) ?_
      clear hc_ hf_
      obtain ⟨c5_, hc5_⟩ : ∃ x, x = c4_.setIfInBounds (i * 7 + 4) (.bool (decide ((b + 4) % 3 = 0))) := ⟨_, rfl⟩
      have hz5_ : c5_.size = cur.size := by rw [hc5_, Array.size_setIfInBounds, hz4_]
      rw [← hc5_]; have HC5_ := Aside0.mk hc5_; clear hc5_
      refine tl0 ?_
      refine wp_seq ?_
      refine mReg [0, 1, 2] rfl rfl ?_
      refine tlP (v := .int .i64 (b + 4)) 51 rfl ?_
      simp only [Act.put, setIfInBounds_toArray, set_cons_zero, set_cons_succ]
      refine tlP (v := .int .i64 (b + 5)) 52 rfl ?_ (hr := run_arith (q := .add) (k := .i64) (m := b + 4) (n := 1) (r := b + 5) rfl rfl rfl (.inl ⟨rfl, by rw [show (b + 4 : Int) + 1 = b + 5 by omega]; exact i64_ok (n := b + 5) (by omega) (by omega)⟩))
      simp only [Act.put, setIfInBounds_toArray, set_cons_zero, set_cons_succ]
      refine tlP (v := .int .i64 (b + 5)) 1 rfl ?_
      simp only [Act.put, setIfInBounds_toArray, set_cons_zero, set_cons_succ]
      refine tl0 ?_
      refine wp_seq ?_
      refine mReg [0, 1, 2, 3, 4, 5] rfl rfl ?_
      refine tlP (v := .slice (some ⟨g, 0, none⟩) l.length c) 53 rfl ?_
      simp only [Act.put, setIfInBounds_toArray, set_cons_zero, set_cons_succ]
      refine tlP (v := .int .i64 ((i : Int))) 54 rfl ?_
      simp only [Act.put, setIfInBounds_toArray, set_cons_zero, set_cons_succ]
      refine tlP (v := .int .i64 (b + 5)) 55 rfl ?_
      simp only [Act.put, setIfInBounds_toArray, set_cons_zero, set_cons_succ]
      refine tlP (v := .pointer (some ⟨g, i * 7, none⟩)) 56 (hr := by go_simp; try rfl) rfl ?_
      simp only [Act.put, setIfInBounds_toArray, set_cons_zero, set_cons_succ]
      refine tlP (v := .pointer (some ⟨g, i * 7 + 5, none⟩)) 57 (hr := by go_simp; try rfl) rfl ?_
      simp only [Act.put, setIfInBounds_toArray, set_cons_zero, set_cons_succ]
      have hc_ : (w.setRow g c5_).cell? ⟨g, i * 7 + 5, none⟩ = some (c5_.getD (i * 7 + 5) undef) := mCell HG.out (by simp only [hz5_]; omega)
      have hf_ : (w.setRow g c5_).frozen? ⟨g, i * 7 + 5, none⟩ = false := mFrozen HG.out _
      refine mSkip (w2 := w.setRow g (c5_.setIfInBounds (i * 7 + 5) (.int .i64 (b + 5)))) rfl (by rw [← mSet]; go_simp; try rfl) ?_
      clear hc_ hf_
      obtain ⟨c6_, hc6_⟩ : ∃ x, x = c5_.setIfInBounds (i * 7 + 5) (.int .i64 (b + 5)) := ⟨_, rfl⟩
      have hz6_ : c6_.size = cur.size := by rw [hc6_, Array.size_setIfInBounds, hz5_]
      rw [← hc6_]; have HC6_ := Aside0.mk hc6_; clear hc6_
      refine tl0 ?_
      refine wp_seq ?_
      refine mReg [0, 1, 2] rfl rfl ?_
      refine tlP (v := .int .i64 (b + 5)) 58 rfl ?_
      simp only [Act.put, setIfInBounds_toArray, set_cons_zero, set_cons_succ]
      refine tlP (v := .int .i64 (b + 6)) 59 rfl ?_ (hr := run_arith (q := .add) (k := .i64) (m := b + 5) (n := 1) (r := b + 6) rfl rfl rfl (.inl ⟨rfl, by rw [show (b + 5 : Int) + 1 = b + 6 by omega]; exact i64_ok (n := b + 6) (by omega) (by omega)⟩))
      simp only [Act.put, setIfInBounds_toArray, set_cons_zero, set_cons_succ]
      refine tlP (v := .int .i64 (b + 6)) 1 rfl ?_
      simp only [Act.put, setIfInBounds_toArray, set_cons_zero, set_cons_succ]
      refine tl0 ?_
      refine wp_seq ?_
      refine mReg [0, 1, 2, 3, 4, 5] rfl rfl ?_
      refine tlP (v := .slice (some ⟨g, 0, none⟩) l.length c) 60 rfl ?_
      simp only [Act.put, setIfInBounds_toArray, set_cons_zero, set_cons_succ]
      refine tlP (v := .int .i64 ((i : Int))) 61 rfl ?_
      simp only [Act.put, setIfInBounds_toArray, set_cons_zero, set_cons_succ]
      refine tlP (v := .int .i64 (b + 6)) 62 rfl ?_
      simp only [Act.put, setIfInBounds_toArray, set_cons_zero, set_cons_succ]
      refine tlP (v := .pointer (some ⟨g, i * 7, none⟩)) 63 (hr := by go_simp; try rfl) rfl ?_
      simp only [Act.put, setIfInBounds_toArray, set_cons_zero, set_cons_succ]
      refine tlP (v := .pointer (some ⟨g, i * 7 + 6, none⟩)) 64 (hr := by go_simp; try rfl) rfl ?_
      simp only [Act.put, setIfInBounds_toArray, set_cons_zero, set_cons_succ]
      have hc_ : (w.setRow g c6_).cell? ⟨g, i * 7 + 6, none⟩ = some (c6_.getD (i * 7 + 6) undef) := mCell HG.out (by simp only [hz6_]; omega)
      have hf_ : (w.setRow g c6_).frozen? ⟨g, i * 7 + 6, none⟩ = false := mFrozen HG.out _
      refine mSkip (w2 := w.setRow g (c6_.setIfInBounds (i * 7 + 6) (.int .i64 (b + 6)))) rfl (by rw [← mSet]; go_simp; try rfl) ?_
      clear hc_ hf_
      obtain ⟨c7_, hc7_⟩ : ∃ x, x = c6_.setIfInBounds (i * 7 + 6) (.int .i64 (b + 6)) := ⟨_, rfl⟩
      have hz7_ : c7_.size = cur.size := by rw [hc7_, Array.size_setIfInBounds, hz6_]
      rw [← hc7_]; have HC7_ := Aside0.mk hc7_; clear hc7_
      refine tl0 ?_
      refine mReg [0, 1, 2] rfl rfl ?_
      refine tlP (v := .int .i64 (b + 6)) 65 rfl ?_
      simp only [Act.put, setIfInBounds_toArray, set_cons_zero, set_cons_succ]
      refine tlP (v := .int .i64 (b + 7)) 66 rfl ?_ (hr := run_arith (q := .add) (k := .i64) (m := b + 6) (n := 1) (r := b + 7) rfl rfl rfl (.inl ⟨rfl, by rw [show (b + 6 : Int) + 1 = b + 7 by omega]; exact i64_ok (n := b + 7) (by omega) (by omega)⟩))
      simp only [Act.put, setIfInBounds_toArray, set_cons_zero, set_cons_succ]
      refine tlP (v := .int .i64 (b + 7)) 1 rfl ?_
      simp only [Act.put, setIfInBounds_toArray, set_cons_zero, set_cons_succ]
      refine tlE ?_
      show Exit.inBlock _ _ _ _ _
      simp only [Exit.inBlock]
      refine thN ?_
      refine mReg [0, 1, 2] rfl rfl ?_
      refine tlP (v := .int .i64 ((i : Int))) 10 rfl ?_
      simp only [Act.put, setIfInBounds_toArray, set_cons_zero, set_cons_succ]
      refine tlP (v := .int .i64 ((i : Int) + 1)) 11 rfl ?_ (hr := run_arith (q := .add) (k := .i64) (m := (i : Int)) (n := 1) (r := (i : Int) + 1) rfl rfl rfl (.inl ⟨rfl, i64_ok (n := (i : Int) + 1) (by omega) (by omega)⟩))
      simp only [Act.put, setIfInBounds_toArray, set_cons_zero, set_cons_succ]
      refine tlP (v := .int .i64 ((i : Int) + 1)) 5 rfl ?_
      simp only [Act.put, setIfInBounds_toArray, set_cons_zero, set_cons_succ]
      refine tlE ?_
      go_wp2
      go_roundg k1
      case measure => have := HK.out; omega
      case rel => exact ⟨i + 1, c7_, by rw [HBB.out]; congr 1; push_cast; omega, by congr 1, ⟨by have := HK.out; omega, by omega⟩, ⟨hz7_⟩, ⟨marks_round flat_markLoanS.len (markL) a l i hi HC.out (by rw [hz0_]; exact hsz) (by rw [HC7_.out, HC6_.out, HC5_.out, HC4_.out, HC3_.out, HC2_.out, HC1_.out, HBB.out]; rfl)⟩, ⟨rfl⟩⟩
    · have hkk := HK.out
      by_cases hge : i = l.length
      · subst hge
        have HW2 := HW.out; subst HW2
        go_wp2
        go_ret
        exact ⟨by first | rfl | simp, ci, HZ.out, by simpa using HC.out, rfl⟩
      · exfalso; omega
set_option maxHeartbeats 1600000 in
set_option maxRecDepth 100000 in
theorem laws_markLoanS_nil (A : Option Addr) (c : Nat) (a : Int) (w : World) : Calls Try.prog 39 #[.slice A 0 c, .int .i64 a] w fun e w' => e = .returned (.int .i64 a) ∧ w' = w := by
  go_enter Try.func39, Try.ntmps39
  go_wp2
  go_loopg [1, 5] 1 (fun kq v1 v5 w' => v1 = .int .i64 a ∧ v5 = .int .i64 (0 : Int) ∧ w' = w)
  case atStart => exact ⟨rfl, rfl, rfl⟩
  case round =>
    obtain ⟨rfl, rfl, rfl⟩ := hrel
    go_wp2
    go_ret
    exact ⟨rfl, rfl⟩
def laws_markLoanS.f (l : List SimplLoan) (a : Int) : Option (Int × List SimplLoan) := if 0 ≤ a ∧ a + 7 * l.length ≤ 4611686018427387904 then some (a + 7 * l.length, marksG (markL) 7 a l.length) else none
theorem laws_markLoanS.calls (P_ : Nat → Prop) (u : Value) (l : List SimplLoan) (a : Int) (r1 : Int) (r2 : List SimplLoan) (w0 w : World) (hB : Below w0.heap.size w0 w) (ho : Kd.R kimplLoan 30 w w0.heap.size P_ u l) (h : laws_markLoanS.f l a = some (r1, r2)) :
    Calls Try.prog 39 #[u, .int .i64 a] w fun e w' => e = .returned (.int .i64 r1) ∧ Kd.R kimplLoan 30 w' w0.heap.size P_ u r2 ∧ Below w0.heap.size w0 w' ∧ Kept w w' P_ := by
  unfold laws_markLoanS.f at h
  split at h
  next hh =>
    obtain ⟨rfl, rfl⟩ : a + 7 * l.length = r1 ∧ marksG (markL) 7 a l.length = r2 := by simpa using h
    by_cases hl : 0 < l.length
    · obtain ⟨g, cap, cur, hv, hP, hg, hsz, htk, hge, hback⟩ := R_blk flat_markLoanS ho hl
      subst hv
      refine (laws_markLoanS_loop g cap l a cur w hg htk hsz hh.1 hh.2).mono ?_
      rintro e w' ⟨rfl, cur', hs', ht', hw'⟩
      exact ⟨rfl, marks_fin flat_markLoanS hB ho rfl hg hP hge hback hs' ht' hw'⟩
    · obtain rfl : l = [] := List.eq_nil_of_length_eq_zero (by omega)
      obtain ⟨A, c, rfl⟩ := Kd.R_slice ho
      refine (laws_markLoanS_nil A c a w).mono ?_
      rintro e w' ⟨rfl, rfl⟩
      exact ⟨by simp, ho, hB, Kept.refl _ _⟩
  next => cases h
end Go.Proofs.Ytpbboooeahmgpaa.P


namespace Go.Proofs.Ytpbboooeahmgpaa.P
open Go.RowKit Go.Proofs.YtpbboooeahmgpaaW.PrintWords Go.Proofs.YtpbboooeahmgpaaW.PrintLast Go.Proofs.YtpbboooeahmgpaaW.PrintMore
attribute [local go_sem] max2_int min2_int max_two min_two max_three min_three max_four min_four   -- for this text's walks alone
set_option linter.unusedVariables false
set_option linter.unusedSimpArgs false

/-! ### impl_Loan_held: function 94 -/
def impl_Loan_held.f (a0_0 : Int) (a0_1 : Int) (a0_2 : Int) (a0_3 : Int) (a0_4 : Bool) (a0_5 : Int) (a0_6 : Int) (a1 : Int) : Option (Bool) := if a0_5 ≤ a1 then (some (decide (a1 < a0_6))) else (some false)
set_option maxHeartbeats 8000000 in
set_option maxRecDepth 100000 in
theorem impl_Loan_held.calls (a0_0 : Int) (a0_1 : Int) (a0_2 : Int) (a0_3 : Int) (a0_4 : Bool) (a0_5 : Int) (a0_6 : Int) (a1 : Int) (r : Bool) (w : World) (h : impl_Loan_held.f a0_0 a0_1 a0_2 a0_3 a0_4 a0_5 a0_6 a1 = some r) :
    Calls Try.prog 94 #[.agg #[.int .i64 a0_0, .int .i64 a0_1, .int .i64 a0_2, .int .i64 a0_3, .bool a0_4, .int .i64 a0_5, .int .i64 a0_6], .int .i64 a1] w fun e w' => e = .returned (.bool r) ∧ Below w.heap.size w w' := by
  have hu30 := Try.underlying30
  have HB := Aside0.mk (Below.refl w.heap.size w)
  have H : (if a0_5 ≤ a1 then (some (decide (a1 < a0_6))) else (some false)) = some r := h
  clear h
  by_cases c3 : a0_5 ≤ a1
  · rw [if_pos c3] at H
    have c3b0 : decide (a0_5 ≤ a1) = true := decide_eq_true c3
    clear c3
    obtain rfl := Option.some.inj H
    go_enter Try.func94, Try.ntmps94
    go_wp2_with (first | ((with_reducible refine gate_dst (N := 2) rfl ?_); refine box_event ?hg (N := 2) ?hd (cs := #[.int .i64 a0_0, .int .i64 a0_1, .int .i64 a0_2, .int .i64 a0_3, .bool a0_4, .int .i64 a0_5, .int .i64 a0_6]) (t := 30) ?hr ?_; (case hd => rfl); (case hg => rfl); (case hr => first | (go_simp; done) | (go_simp; rfl)); intro gb701 hg w4 hbox hb; have n0_ := Aside0.mk (below_step (by repeat (first | (with_reducible first | exact HB.out | apply below_alloc | apply pw_below_drewN | apply below_drew1) | exact HB.out)) hb); have n1_ := Aside0.mk (hbox); have n2_ := Aside0.mk ((by rw [hg]; exact (below_size (by repeat (first | (with_reducible first | exact HB.out | apply below_alloc | apply pw_below_drewN | apply below_drew1) | exact HB.out))) : w.heap.size ≤ gb701)); have n3_ := Aside0.mk ((by rw [hg]; exact (below_size (by repeat (first | (with_reducible first | exact HB.out | apply below_alloc | apply pw_below_drewN | apply below_drew1) | exact HB.out))) : w.heap.size ≤ gb701)); clear HB; have HB := n0_; have BK701 := n1_; have GW701 := n2_; have GE701 := n3_; clear n0_ n1_ n2_ n3_; clear hb hbox hg; have hcz5_0 : w4.cell? ⟨gb701, 0, none⟩ = some (.int .i64 a0_0) := (blk_cell BK701.out 0).trans rfl; have hcz5_1 : w4.cell? ⟨gb701, 1, none⟩ = some (.int .i64 a0_1) := (blk_cell BK701.out 1).trans rfl; have hcz5_2 : w4.cell? ⟨gb701, 2, none⟩ = some (.int .i64 a0_2) := (blk_cell BK701.out 2).trans rfl; have hcz5_3 : w4.cell? ⟨gb701, 3, none⟩ = some (.int .i64 a0_3) := (blk_cell BK701.out 3).trans rfl; have hcz5_4 : w4.cell? ⟨gb701, 4, none⟩ = some (.bool a0_4) := (blk_cell BK701.out 4).trans rfl; have hcz5_5 : w4.cell? ⟨gb701, 5, none⟩ = some (.int .i64 a0_5) := (blk_cell BK701.out 5).trans rfl; have hcz5_6 : w4.cell? ⟨gb701, 6, none⟩ = some (.int .i64 a0_6) := (blk_cell BK701.out 6).trans rfl; have hfz5_0 := blk_frozen BK701.out 0; have hfz5_1 := blk_frozen BK701.out 1; have hfz5_2 := blk_frozen BK701.out 2; have hfz5_3 := blk_frozen BK701.out 3; have hfz5_4 := blk_frozen BK701.out 4; have hfz5_5 := blk_frozen BK701.out 5; have hfz5_6 := blk_frozen BK701.out 6))
    go_ret
    exact ⟨by first | rfl | (simp [errW_none, errW_some] <;> rfl) | (simp [*, errW_none, errW_some] <;> rfl), by repeat (first | (with_reducible first | exact HB.out | apply below_alloc | apply pw_below_drewN | apply below_drew1 | refine below_set ?_ GE701.out) | exact HB.out)⟩
  · rw [if_neg c3] at H
    have c3b0 : decide (a0_5 ≤ a1) = false := decide_eq_false c3
    clear c3
    obtain rfl := Option.some.inj H
    go_enter Try.func94, Try.ntmps94
    go_wp2_with (first | ((with_reducible refine gate_dst (N := 2) rfl ?_); refine box_event ?hg (N := 2) ?hd (cs := #[.int .i64 a0_0, .int .i64 a0_1, .int .i64 a0_2, .int .i64 a0_3, .bool a0_4, .int .i64 a0_5, .int .i64 a0_6]) (t := 30) ?hr ?_; (case hd => rfl); (case hg => rfl); (case hr => first | (go_simp; done) | (go_simp; rfl)); intro gb701 hg w6 hbox hb; have n0_ := Aside0.mk (below_step (by repeat (first | (with_reducible first | exact HB.out | apply below_alloc | apply pw_below_drewN | apply below_drew1) | exact HB.out)) hb); have n1_ := Aside0.mk (hbox); have n2_ := Aside0.mk ((by rw [hg]; exact (below_size (by repeat (first | (with_reducible first | exact HB.out | apply below_alloc | apply pw_below_drewN | apply below_drew1) | exact HB.out))) : w.heap.size ≤ gb701)); have n3_ := Aside0.mk ((by rw [hg]; exact (below_size (by repeat (first | (with_reducible first | exact HB.out | apply below_alloc | apply pw_below_drewN | apply below_drew1) | exact HB.out))) : w.heap.size ≤ gb701)); clear HB; have HB := n0_; have BK701 := n1_; have GW701 := n2_; have GE701 := n3_; clear n0_ n1_ n2_ n3_; clear hb hbox hg; have hcz7_0 : w6.cell? ⟨gb701, 0, none⟩ = some (.int .i64 a0_0) := (blk_cell BK701.out 0).trans rfl; have hcz7_1 : w6.cell? ⟨gb701, 1, none⟩ = some (.int .i64 a0_1) := (blk_cell BK701.out 1).trans rfl; have hcz7_2 : w6.cell? ⟨gb701, 2, none⟩ = some (.int .i64 a0_2) := (blk_cell BK701.out 2).trans rfl; have hcz7_3 : w6.cell? ⟨gb701, 3, none⟩ = some (.int .i64 a0_3) := (blk_cell BK701.out 3).trans rfl; have hcz7_4 : w6.cell? ⟨gb701, 4, none⟩ = some (.bool a0_4) := (blk_cell BK701.out 4).trans rfl; have hcz7_5 : w6.cell? ⟨gb701, 5, none⟩ = some (.int .i64 a0_5) := (blk_cell BK701.out 5).trans rfl; have hcz7_6 : w6.cell? ⟨gb701, 6, none⟩ = some (.int .i64 a0_6) := (blk_cell BK701.out 6).trans rfl; have hfz7_0 := blk_frozen BK701.out 0; have hfz7_1 := blk_frozen BK701.out 1; have hfz7_2 := blk_frozen BK701.out 2; have hfz7_3 := blk_frozen BK701.out 3; have hfz7_4 := blk_frozen BK701.out 4; have hfz7_5 := blk_frozen BK701.out 5; have hfz7_6 := blk_frozen BK701.out 6))
    go_ret
    exact ⟨by first | rfl | (simp [errW_none, errW_some] <;> rfl) | (simp [*, errW_none, errW_some] <;> rfl), by repeat (first | (with_reducible first | exact HB.out | apply below_alloc | apply pw_below_drewN | apply below_drew1 | refine below_set ?_ GE701.out) | exact HB.out)⟩

end Go.Proofs.Ytpbboooeahmgpaa.P


namespace Go.Proofs.Ytpbboooeahmgpaa.P
open Go.RowKit Go.Proofs.YtpbboooeahmgpaaW.PrintWords Go.Proofs.YtpbboooeahmgpaaW.PrintLast Go.Proofs.YtpbboooeahmgpaaW.PrintMore
attribute [local go_sem] max2_int min2_int max_two min_two max_three min_three max_four min_four   -- for this text's walks alone
set_option linter.unusedVariables false
set_option linter.unusedSimpArgs false

/-! ### impl_HeldAt: function 36 -/
mutual
def impl_HeldAt.j0 : Nat → List (SimplLoan) → Int → Bool → Option (List Int × Bool)
  | 0, _, _, _ => none
  | k + 1, x1, x2, x19 => if x19 = true then (some (([] : List Int), false)) else (impl_HeldAt.l0 k x2 (([] : List Int)) x1 (x1.length : Int) 0)
def impl_HeldAt.l0 : Nat → Int → List Int → List (SimplLoan) → Int → Int → Option (List Int × Bool)
  | 0, _, _, _, _, _ => none
  | k + 1, x2, x8, x21, x22, x23 => if x23 < x22 then (if 0 ≤ x23 then (if x23 < (x21.length : Int) then ((impl_Loan_held.f ((rd_TimplLoan x21 x23).f0.f0) ((rd_TimplLoan x21 x23).f0.f1) ((rd_TimplLoan x21 x23).f0.f2) ((rd_TimplLoan x21 x23).f0.f3) ((rd_TimplLoan x21 x23).f1) ((rd_TimplLoan x21 x23).f2) ((rd_TimplLoan x21 x23).f3) x2).bind fun t710 => (if t710 = true then (if x8.length < 17592186044416 then (impl_HeldAt.l0 k x2 (x8 ++ [x23]) x21 x22 (wrap64 (x23 + 1))) else (none)) else (impl_HeldAt.l0 k x2 x8 x21 x22 (wrap64 (x23 + 1))))) else (none)) else (none)) else (some (x8, true))
end
def impl_HeldAt.f (k : Nat) (l0_0 : List (List Int)) (l1 : List (SimplLoan)) (a2 : Int) : Option (List Int × Bool) := (impl_areLoans.f l0_0 l1).bind fun t703 => (if t703 = true then ((impl_isTime.f a2).bind fun t704 => (impl_HeldAt.j0 k l1 a2 (!t704))) else (impl_HeldAt.j0 k l1 a2 true))
set_option maxHeartbeats 8000000 in
set_option maxRecDepth 100000 in
theorem impl_HeldAt.calls (k : Nat) (A0_0 : Option Addr) (c0_0 : Nat) (l0_0 : List (List Int)) (A1 : Option Addr) (c1 : Nat) (l1 : List (SimplLoan)) (a2 : Int) (r1 : List Int) (r2 : Bool) (w : World) (hr0_0 : Kd.C (Kd.slice 5 (Kd.int .u8)) w A0_0 l0_0.length l0_0) (hc0_0 : l0_0.length ≤ c0_0) (hr1 : Kd.C kimplLoan w A1 l1.length l1) (hc1 : l1.length ≤ c1) (h : impl_HeldAt.f k l0_0 l1 a2 = some (r1, r2)) :
    Calls Try.prog 36 #[.agg #[.slice A0_0 l0_0.length c0_0], .slice A1 l1.length c1, .int .i64 a2] w fun e w' => ∃ v0_ : Value, e = .returned (.tuple #[v0_, .bool r2]) ∧ Kd.R (Kd.int .i64) 3 w' w.heap.size (fun _ => True) v0_ r1 ∧ Below w.heap.size w w' := by
  have hu26 := Try.underlying26
  have hu30 := Try.underlying30
  have HR0_0 := Aside0.mk hr0_0
  have HC0_0 := Aside0.mk hc0_0
  clear hr0_0 hc0_0
  have HR1 := Aside0.mk hr1
  have HC1 := Aside0.mk hc1
  clear hr1 hc1
  have HB := Aside0.mk (Below.refl w.heap.size w)
  have H : ((impl_areLoans.f l0_0 l1).bind fun t703 => (if t703 = true then ((impl_isTime.f a2).bind fun t704 => (impl_HeldAt.j0 k l1 a2 (!t704))) else (impl_HeldAt.j0 k l1 a2 true))) = some (r1, r2) := h
  clear h
  have HC4 := Aside0.mk H
  clear H
  go_enter Try.func36, Try.ntmps36
  go_upto_region 1 with (first | ((with_reducible refine gate_dst (N := 3) rfl ?_); refine box_event ?hg (N := 3) ?hd (cs := #[.slice A0_0 l0_0.length c0_0]) (t := 26) ?hr ?_; (case hd => rfl); (case hg => rfl); (case hr => first | (go_simp; done) | (go_simp; rfl)); intro gb702 hg w5 hbox hb; have n0_ := Aside0.mk (below_step (by repeat (first | (with_reducible first | exact HB.out | apply below_alloc | apply pw_below_drewN | apply below_drew1) | exact HB.out)) hb); have n1_ := Aside0.mk (hbox); have n2_ := Aside0.mk ((by rw [hg]; exact (below_size (by repeat (first | (with_reducible first | exact HB.out | apply below_alloc | apply pw_below_drewN | apply below_drew1) | exact HB.out))) : w.heap.size ≤ gb702)); have n3_ := Aside0.mk ((by rw [hg]; exact (below_size (by repeat (first | (with_reducible first | exact HB.out | apply below_alloc | apply pw_below_drewN | apply below_drew1) | exact HB.out))) : w.heap.size ≤ gb702)); clear HB; have HB := n0_; have BK702 := n1_; have GW702 := n2_; have GE702 := n3_; clear n0_ n1_ n2_ n3_; clear hb hbox hg))
  (try simp only [Act.put, List.setIfInBounds_toArray, List.set_cons_zero, List.set_cons_succ])
  go_cut [19] (fun v19 wc => ∃ (kq : Nat) (x19_3 : Bool), v19 = .bool x19_3 ∧ Aside0 (impl_HeldAt.j0 kq l1 a2 x19_3 = some (r1, r2)) ∧ Aside0 (kq ≤ k) ∧ Aside0 (wc.heap[gb702]? = some (.cells #[(.slice A0_0 l0_0.length c0_0)] 26 (0, 0))) ∧ Aside0 (Below w.heap.size w wc))
  case first =>
    have H := HC4.out
    clear HC4
    replace H := Option.bind_eq_some_iff.mp H
    obtain ⟨t703, A60, H⟩ := H
    replace H : (if t703 = true then ((impl_isTime.f a2).bind fun t704 => (impl_HeldAt.j0 k l1 a2 (!t704))) else (impl_HeldAt.j0 k l1 a2 true)) = some (r1, r2) := H
    have A6 := Aside0.mk A60
    clear A60
    by_cases c7 : t703 = true
    · subst c7
      have H1 : ((impl_isTime.f a2).bind fun t704 => (impl_HeldAt.j0 k l1 a2 (!t704))) = some (r1, r2) := by rw [if_pos rfl] at H; exact H
      clear H
      have H := H1
      clear H1
      replace H := Option.bind_eq_some_iff.mp H
      obtain ⟨t704, A80, H⟩ := H
      replace H : (impl_HeldAt.j0 k l1 a2 (!t704)) = some (r1, r2) := H
      have A8 := Aside0.mk A80
      clear A80
      have H' := Aside0.mk H
      clear H
      have hcz9_0 : w5.cell? ⟨gb702, 0, none⟩ = some (.slice A0_0 l0_0.length c0_0) := (blk_cell BK702.out 0).trans rfl
      have hfz9_0 := blk_frozen BK702.out 0
      go_wp2_with (first | ((with_reducible refine gate_callee (f := 76) rfl ?_); refine goesL_ (some 13) rfl rfl Try.func76 (by kernel_rfl) rfl #[.agg #[.slice A0_0 l0_0.length c0_0], .slice A1 l1.length c1] rfl (by (try simp only [List.map_toArray, List.map_cons, List.map_nil]); first | done | rfl | (simp only [List.length_drop, List.length_take]; rfl)) ?_; (with_reducible refine (impl_areLoans.calls _ _ l0_0 _ _ l1 true _ ?side1 ?side2 ?side3 ?side4 A6.out).mono ?_); (case side1 => repeat (first | exact (Kd.C_below HR0_0.out HB.out) | (with_reducible refine Kd.C_alloc ?_ _) | (with_reducible refine Kd.C_drewN ?_ _) | (with_reducible refine Kd.C_drew ?_))); (case side2 => exact HC0_0.out); (case side3 => repeat (first | exact (Kd.C_below HR1.out HB.out) | (with_reducible refine Kd.C_alloc ?_ _) | (with_reducible refine Kd.C_drewN ?_ _) | (with_reducible refine Kd.C_drew ?_))); (case side4 => exact HC1.out); rintro e w10 ⟨rfl, hb⟩; refine ⟨_, rfl, ?_⟩; have n0_ := Aside0.mk (blk_below (g := gb702) (o := .cells #[.slice A0_0 l0_0.length c0_0] 26 (0, 0)) (by (with_reducible repeat (first | refine blk_drewN ?_ _ | refine blk_drew ?_ | refine blk_alloc ?_ _)); exact BK702.out) hb); have n1_ := Aside0.mk (below_step (by repeat (first | (with_reducible first | exact HB.out | apply below_alloc | apply pw_below_drewN | apply below_drew1 | refine below_set ?_ GE702.out) | exact HB.out)) hb); clear BK702; clear HB; have BK702 := n0_; have HB := n1_; clear n0_ n1_; (try clear hb); (try clear hb2); (try clear hk); (try clear hi)) | (go_at_call 93; (with_reducible refine (impl_isTime.calls a2 t704 _ A8.out).mono ?_); rintro e w' ⟨rfl, ⟨nd, rfl⟩⟩))
      go_meet
      case rel => exact ⟨_, (!t704), (by first | rfl | (simp; done) | (simp [*]; done)), H', ⟨by first | omega | exact Nat.le_refl _⟩, ⟨by (with_reducible repeat (first | refine blk_drewN ?_ _ | refine blk_drew ?_ | refine blk_alloc ?_ _)); exact BK702.out⟩, ⟨by repeat (first | (with_reducible first | exact HB.out | apply below_alloc | apply pw_below_drewN | apply below_drew1 | refine below_set ?_ GE702.out) | exact HB.out)⟩⟩
    · replace c7 := Bool.eq_false_iff.mpr c7
      subst c7
      have H1 : (impl_HeldAt.j0 k l1 a2 true) = some (r1, r2) := by rw [if_neg (show ¬ (false = true) by decide)] at H; exact H
      clear H
      have H := H1
      clear H1
      have H' := Aside0.mk H
      clear H
      have hcz11_0 : w5.cell? ⟨gb702, 0, none⟩ = some (.slice A0_0 l0_0.length c0_0) := (blk_cell BK702.out 0).trans rfl
      have hfz11_0 := blk_frozen BK702.out 0
      go_wp2_with (first | ((with_reducible refine gate_callee (f := 76) rfl ?_); refine goesL_ (some 13) rfl rfl Try.func76 (by kernel_rfl) rfl #[.agg #[.slice A0_0 l0_0.length c0_0], .slice A1 l1.length c1] rfl (by (try simp only [List.map_toArray, List.map_cons, List.map_nil]); first | done | rfl | (simp only [List.length_drop, List.length_take]; rfl)) ?_; (with_reducible refine (impl_areLoans.calls _ _ l0_0 _ _ l1 false _ ?side1 ?side2 ?side3 ?side4 A6.out).mono ?_); (case side1 => repeat (first | exact (Kd.C_below HR0_0.out HB.out) | (with_reducible refine Kd.C_alloc ?_ _) | (with_reducible refine Kd.C_drewN ?_ _) | (with_reducible refine Kd.C_drew ?_))); (case side2 => exact HC0_0.out); (case side3 => repeat (first | exact (Kd.C_below HR1.out HB.out) | (with_reducible refine Kd.C_alloc ?_ _) | (with_reducible refine Kd.C_drewN ?_ _) | (with_reducible refine Kd.C_drew ?_))); (case side4 => exact HC1.out); rintro e w12 ⟨rfl, hb⟩; refine ⟨_, rfl, ?_⟩; have n0_ := Aside0.mk (blk_below (g := gb702) (o := .cells #[.slice A0_0 l0_0.length c0_0] 26 (0, 0)) (by (with_reducible repeat (first | refine blk_drewN ?_ _ | refine blk_drew ?_ | refine blk_alloc ?_ _)); exact BK702.out) hb); have n1_ := Aside0.mk (below_step (by repeat (first | (with_reducible first | exact HB.out | apply below_alloc | apply pw_below_drewN | apply below_drew1 | refine below_set ?_ GE702.out) | exact HB.out)) hb); clear BK702; clear HB; have BK702 := n0_; have HB := n1_; clear n0_ n1_; (try clear hb); (try clear hb2); (try clear hk); (try clear hi)))
      go_meet
      case rel => exact ⟨_, (true), (by first | rfl | (simp; done) | (simp [*]; done)), H', ⟨by first | omega | exact Nat.le_refl _⟩, ⟨by (with_reducible repeat (first | refine blk_drewN ?_ _ | refine blk_drew ?_ | refine blk_alloc ?_ _)); exact BK702.out⟩, ⟨by repeat (first | (with_reducible first | exact HB.out | apply below_alloc | apply pw_below_drewN | apply below_drew1 | refine below_set ?_ GE702.out) | exact HB.out)⟩⟩
  case rest =>
    clear HC4
    try clear c1
    try clear p2
    try clear c3
    try clear c7
    try clear hcz11_0
    try clear hcz9_0
    try clear hfz11_0
    try clear hfz9_0
    obtain ⟨kq, x19_3, rfl, HA, HJ3, BK702, HB⟩ := hcut
    cases kq with
    | zero => exact absurd HA.out (by simp [impl_HeldAt.j0])
    | succ kj3 =>
      have H := HA.out
      clear HA
      simp only [impl_HeldAt.j0] at H
      by_cases c13 : x19_3 = true
      · subst c13
        have H1 : (some (([] : List Int), false)) = some (r1, r2) := by rw [if_pos rfl] at H; exact H
        clear H
        have H := H1
        clear H1
        simp only [Option.some.injEq, Prod.mk.injEq] at H
        obtain ⟨rfl, rfl⟩ := H
        go_wp2
        go_ret2
        exact ⟨_, by first | rfl | (simp [errW_none, errW_some] <;> rfl) | (simp [*, errW_none, errW_some] <;> rfl), by first | exact Kd.R_nil _ _ _ _ _ | exact Kd.N_nil _ _ _ _ _ | exact Kd.V_nil _ _ _ _ _ | exact Kd.Q_nil _ _ _ _ _ | exact Kd.S_nil _ _ _ _ _, by repeat (first | (with_reducible first | exact HB.out | apply below_alloc | apply pw_below_drewN | apply below_drew1 | refine below_set ?_ GE702.out) | exact HB.out)⟩
      · replace c13 := Bool.eq_false_iff.mpr c13
        subst c13
        have H1 : (impl_HeldAt.l0 kj3 a2 (([] : List Int)) l1 (l1.length : Int) 0) = some (r1, r2) := by rw [if_neg (show ¬ (false = true) by decide)] at H; exact H
        clear H
        have H := H1
        clear H1
        obtain ⟨y705, hy705⟩ : ∃ y_ : List Int, y_ = (([] : List Int)) := ⟨_, rfl⟩
        replace H : (impl_HeldAt.l0 kj3 a2 y705 l1 (l1.length : Int) 0) = some (r1, r2) := by first | (rw [hy705]; with_reducible exact H) | (have H2_ := (Option.bind_some _ _).symm.trans H; rw [hy705]; with_reducible exact H2_) | (have H2_ := (Option.bind_some _ _).symm.trans H; with_reducible exact H2_) | with_reducible exact H | (rw [hy705]; exact H) | exact H
        have Ny705 := Aside0.mk hy705
        clear hy705
        have H' := Aside0.mk H
        clear H
        go_wp2_with (first | ((with_reducible refine gate_dst (N := 20) rfl ?_); refine Kd.R_lit (Kd.int .i64) _ 3 ?hg (N := 20) ?hd (xs := ([] : List Int)) (inner := []) (ok := fun _ => True) (okp := fun _ => True) ?hr ?hp (fun _ hk => hk) trivial (Below.refl _ _) (Nat.le_refl _) (by simp) ?_; (case hd => rfl); (case hg => rfl); (case hr => first | (go_simp; done) | (go_simp; rfl)); (case hp => exact (Reps.none _ _)); intro v706 w14 ho15 hb hg_ hnew_; clear hg_ hnew_; (first | rw [← Ny705.out] at ho15 | (simp only [Int.reduceToNat] at ho15; rw [← Ny705.out] at ho15)); have n0_ := Aside0.mk (Kd.R_lower ho15 (below_size (by repeat (first | (with_reducible first | exact HB.out | apply below_alloc | apply pw_below_drewN | apply below_drew1 | refine below_set ?_ GE702.out) | exact HB.out)))); have n1_ := Aside0.mk (blk_below (g := gb702) (o := .cells #[.slice A0_0 l0_0.length c0_0] 26 (0, 0)) (by (with_reducible repeat (first | refine blk_drewN ?_ _ | refine blk_drew ?_ | refine blk_alloc ?_ _)); exact BK702.out) hb); have n2_ := Aside0.mk (below_step (by repeat (first | (with_reducible first | exact HB.out | apply below_alloc | apply pw_below_drewN | apply below_drew1 | refine below_set ?_ GE702.out) | exact HB.out)) hb); clear BK702; clear HB; have HO707 := n0_; have BK702 := n1_; have HB := n2_; clear n0_ n1_ n2_; clear hb ho15))
        go_loopg [8, 23] kj3 (fun kq v8 v23 w' => ∃ (x8_2 : List Int) (x23_2 : Int), v23 = .int .i64 x23_2 ∧ Aside0 (impl_HeldAt.l0 kq a2 x8_2 l1 (l1.length : Int) x23_2 = some (r1, r2)) ∧ Aside0 (kq ≤ kj3) ∧ Aside0 (Kd.R (Kd.int .i64) 3 w' w.heap.size (fun _ => True) v8 x8_2) ∧ Aside0 (w'.heap[gb702]? = some (.cells #[(.slice A0_0 l0_0.length c0_0)] 26 (0, 0))) ∧ Aside0 (Below w.heap.size w w'))
        case atStart => exact ⟨(y705), (0), (by first | rfl | (simp; done) | (simp [*]; done)), H', ⟨Nat.le_refl _⟩, ⟨by (with_reducible repeat (first | apply Kd.R_alloc | apply Kd.R_drewN | apply Kd.R_drew)); exact HO707.out⟩, ⟨by (with_reducible repeat (first | refine blk_drewN ?_ _ | refine blk_drew ?_ | refine blk_alloc ?_ _)); exact BK702.out⟩, ⟨by repeat (first | (with_reducible first | exact HB.out | apply below_alloc | apply pw_below_drewN | apply below_drew1 | refine below_set ?_ GE702.out) | exact HB.out)⟩⟩
        case round =>
          clear H'
          try clear c1
          try clear p2
          try clear c3
          try clear c7
          try clear c13
          try clear hcz11_0
          try clear hcz9_0
          try clear hfz11_0
          try clear hfz9_0
          try clear p2
          obtain ⟨x8_2, x23_2, rfl, HA, HK2, HO_8, BK702, HB⟩ := hrel
          cases gk with
          | zero => exact absurd HA.out (by simp [impl_HeldAt.l0])
          | succ k2 =>
            have H := HA.out
            clear HA
            simp only [impl_HeldAt.l0] at H
            by_cases c16 : x23_2 < (l1.length : Int)
            · rw [if_pos c16] at H
              have c16b0 : decide (x23_2 < (l1.length : Int)) = true := decide_eq_true c16
              clear c16
              by_cases c17 : 0 ≤ x23_2
              · rw [if_pos c17] at H
                have c17b0 : decide (0 ≤ x23_2) = true := decide_eq_true c17
                clear c17
                by_cases c18 : x23_2 < (l1.length : Int)
                · rw [if_pos c18] at H
                  have c18b0 : decide (x23_2 < (l1.length : Int)) = true := decide_eq_true c18
                  clear c18
                  replace H := Option.bind_eq_some_iff.mp H
                  obtain ⟨t710, A190, H⟩ := H
                  replace H : (if t710 = true then (if x8_2.length < 17592186044416 then (impl_HeldAt.l0 k2 a2 (x8_2 ++ [x23_2]) l1 (l1.length : Int) (wrap64 (x23_2 + 1))) else (none)) else (impl_HeldAt.l0 k2 a2 x8_2 l1 (l1.length : Int) (wrap64 (x23_2 + 1)))) = some (r1, r2) := H
                  have A19 := Aside0.mk A190
                  clear A190
                  by_cases c20 : t710 = true
                  · subst c20
                    have H1 : (if x8_2.length < 17592186044416 then (impl_HeldAt.l0 k2 a2 (x8_2 ++ [x23_2]) l1 (l1.length : Int) (wrap64 (x23_2 + 1))) else (none)) = some (r1, r2) := by rw [if_pos rfl] at H; exact H
                    clear H
                    have H := H1
                    clear H1
                    by_cases c21 : x8_2.length < 17592186044416
                    · rw [if_pos c21] at H
                      have LMc21 := Aside0.mk c21
                      clear c21
                      obtain ⟨y711, hy711⟩ : ∃ y_ : List Int, y_ = (x8_2 ++ [x23_2]) := ⟨_, rfl⟩
                      replace H : (impl_HeldAt.l0 k2 a2 y711 l1 (l1.length : Int) (wrap64 (x23_2 + 1))) = some (r1, r2) := by first | (rw [hy711]; with_reducible exact H) | (have H2_ := (Option.bind_some _ _).symm.trans H; rw [hy711]; with_reducible exact H2_) | (have H2_ := (Option.bind_some _ _).symm.trans H; with_reducible exact H2_) | with_reducible exact H | (rw [hy711]; exact H) | exact H
                      have Ny711 := Aside0.mk hy711
                      clear hy711
                      have H' := Aside0.mk H
                      clear H
                      have p708 : 0 ≤ (x23_2 : Int) := of_decide_eq_true (by first | (with_reducible assumption) | assumption)
                      have q708 : x23_2 < (l1.length : Int) := of_decide_eq_true (by first | (with_reducible assumption) | assumption)
                      obtain ⟨ad708, e708, hx708_0, hx708_1, hx708_2, hx708_3, hx708_4, hx708_5, hx708_6⟩ := at_TimplLoan HR1.out x23_2 p708 q708
                      cases e708
                      replace hx708_0 := (HB.out.cell (World.block_lt_of_cell? w _ hx708_0)).trans hx708_0
                      replace hx708_1 := (HB.out.cell (World.block_lt_of_cell? w _ hx708_1)).trans hx708_1
                      replace hx708_2 := (HB.out.cell (World.block_lt_of_cell? w _ hx708_2)).trans hx708_2
                      replace hx708_3 := (HB.out.cell (World.block_lt_of_cell? w _ hx708_3)).trans hx708_3
                      replace hx708_4 := (HB.out.cell (World.block_lt_of_cell? w _ hx708_4)).trans hx708_4
                      replace hx708_5 := (HB.out.cell (World.block_lt_of_cell? w _ hx708_5)).trans hx708_5
                      replace hx708_6 := (HB.out.cell (World.block_lt_of_cell? w _ hx708_6)).trans hx708_6
                      replace p708 := eq_true p708
                      replace q708 := eq_true q708
                      go_wp2_with (first | ((with_reducible refine gate_dst (N := 10) rfl ?_); refine box_event ?hg (N := 10) ?hd (cs := #[.int .i64 0, .int .i64 0, .int .i64 0, .int .i64 0, .bool false, .int .i64 0, .int .i64 0]) (t := 30) ?hr ?_; (case hd => rfl); (case hg => rfl); (case hr => first | (go_simp; done) | (go_simp; rfl)); intro gb709 hg w22 hbox hb; have n0_ := Aside0.mk (Kd.R_below (by (with_reducible repeat (first | apply Kd.R_alloc | apply Kd.R_drewN | apply Kd.R_drew)); exact HO_8.out) hb); have n1_ := Aside0.mk (blk_below (g := gb702) (o := .cells #[.slice A0_0 l0_0.length c0_0] 26 (0, 0)) (by (with_reducible repeat (first | refine blk_drewN ?_ _ | refine blk_drew ?_ | refine blk_alloc ?_ _)); exact BK702.out) hb); have n2_ := Aside0.mk (below_step (by repeat (first | (with_reducible first | exact HB.out | apply below_alloc | apply pw_below_drewN | apply below_drew1 | refine below_set ?_ GE702.out) | exact HB.out)) hb); have n3_ := Aside0.mk (hbox); have n4_ := Aside0.mk ((by rw [hg]; exact (below_size (by repeat (first | (with_reducible first | exact HB.out | apply below_alloc | apply pw_below_drewN | apply below_drew1 | refine below_set ?_ GE702.out) | exact HB.out))) : w.heap.size ≤ gb709)); have n5_ := Aside0.mk ((by rw [hg]; exact (below_size (by repeat (first | (with_reducible first | exact HB.out | apply below_alloc | apply pw_below_drewN | apply below_drew1 | refine below_set ?_ GE702.out) | exact HB.out))) : w.heap.size ≤ gb709)); have n6_ := Aside0.mk ((by rw [hg]; exact Nat.ne_of_lt (blk_lt (g := gb702) (o := .cells #[.slice A0_0 l0_0.length c0_0] 26 (0, 0)) (by (with_reducible repeat (first | refine blk_drewN ?_ _ | refine blk_drew ?_ | refine blk_alloc ?_ _)); exact BK702.out)) : gb702 ≠ gb709)); have n7_ := Aside0.mk ((by rw [hg]; exact Nat.ne_of_gt (blk_lt (g := gb702) (o := .cells #[.slice A0_0 l0_0.length c0_0] 26 (0, 0)) (by (with_reducible repeat (first | refine blk_drewN ?_ _ | refine blk_drew ?_ | refine blk_alloc ?_ _)); exact BK702.out)) : gb709 ≠ gb702)); clear HO_8; clear BK702; clear HB; have HO_8 := n0_; have BK702 := n1_; have HB := n2_; have BK709 := n3_; have GW709 := n4_; have GE709 := n5_; have NB702_709 := n6_; have NB709_702 := n7_; clear n0_ n1_ n2_ n3_ n4_ n5_ n6_ n7_; clear hb hbox hg; have hnb23 := NB709_702.out; have hnc23 := NB702_709.out; have hcz24_0 : w22.cell? ⟨gb709, 0, none⟩ = some (.int .i64 0) := (blk_cell BK709.out 0).trans rfl; have hcz24_1 : w22.cell? ⟨gb709, 1, none⟩ = some (.int .i64 0) := (blk_cell BK709.out 1).trans rfl; have hcz24_2 : w22.cell? ⟨gb709, 2, none⟩ = some (.int .i64 0) := (blk_cell BK709.out 2).trans rfl; have hcz24_3 : w22.cell? ⟨gb709, 3, none⟩ = some (.int .i64 0) := (blk_cell BK709.out 3).trans rfl; have hcz24_4 : w22.cell? ⟨gb709, 4, none⟩ = some (.bool false) := (blk_cell BK709.out 4).trans rfl; have hcz24_5 : w22.cell? ⟨gb709, 5, none⟩ = some (.int .i64 0) := (blk_cell BK709.out 5).trans rfl; have hcz24_6 : w22.cell? ⟨gb709, 6, none⟩ = some (.int .i64 0) := (blk_cell BK709.out 6).trans rfl; have hfz24_0 := blk_frozen BK709.out 0; have hfz24_1 := blk_frozen BK709.out 1; have hfz24_2 := blk_frozen BK709.out 2; have hfz24_3 := blk_frozen BK709.out 3; have hfz24_4 := blk_frozen BK709.out 4; have hfz24_5 := blk_frozen BK709.out 5; have hfz24_6 := blk_frozen BK709.out 6) | ((with_reducible refine gate_callee (f := 94) rfl ?_); refine goesL_ (some 30) rfl rfl Try.func94 (by kernel_rfl) rfl #[.agg #[.int .i64 ((rd_TimplLoan l1 x23_2).f0.f0), .int .i64 ((rd_TimplLoan l1 x23_2).f0.f1), .int .i64 ((rd_TimplLoan l1 x23_2).f0.f2), .int .i64 ((rd_TimplLoan l1 x23_2).f0.f3), .bool ((rd_TimplLoan l1 x23_2).f1), .int .i64 ((rd_TimplLoan l1 x23_2).f2), .int .i64 ((rd_TimplLoan l1 x23_2).f3)], .int .i64 a2] rfl (by (try simp only [List.map_toArray, List.map_cons, List.map_nil]); first | done | rfl | (simp only [List.length_drop, List.length_take]; rfl)) ?_; (with_reducible refine (impl_Loan_held.calls ((rd_TimplLoan l1 x23_2).f0.f0) ((rd_TimplLoan l1 x23_2).f0.f1) ((rd_TimplLoan l1 x23_2).f0.f2) ((rd_TimplLoan l1 x23_2).f0.f3) ((rd_TimplLoan l1 x23_2).f1) ((rd_TimplLoan l1 x23_2).f2) ((rd_TimplLoan l1 x23_2).f3) a2 true _ A19.out).mono ?_); rintro e w25 ⟨rfl, hb⟩; refine ⟨_, rfl, ?_⟩; have n0_ := Aside0.mk (Kd.R_below (by (with_reducible repeat (first | apply Kd.R_alloc | apply Kd.R_drewN | apply Kd.R_drew)); exact (Kd.R_mono (Kd.R_far (p := ⟨gb709, 6, none⟩) (Kd.R_far (p := ⟨gb709, 5, none⟩) (Kd.R_far (p := ⟨gb709, 4, none⟩) (Kd.R_far (p := ⟨gb709, 3, none⟩) (Kd.R_far (p := ⟨gb709, 2, none⟩) (Kd.R_far (p := ⟨gb709, 1, none⟩) (Kd.R_far (p := ⟨gb709, 0, none⟩) (Kd.R_types HO_8.out BK709.out (by decide)) (fun _ hk => hk.2) (.int .i64 ((rd_TimplLoan l1 x23_2).f0.f0))) (fun _ hk => hk.2) (.int .i64 ((rd_TimplLoan l1 x23_2).f0.f1))) (fun _ hk => hk.2) (.int .i64 ((rd_TimplLoan l1 x23_2).f0.f2))) (fun _ hk => hk.2) (.int .i64 ((rd_TimplLoan l1 x23_2).f0.f3))) (fun _ hk => hk.2) (.bool ((rd_TimplLoan l1 x23_2).f1))) (fun _ hk => hk.2) (.int .i64 ((rd_TimplLoan l1 x23_2).f2))) (fun _ hk => hk.2) (.int .i64 ((rd_TimplLoan l1 x23_2).f3))) (fun _ h_ => h_.1))) hb); have n1_ := Aside0.mk (blk_below (g := gb702) (o := .cells #[.slice A0_0 l0_0.length c0_0] 26 (0, 0)) (by (with_reducible repeat (first | refine blk_drewN ?_ _ | refine blk_drew ?_ | refine blk_alloc ?_ _)); refine blk_far ?_ NB702_709.out _; (with_reducible repeat (first | refine blk_drewN ?_ _ | refine blk_drew ?_ | refine blk_alloc ?_ _)); refine blk_far ?_ NB702_709.out _; (with_reducible repeat (first | refine blk_drewN ?_ _ | refine blk_drew ?_ | refine blk_alloc ?_ _)); refine blk_far ?_ NB702_709.out _; (with_reducible repeat (first | refine blk_drewN ?_ _ | refine blk_drew ?_ | refine blk_alloc ?_ _)); refine blk_far ?_ NB702_709.out _; (with_reducible repeat (first | refine blk_drewN ?_ _ | refine blk_drew ?_ | refine blk_alloc ?_ _)); refine blk_far ?_ NB702_709.out _; (with_reducible repeat (first | refine blk_drewN ?_ _ | refine blk_drew ?_ | refine blk_alloc ?_ _)); refine blk_far ?_ NB702_709.out _; (with_reducible repeat (first | refine blk_drewN ?_ _ | refine blk_drew ?_ | refine blk_alloc ?_ _)); refine blk_far ?_ NB702_709.out _; (with_reducible repeat (first | refine blk_drewN ?_ _ | refine blk_drew ?_ | refine blk_alloc ?_ _)); exact BK702.out) hb); have n2_ := Aside0.mk (blk_below (g := gb709) (o := .cells #[.int .i64 ((rd_TimplLoan l1 x23_2).f0.f0), .int .i64 ((rd_TimplLoan l1 x23_2).f0.f1), .int .i64 ((rd_TimplLoan l1 x23_2).f0.f2), .int .i64 ((rd_TimplLoan l1 x23_2).f0.f3), .bool ((rd_TimplLoan l1 x23_2).f1), .int .i64 ((rd_TimplLoan l1 x23_2).f2), .int .i64 ((rd_TimplLoan l1 x23_2).f3)] 30 (0, 0)) (by (with_reducible repeat (first | refine blk_drewN ?_ _ | refine blk_drew ?_ | refine blk_alloc ?_ _)); refine blk_put (cs := #[.int .i64 ((rd_TimplLoan l1 x23_2).f0.f0), .int .i64 ((rd_TimplLoan l1 x23_2).f0.f1), .int .i64 ((rd_TimplLoan l1 x23_2).f0.f2), .int .i64 ((rd_TimplLoan l1 x23_2).f0.f3), .bool ((rd_TimplLoan l1 x23_2).f1), .int .i64 ((rd_TimplLoan l1 x23_2).f2), .int .i64 0]) ?_ 6 _ rfl; (with_reducible repeat (first | refine blk_drewN ?_ _ | refine blk_drew ?_ | refine blk_alloc ?_ _)); refine blk_put (cs := #[.int .i64 ((rd_TimplLoan l1 x23_2).f0.f0), .int .i64 ((rd_TimplLoan l1 x23_2).f0.f1), .int .i64 ((rd_TimplLoan l1 x23_2).f0.f2), .int .i64 ((rd_TimplLoan l1 x23_2).f0.f3), .bool ((rd_TimplLoan l1 x23_2).f1), .int .i64 0, .int .i64 0]) ?_ 5 _ rfl; (with_reducible repeat (first | refine blk_drewN ?_ _ | refine blk_drew ?_ | refine blk_alloc ?_ _)); refine blk_put (cs := #[.int .i64 ((rd_TimplLoan l1 x23_2).f0.f0), .int .i64 ((rd_TimplLoan l1 x23_2).f0.f1), .int .i64 ((rd_TimplLoan l1 x23_2).f0.f2), .int .i64 ((rd_TimplLoan l1 x23_2).f0.f3), .bool false, .int .i64 0, .int .i64 0]) ?_ 4 _ rfl; (with_reducible repeat (first | refine blk_drewN ?_ _ | refine blk_drew ?_ | refine blk_alloc ?_ _)); refine blk_put (cs := #[.int .i64 ((rd_TimplLoan l1 x23_2).f0.f0), .int .i64 ((rd_TimplLoan l1 x23_2).f0.f1), .int .i64 ((rd_TimplLoan l1 x23_2).f0.f2), .int .i64 0, .bool false, .int .i64 0, .int .i64 0]) ?_ 3 _ rfl; (with_reducible repeat (first | refine blk_drewN ?_ _ | refine blk_drew ?_ | refine blk_alloc ?_ _)); refine blk_put (cs := #[.int .i64 ((rd_TimplLoan l1 x23_2).f0.f0), .int .i64 ((rd_TimplLoan l1 x23_2).f0.f1), .int .i64 0, .int .i64 0, .bool false, .int .i64 0, .int .i64 0]) ?_ 2 _ rfl; (with_reducible repeat (first | refine blk_drewN ?_ _ | refine blk_drew ?_ | refine blk_alloc ?_ _)); refine blk_put (cs := #[.int .i64 ((rd_TimplLoan l1 x23_2).f0.f0), .int .i64 0, .int .i64 0, .int .i64 0, .bool false, .int .i64 0, .int .i64 0]) ?_ 1 _ rfl; (with_reducible repeat (first | refine blk_drewN ?_ _ | refine blk_drew ?_ | refine blk_alloc ?_ _)); refine blk_put (cs := #[.int .i64 0, .int .i64 0, .int .i64 0, .int .i64 0, .bool false, .int .i64 0, .int .i64 0]) ?_ 0 _ rfl; (with_reducible repeat (first | refine blk_drewN ?_ _ | refine blk_drew ?_ | refine blk_alloc ?_ _)); exact BK709.out) hb); have n3_ := Aside0.mk (below_step (by repeat (first | (with_reducible first | exact HB.out | apply below_alloc | apply pw_below_drewN | apply below_drew1 | refine below_set ?_ GE702.out | refine below_set ?_ GE709.out) | exact HB.out)) hb); clear HO_8; clear BK702; clear BK709; clear HB; have HO_8 := n0_; have BK702 := n1_; have BK709 := n2_; have HB := n3_; clear n0_ n1_ n2_ n3_; (try clear hb); (try clear hb2); (try clear hk); (try clear hi)) | ((with_reducible refine gate_builtin (b := .append) (xs := #[.tmp 31, .tmp 33]) rfl ?_); at_builtin; refine Kd.R_append (Kd.int .i64) (w0 := w) w.heap.size rfl (.tmp 31) (.tmp 33) 66 3 (.int .i64 0) 8 rfl Try.underlying66 info3 rfl (by decide) (by omega) u8 x8_2 x23_2 [.int .i64 x23_2] (fun _ => True) (fun _ => False) rfl rfl ?aP (fun _ hk => hk.elim) ?aF ?aO ?aB ?aS ?aL ?_; (case aP => exact rfl); (case aB => exact (by repeat (first | (with_reducible first | exact HB.out | apply below_alloc | apply pw_below_drewN | apply below_drew1 | refine below_set ?_ GE702.out | refine below_set ?_ GE709.out) | exact HB.out))); (case aF => exact (fun _ _ => trivial)); (case aO => exact (by (with_reducible repeat (first | apply Kd.R_alloc | apply Kd.R_drewN | apply Kd.R_drew)); exact HO_8.out)); (case aS => exact (below_size (by repeat (first | (with_reducible first | exact HB.out | apply below_alloc | apply pw_below_drewN | apply below_drew1 | refine below_set ?_ GE702.out | refine below_set ?_ GE709.out) | exact HB.out)))); (case aL => have := LMc21.out; omega); intro v712 w26 ho hb hg hat; rw [← Ny711.out] at ho; have n0_ := Aside0.mk (blk_grown (g := gb702) (o := .cells #[.slice A0_0 l0_0.length c0_0] 26 (0, 0)) (by (with_reducible repeat (first | refine blk_drewN ?_ _ | refine blk_drew ?_ | refine blk_alloc ?_ _)); exact BK702.out) hg (Kd.R_ne HO_8.out BK702.out (by decide))); have n1_ := Aside0.mk (blk_grown (g := gb709) (o := .cells #[.int .i64 ((rd_TimplLoan l1 x23_2).f0.f0), .int .i64 ((rd_TimplLoan l1 x23_2).f0.f1), .int .i64 ((rd_TimplLoan l1 x23_2).f0.f2), .int .i64 ((rd_TimplLoan l1 x23_2).f0.f3), .bool ((rd_TimplLoan l1 x23_2).f1), .int .i64 ((rd_TimplLoan l1 x23_2).f2), .int .i64 ((rd_TimplLoan l1 x23_2).f3)] 30 (0, 0)) (by (with_reducible repeat (first | refine blk_drewN ?_ _ | refine blk_drew ?_ | refine blk_alloc ?_ _)); exact BK709.out) hg (Kd.R_ne HO_8.out BK709.out (by decide))); have n2_ := Aside0.mk (hb); have n3_ := Aside0.mk (ho); clear BK702; clear BK709; clear HB; clear HO_8; have BK702 := n0_; have BK709 := n1_; have HB := n2_; have HO713 := n3_; clear n0_ n1_ n2_ n3_; clear ho hb hg hat))
                      go_roundg k2
                      case measure => have := HJ3.out; have := HK2.out; omega
                      case rel => exact ⟨(y711), (wrap64 (x23_2 + 1)), (by first | rfl | (simp; done) | (simp [*]; done)), H', ⟨by have := HJ3.out; have := HK2.out; omega⟩, ⟨by (with_reducible repeat (first | apply Kd.R_alloc | apply Kd.R_drewN | apply Kd.R_drew)); exact HO713.out⟩, ⟨by (with_reducible repeat (first | refine blk_drewN ?_ _ | refine blk_drew ?_ | refine blk_alloc ?_ _)); exact BK702.out⟩, ⟨by repeat (first | (with_reducible first | exact HB.out | apply below_alloc | apply pw_below_drewN | apply below_drew1 | refine below_set ?_ GE702.out | refine below_set ?_ GE709.out) | exact HB.out)⟩⟩
                    · rw [if_neg c21] at H
                      exact absurd H (by simp)
                  · replace c20 := Bool.eq_false_iff.mpr c20
                    subst c20
                    have H1 : (impl_HeldAt.l0 k2 a2 x8_2 l1 (l1.length : Int) (wrap64 (x23_2 + 1))) = some (r1, r2) := by rw [if_neg (show ¬ (false = true) by decide)] at H; exact H
                    clear H
                    have H := H1
                    clear H1
                    have H' := Aside0.mk H
                    clear H
                    have p708 : 0 ≤ (x23_2 : Int) := of_decide_eq_true (by first | (with_reducible assumption) | assumption)
                    have q708 : x23_2 < (l1.length : Int) := of_decide_eq_true (by first | (with_reducible assumption) | assumption)
                    obtain ⟨ad708, e708, hx708_0, hx708_1, hx708_2, hx708_3, hx708_4, hx708_5, hx708_6⟩ := at_TimplLoan HR1.out x23_2 p708 q708
                    cases e708
                    replace hx708_0 := (HB.out.cell (World.block_lt_of_cell? w _ hx708_0)).trans hx708_0
                    replace hx708_1 := (HB.out.cell (World.block_lt_of_cell? w _ hx708_1)).trans hx708_1
                    replace hx708_2 := (HB.out.cell (World.block_lt_of_cell? w _ hx708_2)).trans hx708_2
                    replace hx708_3 := (HB.out.cell (World.block_lt_of_cell? w _ hx708_3)).trans hx708_3
                    replace hx708_4 := (HB.out.cell (World.block_lt_of_cell? w _ hx708_4)).trans hx708_4
                    replace hx708_5 := (HB.out.cell (World.block_lt_of_cell? w _ hx708_5)).trans hx708_5
                    replace hx708_6 := (HB.out.cell (World.block_lt_of_cell? w _ hx708_6)).trans hx708_6
                    replace p708 := eq_true p708
                    replace q708 := eq_true q708
                    go_wp2_with (first | ((with_reducible refine gate_dst (N := 10) rfl ?_); refine box_event ?hg (N := 10) ?hd (cs := #[.int .i64 0, .int .i64 0, .int .i64 0, .int .i64 0, .bool false, .int .i64 0, .int .i64 0]) (t := 30) ?hr ?_; (case hd => rfl); (case hg => rfl); (case hr => first | (go_simp; done) | (go_simp; rfl)); intro gb709 hg w27 hbox hb; have n0_ := Aside0.mk (Kd.R_below (by (with_reducible repeat (first | apply Kd.R_alloc | apply Kd.R_drewN | apply Kd.R_drew)); exact HO_8.out) hb); have n1_ := Aside0.mk (blk_below (g := gb702) (o := .cells #[.slice A0_0 l0_0.length c0_0] 26 (0, 0)) (by (with_reducible repeat (first | refine blk_drewN ?_ _ | refine blk_drew ?_ | refine blk_alloc ?_ _)); exact BK702.out) hb); have n2_ := Aside0.mk (below_step (by repeat (first | (with_reducible first | exact HB.out | apply below_alloc | apply pw_below_drewN | apply below_drew1 | refine below_set ?_ GE702.out) | exact HB.out)) hb); have n3_ := Aside0.mk (hbox); have n4_ := Aside0.mk ((by rw [hg]; exact (below_size (by repeat (first | (with_reducible first | exact HB.out | apply below_alloc | apply pw_below_drewN | apply below_drew1 | refine below_set ?_ GE702.out) | exact HB.out))) : w.heap.size ≤ gb709)); have n5_ := Aside0.mk ((by rw [hg]; exact (below_size (by repeat (first | (with_reducible first | exact HB.out | apply below_alloc | apply pw_below_drewN | apply below_drew1 | refine below_set ?_ GE702.out) | exact HB.out))) : w.heap.size ≤ gb709)); have n6_ := Aside0.mk ((by rw [hg]; exact Nat.ne_of_lt (blk_lt (g := gb702) (o := .cells #[.slice A0_0 l0_0.length c0_0] 26 (0, 0)) (by (with_reducible repeat (first | refine blk_drewN ?_ _ | refine blk_drew ?_ | refine blk_alloc ?_ _)); exact BK702.out)) : gb702 ≠ gb709)); have n7_ := Aside0.mk ((by rw [hg]; exact Nat.ne_of_gt (blk_lt (g := gb702) (o := .cells #[.slice A0_0 l0_0.length c0_0] 26 (0, 0)) (by (with_reducible repeat (first | refine blk_drewN ?_ _ | refine blk_drew ?_ | refine blk_alloc ?_ _)); exact BK702.out)) : gb709 ≠ gb702)); clear HO_8; clear BK702; clear HB; have HO_8 := n0_; have BK702 := n1_; have HB := n2_; have BK709 := n3_; have GW709 := n4_; have GE709 := n5_; have NB702_709 := n6_; have NB709_702 := n7_; clear n0_ n1_ n2_ n3_ n4_ n5_ n6_ n7_; clear hb hbox hg; have hnb28 := NB709_702.out; have hnc28 := NB702_709.out; have hcz29_0 : w27.cell? ⟨gb709, 0, none⟩ = some (.int .i64 0) := (blk_cell BK709.out 0).trans rfl; have hcz29_1 : w27.cell? ⟨gb709, 1, none⟩ = some (.int .i64 0) := (blk_cell BK709.out 1).trans rfl; have hcz29_2 : w27.cell? ⟨gb709, 2, none⟩ = some (.int .i64 0) := (blk_cell BK709.out 2).trans rfl; have hcz29_3 : w27.cell? ⟨gb709, 3, none⟩ = some (.int .i64 0) := (blk_cell BK709.out 3).trans rfl; have hcz29_4 : w27.cell? ⟨gb709, 4, none⟩ = some (.bool false) := (blk_cell BK709.out 4).trans rfl; have hcz29_5 : w27.cell? ⟨gb709, 5, none⟩ = some (.int .i64 0) := (blk_cell BK709.out 5).trans rfl; have hcz29_6 : w27.cell? ⟨gb709, 6, none⟩ = some (.int .i64 0) := (blk_cell BK709.out 6).trans rfl; have hfz29_0 := blk_frozen BK709.out 0; have hfz29_1 := blk_frozen BK709.out 1; have hfz29_2 := blk_frozen BK709.out 2; have hfz29_3 := blk_frozen BK709.out 3; have hfz29_4 := blk_frozen BK709.out 4; have hfz29_5 := blk_frozen BK709.out 5; have hfz29_6 := blk_frozen BK709.out 6) | ((with_reducible refine gate_callee (f := 94) rfl ?_); refine goesL_ (some 30) rfl rfl Try.func94 (by kernel_rfl) rfl #[.agg #[.int .i64 ((rd_TimplLoan l1 x23_2).f0.f0), .int .i64 ((rd_TimplLoan l1 x23_2).f0.f1), .int .i64 ((rd_TimplLoan l1 x23_2).f0.f2), .int .i64 ((rd_TimplLoan l1 x23_2).f0.f3), .bool ((rd_TimplLoan l1 x23_2).f1), .int .i64 ((rd_TimplLoan l1 x23_2).f2), .int .i64 ((rd_TimplLoan l1 x23_2).f3)], .int .i64 a2] rfl (by (try simp only [List.map_toArray, List.map_cons, List.map_nil]); first | done | rfl | (simp only [List.length_drop, List.length_take]; rfl)) ?_; (with_reducible refine (impl_Loan_held.calls ((rd_TimplLoan l1 x23_2).f0.f0) ((rd_TimplLoan l1 x23_2).f0.f1) ((rd_TimplLoan l1 x23_2).f0.f2) ((rd_TimplLoan l1 x23_2).f0.f3) ((rd_TimplLoan l1 x23_2).f1) ((rd_TimplLoan l1 x23_2).f2) ((rd_TimplLoan l1 x23_2).f3) a2 false _ A19.out).mono ?_); rintro e w30 ⟨rfl, hb⟩; refine ⟨_, rfl, ?_⟩; have n0_ := Aside0.mk (Kd.R_below (by (with_reducible repeat (first | apply Kd.R_alloc | apply Kd.R_drewN | apply Kd.R_drew)); exact (Kd.R_mono (Kd.R_far (p := ⟨gb709, 6, none⟩) (Kd.R_far (p := ⟨gb709, 5, none⟩) (Kd.R_far (p := ⟨gb709, 4, none⟩) (Kd.R_far (p := ⟨gb709, 3, none⟩) (Kd.R_far (p := ⟨gb709, 2, none⟩) (Kd.R_far (p := ⟨gb709, 1, none⟩) (Kd.R_far (p := ⟨gb709, 0, none⟩) (Kd.R_types HO_8.out BK709.out (by decide)) (fun _ hk => hk.2) (.int .i64 ((rd_TimplLoan l1 x23_2).f0.f0))) (fun _ hk => hk.2) (.int .i64 ((rd_TimplLoan l1 x23_2).f0.f1))) (fun _ hk => hk.2) (.int .i64 ((rd_TimplLoan l1 x23_2).f0.f2))) (fun _ hk => hk.2) (.int .i64 ((rd_TimplLoan l1 x23_2).f0.f3))) (fun _ hk => hk.2) (.bool ((rd_TimplLoan l1 x23_2).f1))) (fun _ hk => hk.2) (.int .i64 ((rd_TimplLoan l1 x23_2).f2))) (fun _ hk => hk.2) (.int .i64 ((rd_TimplLoan l1 x23_2).f3))) (fun _ h_ => h_.1))) hb); have n1_ := Aside0.mk (blk_below (g := gb702) (o := .cells #[.slice A0_0 l0_0.length c0_0] 26 (0, 0)) (by (with_reducible repeat (first | refine blk_drewN ?_ _ | refine blk_drew ?_ | refine blk_alloc ?_ _)); refine blk_far ?_ NB702_709.out _; (with_reducible repeat (first | refine blk_drewN ?_ _ | refine blk_drew ?_ | refine blk_alloc ?_ _)); refine blk_far ?_ NB702_709.out _; (with_reducible repeat (first | refine blk_drewN ?_ _ | refine blk_drew ?_ | refine blk_alloc ?_ _)); refine blk_far ?_ NB702_709.out _; (with_reducible repeat (first | refine blk_drewN ?_ _ | refine blk_drew ?_ | refine blk_alloc ?_ _)); refine blk_far ?_ NB702_709.out _; (with_reducible repeat (first | refine blk_drewN ?_ _ | refine blk_drew ?_ | refine blk_alloc ?_ _)); refine blk_far ?_ NB702_709.out _; (with_reducible repeat (first | refine blk_drewN ?_ _ | refine blk_drew ?_ | refine blk_alloc ?_ _)); refine blk_far ?_ NB702_709.out _; (with_reducible repeat (first | refine blk_drewN ?_ _ | refine blk_drew ?_ | refine blk_alloc ?_ _)); refine blk_far ?_ NB702_709.out _; (with_reducible repeat (first | refine blk_drewN ?_ _ | refine blk_drew ?_ | refine blk_alloc ?_ _)); exact BK702.out) hb); have n2_ := Aside0.mk (blk_below (g := gb709) (o := .cells #[.int .i64 ((rd_TimplLoan l1 x23_2).f0.f0), .int .i64 ((rd_TimplLoan l1 x23_2).f0.f1), .int .i64 ((rd_TimplLoan l1 x23_2).f0.f2), .int .i64 ((rd_TimplLoan l1 x23_2).f0.f3), .bool ((rd_TimplLoan l1 x23_2).f1), .int .i64 ((rd_TimplLoan l1 x23_2).f2), .int .i64 ((rd_TimplLoan l1 x23_2).f3)] 30 (0, 0)) (by (with_reducible repeat (first | refine blk_drewN ?_ _ | refine blk_drew ?_ | refine blk_alloc ?_ _)); refine blk_put (cs := #[.int .i64 ((rd_TimplLoan l1 x23_2).f0.f0), .int .i64 ((rd_TimplLoan l1 x23_2).f0.f1), .int .i64 ((rd_TimplLoan l1 x23_2).f0.f2), .int .i64 ((rd_TimplLoan l1 x23_2).f0.f3), .bool ((rd_TimplLoan l1 x23_2).f1), .int .i64 ((rd_TimplLoan l1 x23_2).f2), .int .i64 0]) ?_ 6 _ rfl; (with_reducible repeat (first | refine blk_drewN ?_ _ | refine blk_drew ?_ | refine blk_alloc ?_ _)); refine blk_put (cs := #[.int .i64 ((rd_TimplLoan l1 x23_2).f0.f0), .int .i64 ((rd_TimplLoan l1 x23_2).f0.f1), .int .i64 ((rd_TimplLoan l1 x23_2).f0.f2), .int .i64 ((rd_TimplLoan l1 x23_2).f0.f3), .bool ((rd_TimplLoan l1 x23_2).f1), .int .i64 0, .int .i64 0]) ?_ 5 _ rfl; (with_reducible repeat (first | refine blk_drewN ?_ _ | refine blk_drew ?_ | refine blk_alloc ?_ _)); refine blk_put (cs := #[.int .i64 ((rd_TimplLoan l1 x23_2).f0.f0), .int .i64 ((rd_TimplLoan l1 x23_2).f0.f1), .int .i64 ((rd_TimplLoan l1 x23_2).f0.f2), .int .i64 ((rd_TimplLoan l1 x23_2).f0.f3), .bool false, .int .i64 0, .int .i64 0]) ?_ 4 _ rfl; (with_reducible repeat (first | refine blk_drewN ?_ _ | refine blk_drew ?_ | refine blk_alloc ?_ _)); refine blk_put (cs := #[.int .i64 ((rd_TimplLoan l1 x23_2).f0.f0), .int .i64 ((rd_TimplLoan l1 x23_2).f0.f1), .int .i64 ((rd_TimplLoan l1 x23_2).f0.f2), .int .i64 0, .bool false, .int .i64 0, .int .i64 0]) ?_ 3 _ rfl; (with_reducible repeat (first | refine blk_drewN ?_ _ | refine blk_drew ?_ | refine blk_alloc ?_ _)); refine blk_put (cs := #[.int .i64 ((rd_TimplLoan l1 x23_2).f0.f0), .int .i64 ((rd_TimplLoan l1 x23_2).f0.f1), .int .i64 0, .int .i64 0, .bool false, .int .i64 0, .int .i64 0]) ?_ 2 _ rfl; (with_reducible repeat (first | refine blk_drewN ?_ _ | refine blk_drew ?_ | refine blk_alloc ?_ _)); refine blk_put (cs := #[.int .i64 ((rd_TimplLoan l1 x23_2).f0.f0), .int .i64 0, .int .i64 0, .int .i64 0, .bool false, .int .i64 0, .int .i64 0]) ?_ 1 _ rfl; (with_reducible repeat (first | refine blk_drewN ?_ _ | refine blk_drew ?_ | refine blk_alloc ?_ _)); refine blk_put (cs := #[.int .i64 0, .int .i64 0, .int .i64 0, .int .i64 0, .bool false, .int .i64 0, .int .i64 0]) ?_ 0 _ rfl; (with_reducible repeat (first | refine blk_drewN ?_ _ | refine blk_drew ?_ | refine blk_alloc ?_ _)); exact BK709.out) hb); have n3_ := Aside0.mk (below_step (by repeat (first | (with_reducible first | exact HB.out | apply below_alloc | apply pw_below_drewN | apply below_drew1 | refine below_set ?_ GE702.out | refine below_set ?_ GE709.out) | exact HB.out)) hb); clear HO_8; clear BK702; clear BK709; clear HB; have HO_8 := n0_; have BK702 := n1_; have BK709 := n2_; have HB := n3_; clear n0_ n1_ n2_ n3_; (try clear hb); (try clear hb2); (try clear hk); (try clear hi)))
                    go_roundg k2
                    case measure => have := HJ3.out; have := HK2.out; omega
                    case rel => exact ⟨(x8_2), (wrap64 (x23_2 + 1)), (by first | rfl | (simp; done) | (simp [*]; done)), H', ⟨by have := HJ3.out; have := HK2.out; omega⟩, ⟨by (with_reducible repeat (first | apply Kd.R_alloc | apply Kd.R_drewN | apply Kd.R_drew)); exact HO_8.out⟩, ⟨by (with_reducible repeat (first | refine blk_drewN ?_ _ | refine blk_drew ?_ | refine blk_alloc ?_ _)); exact BK702.out⟩, ⟨by repeat (first | (with_reducible first | exact HB.out | apply below_alloc | apply pw_below_drewN | apply below_drew1 | refine below_set ?_ GE702.out | refine below_set ?_ GE709.out) | exact HB.out)⟩⟩
                · rw [if_neg c18] at H
                  exact absurd H (by simp)
              · rw [if_neg c17] at H
                exact absurd H (by simp)
            · rw [if_neg c16] at H
              have c16b0 : decide (x23_2 < (l1.length : Int)) = false := decide_eq_false c16
              clear c16
              simp only [Option.some.injEq, Prod.mk.injEq] at H
              obtain ⟨rfl, rfl⟩ := H
              go_wp2
              go_ret2
              exact ⟨_, by first | rfl | (simp [errW_none, errW_some] <;> rfl) | (simp [*, errW_none, errW_some] <;> rfl), by (with_reducible repeat (first | apply Kd.R_alloc | apply Kd.R_drewN | apply Kd.R_drew)); exact HO_8.out, by repeat (first | (with_reducible first | exact HB.out | apply below_alloc | apply pw_below_drewN | apply below_drew1 | refine below_set ?_ GE702.out) | exact HB.out)⟩

end Go.Proofs.Ytpbboooeahmgpaa.P


namespace Go.Proofs.Ytpbboooeahmgpaa.P
open Go.RowKit Go.Proofs.YtpbboooeahmgpaaW.PrintWords Go.Proofs.YtpbboooeahmgpaaW.PrintLast Go.Proofs.YtpbboooeahmgpaaW.PrintMore
attribute [local go_sem] max2_int min2_int max_two min_two max_three min_three max_four min_four   -- for this text's walks alone
set_option linter.unusedVariables false
set_option linter.unusedSimpArgs false

/-! ### spec_l10Held: function 92 -/
def spec_l10Held.f (a0_0 : Int) (a0_1 : Int) (a0_2 : Int) (a0_3 : Int) (a0_4 : Bool) (a0_5 : Int) (a0_6 : Int) (a1 : Int) : Option (Bool) := if a1 ≥ a0_5 then (some (decide (a1 < a0_6))) else (some false)
set_option maxHeartbeats 8000000 in
set_option maxRecDepth 100000 in
theorem spec_l10Held.calls (a0_0 : Int) (a0_1 : Int) (a0_2 : Int) (a0_3 : Int) (a0_4 : Bool) (a0_5 : Int) (a0_6 : Int) (a1 : Int) (r : Bool) (w : World) (h : spec_l10Held.f a0_0 a0_1 a0_2 a0_3 a0_4 a0_5 a0_6 a1 = some r) :
    Calls Try.prog 92 #[.agg #[.int .i64 a0_0, .int .i64 a0_1, .int .i64 a0_2, .int .i64 a0_3, .bool a0_4, .int .i64 a0_5, .int .i64 a0_6], .int .i64 a1] w fun e w' => e = .returned (.bool r) ∧ Below w.heap.size w w' := by
  have hu30 := Try.underlying30
  have HB := Aside0.mk (Below.refl w.heap.size w)
  have H : (if a1 ≥ a0_5 then (some (decide (a1 < a0_6))) else (some false)) = some r := h
  clear h
  by_cases c3 : a1 ≥ a0_5
  · rw [if_pos c3] at H
    have c3b0 : decide (a0_5 ≤ a1) = true := decide_eq_true c3
    clear c3
    obtain rfl := Option.some.inj H
    go_enter Try.func92, Try.ntmps92
    go_wp2_with (first | ((with_reducible refine gate_dst (N := 2) rfl ?_); refine box_event ?hg (N := 2) ?hd (cs := #[.int .i64 a0_0, .int .i64 a0_1, .int .i64 a0_2, .int .i64 a0_3, .bool a0_4, .int .i64 a0_5, .int .i64 a0_6]) (t := 30) ?hr ?_; (case hd => rfl); (case hg => rfl); (case hr => first | (go_simp; done) | (go_simp; rfl)); intro gb689 hg w4 hbox hb; have n0_ := Aside0.mk (below_step (by repeat (first | (with_reducible first | exact HB.out | apply below_alloc | apply pw_below_drewN | apply below_drew1) | exact HB.out)) hb); have n1_ := Aside0.mk (hbox); have n2_ := Aside0.mk ((by rw [hg]; exact (below_size (by repeat (first | (with_reducible first | exact HB.out | apply below_alloc | apply pw_below_drewN | apply below_drew1) | exact HB.out))) : w.heap.size ≤ gb689)); have n3_ := Aside0.mk ((by rw [hg]; exact (below_size (by repeat (first | (with_reducible first | exact HB.out | apply below_alloc | apply pw_below_drewN | apply below_drew1) | exact HB.out))) : w.heap.size ≤ gb689)); clear HB; have HB := n0_; have BK689 := n1_; have GW689 := n2_; have GE689 := n3_; clear n0_ n1_ n2_ n3_; clear hb hbox hg; have hcz5_0 : w4.cell? ⟨gb689, 0, none⟩ = some (.int .i64 a0_0) := (blk_cell BK689.out 0).trans rfl; have hcz5_1 : w4.cell? ⟨gb689, 1, none⟩ = some (.int .i64 a0_1) := (blk_cell BK689.out 1).trans rfl; have hcz5_2 : w4.cell? ⟨gb689, 2, none⟩ = some (.int .i64 a0_2) := (blk_cell BK689.out 2).trans rfl; have hcz5_3 : w4.cell? ⟨gb689, 3, none⟩ = some (.int .i64 a0_3) := (blk_cell BK689.out 3).trans rfl; have hcz5_4 : w4.cell? ⟨gb689, 4, none⟩ = some (.bool a0_4) := (blk_cell BK689.out 4).trans rfl; have hcz5_5 : w4.cell? ⟨gb689, 5, none⟩ = some (.int .i64 a0_5) := (blk_cell BK689.out 5).trans rfl; have hcz5_6 : w4.cell? ⟨gb689, 6, none⟩ = some (.int .i64 a0_6) := (blk_cell BK689.out 6).trans rfl; have hfz5_0 := blk_frozen BK689.out 0; have hfz5_1 := blk_frozen BK689.out 1; have hfz5_2 := blk_frozen BK689.out 2; have hfz5_3 := blk_frozen BK689.out 3; have hfz5_4 := blk_frozen BK689.out 4; have hfz5_5 := blk_frozen BK689.out 5; have hfz5_6 := blk_frozen BK689.out 6))
    go_ret
    exact ⟨by first | rfl | (simp [errW_none, errW_some] <;> rfl) | (simp [*, errW_none, errW_some] <;> rfl), by repeat (first | (with_reducible first | exact HB.out | apply below_alloc | apply pw_below_drewN | apply below_drew1 | refine below_set ?_ GE689.out) | exact HB.out)⟩
  · rw [if_neg c3] at H
    have c3b0 : decide (a0_5 ≤ a1) = false := decide_eq_false c3
    clear c3
    obtain rfl := Option.some.inj H
    go_enter Try.func92, Try.ntmps92
    go_wp2_with (first | ((with_reducible refine gate_dst (N := 2) rfl ?_); refine box_event ?hg (N := 2) ?hd (cs := #[.int .i64 a0_0, .int .i64 a0_1, .int .i64 a0_2, .int .i64 a0_3, .bool a0_4, .int .i64 a0_5, .int .i64 a0_6]) (t := 30) ?hr ?_; (case hd => rfl); (case hg => rfl); (case hr => first | (go_simp; done) | (go_simp; rfl)); intro gb689 hg w6 hbox hb; have n0_ := Aside0.mk (below_step (by repeat (first | (with_reducible first | exact HB.out | apply below_alloc | apply pw_below_drewN | apply below_drew1) | exact HB.out)) hb); have n1_ := Aside0.mk (hbox); have n2_ := Aside0.mk ((by rw [hg]; exact (below_size (by repeat (first | (with_reducible first | exact HB.out | apply below_alloc | apply pw_below_drewN | apply below_drew1) | exact HB.out))) : w.heap.size ≤ gb689)); have n3_ := Aside0.mk ((by rw [hg]; exact (below_size (by repeat (first | (with_reducible first | exact HB.out | apply below_alloc | apply pw_below_drewN | apply below_drew1) | exact HB.out))) : w.heap.size ≤ gb689)); clear HB; have HB := n0_; have BK689 := n1_; have GW689 := n2_; have GE689 := n3_; clear n0_ n1_ n2_ n3_; clear hb hbox hg; have hcz7_0 : w6.cell? ⟨gb689, 0, none⟩ = some (.int .i64 a0_0) := (blk_cell BK689.out 0).trans rfl; have hcz7_1 : w6.cell? ⟨gb689, 1, none⟩ = some (.int .i64 a0_1) := (blk_cell BK689.out 1).trans rfl; have hcz7_2 : w6.cell? ⟨gb689, 2, none⟩ = some (.int .i64 a0_2) := (blk_cell BK689.out 2).trans rfl; have hcz7_3 : w6.cell? ⟨gb689, 3, none⟩ = some (.int .i64 a0_3) := (blk_cell BK689.out 3).trans rfl; have hcz7_4 : w6.cell? ⟨gb689, 4, none⟩ = some (.bool a0_4) := (blk_cell BK689.out 4).trans rfl; have hcz7_5 : w6.cell? ⟨gb689, 5, none⟩ = some (.int .i64 a0_5) := (blk_cell BK689.out 5).trans rfl; have hcz7_6 : w6.cell? ⟨gb689, 6, none⟩ = some (.int .i64 a0_6) := (blk_cell BK689.out 6).trans rfl; have hfz7_0 := blk_frozen BK689.out 0; have hfz7_1 := blk_frozen BK689.out 1; have hfz7_2 := blk_frozen BK689.out 2; have hfz7_3 := blk_frozen BK689.out 3; have hfz7_4 := blk_frozen BK689.out 4; have hfz7_5 := blk_frozen BK689.out 5; have hfz7_6 := blk_frozen BK689.out 6))
    go_ret
    exact ⟨by first | rfl | (simp [errW_none, errW_some] <;> rfl) | (simp [*, errW_none, errW_some] <;> rfl), by repeat (first | (with_reducible first | exact HB.out | apply below_alloc | apply pw_below_drewN | apply below_drew1 | refine below_set ?_ GE689.out) | exact HB.out)⟩

end Go.Proofs.Ytpbboooeahmgpaa.P


namespace Go.Proofs.Ytpbboooeahmgpaa.P
open Go.RowKit Go.Proofs.YtpbboooeahmgpaaW.PrintWords Go.Proofs.YtpbboooeahmgpaaW.PrintLast Go.Proofs.YtpbboooeahmgpaaW.PrintMore
attribute [local go_sem] max2_int min2_int max_two min_two max_three min_three max_four min_four   -- for this text's walks alone
set_option linter.unusedVariables false
set_option linter.unusedSimpArgs false

/-! ### spec_HeldAt: function 35 -/
mutual
def spec_HeldAt.j0 : Nat → List (SimplLoan) → Int → List Int → Bool → Option (List Int × Bool)
  | 0, _, _, _, _ => none
  | k + 1, x1, x2, x8, x19 => if x19 = true then (some (x8, false)) else (spec_HeldAt.l0 k x1 x2 x8 0)
def spec_HeldAt.l0 : Nat → List (SimplLoan) → Int → List Int → Int → Option (List Int × Bool)
  | 0, _, _, _, _ => none
  | k + 1, x1, x2, x8, x9 => if x9 < (x1.length : Int) then (if 0 ≤ x9 then ((spec_l10Held.f ((rd_TimplLoan x1 x9).f0.f0) ((rd_TimplLoan x1 x9).f0.f1) ((rd_TimplLoan x1 x9).f0.f2) ((rd_TimplLoan x1 x9).f0.f3) ((rd_TimplLoan x1 x9).f1) ((rd_TimplLoan x1 x9).f2) ((rd_TimplLoan x1 x9).f3) x2).bind fun t697 => (if t697 = true then (if x8.length < 17592186044416 then (spec_HeldAt.l0 k x1 x2 (x8 ++ [x9]) (wrap64 (x9 + 1))) else (none)) else (spec_HeldAt.l0 k x1 x2 x8 (wrap64 (x9 + 1))))) else (none)) else (some (x8, true))
end
def spec_HeldAt.f (k : Nat) (l0_0 : List (List Int)) (l1 : List (SimplLoan)) (a2 : Int) : Option (List Int × Bool) := (some (([] : List Int) : List Int)).bind fun y691 => ((spec_l10Loans.f k l0_0 l1).bind fun t694 => (if t694 = true then ((spec_l1In.f a2 0 60).bind fun t695 => (spec_HeldAt.j0 k l1 a2 y691 (!t695))) else (spec_HeldAt.j0 k l1 a2 y691 true)))
set_option maxHeartbeats 8000000 in
set_option maxRecDepth 100000 in
theorem spec_HeldAt.calls (k : Nat) (A0_0 : Option Addr) (c0_0 : Nat) (l0_0 : List (List Int)) (A1 : Option Addr) (c1 : Nat) (l1 : List (SimplLoan)) (a2 : Int) (r1 : List Int) (r2 : Bool) (w : World) (hr0_0 : Kd.C (Kd.slice 5 (Kd.int .u8)) w A0_0 l0_0.length l0_0) (hc0_0 : l0_0.length ≤ c0_0) (hr1 : Kd.C kimplLoan w A1 l1.length l1) (hc1 : l1.length ≤ c1) (h : spec_HeldAt.f k l0_0 l1 a2 = some (r1, r2)) :
    Calls Try.prog 35 #[.agg #[.slice A0_0 l0_0.length c0_0], .slice A1 l1.length c1, .int .i64 a2] w fun e w' => ∃ v0_ : Value, e = .returned (.tuple #[v0_, .bool r2]) ∧ Kd.R (Kd.int .i64) 3 w' w.heap.size (fun _ => True) v0_ r1 ∧ Below w.heap.size w w' := by
  have hu26 := Try.underlying26
  have hu30 := Try.underlying30
  have HR0_0 := Aside0.mk hr0_0
  have HC0_0 := Aside0.mk hc0_0
  clear hr0_0 hc0_0
  have HR1 := Aside0.mk hr1
  have HC1 := Aside0.mk hc1
  clear hr1 hc1
  have HB := Aside0.mk (Below.refl w.heap.size w)
  have H : ((some (([] : List Int) : List Int)).bind fun y691 => ((spec_l10Loans.f k l0_0 l1).bind fun t694 => (if t694 = true then ((spec_l1In.f a2 0 60).bind fun t695 => (spec_HeldAt.j0 k l1 a2 y691 (!t695))) else (spec_HeldAt.j0 k l1 a2 y691 true)))) = some (r1, r2) := h
  clear h
  obtain ⟨y691, hy691⟩ : ∃ y_ : List Int, y_ = (([] : List Int)) := ⟨_, rfl⟩
  replace H : ((spec_l10Loans.f k l0_0 l1).bind fun t694 => (if t694 = true then ((spec_l1In.f a2 0 60).bind fun t695 => (spec_HeldAt.j0 k l1 a2 y691 (!t695))) else (spec_HeldAt.j0 k l1 a2 y691 true))) = some (r1, r2) := by first | (rw [hy691]; with_reducible exact H) | (have H2_ := (Option.bind_some _ _).symm.trans H; rw [hy691]; with_reducible exact H2_) | (have H2_ := (Option.bind_some _ _).symm.trans H; with_reducible exact H2_) | with_reducible exact H | (rw [hy691]; exact H) | exact H
  have Ny691 := Aside0.mk hy691
  clear hy691
  have HC4 := Aside0.mk H
  clear H
  go_enter Try.func35, Try.ntmps35
  go_upto_region 2 with (first | ((with_reducible refine gate_dst (N := 3) rfl ?_); refine box_event ?hg (N := 3) ?hd (cs := #[.slice A0_0 l0_0.length c0_0]) (t := 26) ?hr ?_; (case hd => rfl); (case hg => rfl); (case hr => first | (go_simp; done) | (go_simp; rfl)); intro gb690 hg w5 hbox hb; have n0_ := Aside0.mk (below_step (by repeat (first | (with_reducible first | exact HB.out | apply below_alloc | apply pw_below_drewN | apply below_drew1) | exact HB.out)) hb); have n1_ := Aside0.mk (hbox); have n2_ := Aside0.mk ((by rw [hg]; exact (below_size (by repeat (first | (with_reducible first | exact HB.out | apply below_alloc | apply pw_below_drewN | apply below_drew1) | exact HB.out))) : w.heap.size ≤ gb690)); have n3_ := Aside0.mk ((by rw [hg]; exact (below_size (by repeat (first | (with_reducible first | exact HB.out | apply below_alloc | apply pw_below_drewN | apply below_drew1) | exact HB.out))) : w.heap.size ≤ gb690)); clear HB; have HB := n0_; have BK690 := n1_; have GW690 := n2_; have GE690 := n3_; clear n0_ n1_ n2_ n3_; clear hb hbox hg) | ((with_reducible refine gate_dst (N := 10) rfl ?_); refine Kd.R_lit (Kd.int .i64) _ 3 ?hg (N := 10) ?hd (xs := ([] : List Int)) (inner := []) (ok := fun _ => True) (okp := fun _ => True) ?hr ?hp (fun _ hk => hk) trivial (Below.refl _ _) (Nat.le_refl _) (by simp) ?_; (case hd => rfl); (case hg => rfl); (case hr => first | (go_simp; done) | (go_simp; rfl)); (case hp => exact (Reps.none _ _)); intro v692 w6 ho7 hb hg_ hnew_; clear hg_ hnew_; (first | rw [← Ny691.out] at ho7 | (simp only [Int.reduceToNat] at ho7; rw [← Ny691.out] at ho7)); have n0_ := Aside0.mk (Kd.R_lower ho7 (below_size (by repeat (first | (with_reducible first | exact HB.out | apply below_alloc | apply pw_below_drewN | apply below_drew1 | refine below_set ?_ GE690.out) | exact HB.out)))); have n1_ := Aside0.mk (blk_below (g := gb690) (o := .cells #[.slice A0_0 l0_0.length c0_0] 26 (0, 0)) (by (with_reducible repeat (first | refine blk_drewN ?_ _ | refine blk_drew ?_ | refine blk_alloc ?_ _)); exact BK690.out) hb); have n2_ := Aside0.mk (below_step (by repeat (first | (with_reducible first | exact HB.out | apply below_alloc | apply pw_below_drewN | apply below_drew1 | refine below_set ?_ GE690.out) | exact HB.out)) hb); clear BK690; clear HB; have HO693 := n0_; have BK690 := n1_; have HB := n2_; clear n0_ n1_ n2_; clear hb ho7))
  (try simp only [Act.put, List.setIfInBounds_toArray, List.set_cons_zero, List.set_cons_succ])
  go_cut [19] (fun v19 wc => ∃ (kq : Nat) (x19_3 : Bool), v19 = .bool x19_3 ∧ Aside0 (spec_HeldAt.j0 kq l1 a2 y691 x19_3 = some (r1, r2)) ∧ Aside0 (kq ≤ k) ∧ Aside0 (Kd.R (Kd.int .i64) 3 wc w.heap.size (fun _ => True) v692 y691) ∧ Aside0 (wc.heap[gb690]? = some (.cells #[(.slice A0_0 l0_0.length c0_0)] 26 (0, 0))) ∧ Aside0 (Below w.heap.size w wc))
  case first =>
    have H := HC4.out
    clear HC4
    replace H := Option.bind_eq_some_iff.mp H
    obtain ⟨t694, A80, H⟩ := H
    replace H : (if t694 = true then ((spec_l1In.f a2 0 60).bind fun t695 => (spec_HeldAt.j0 k l1 a2 y691 (!t695))) else (spec_HeldAt.j0 k l1 a2 y691 true)) = some (r1, r2) := H
    have A8 := Aside0.mk A80
    clear A80
    by_cases c9 : t694 = true
    · subst c9
      have H1 : ((spec_l1In.f a2 0 60).bind fun t695 => (spec_HeldAt.j0 k l1 a2 y691 (!t695))) = some (r1, r2) := by rw [if_pos rfl] at H; exact H
      clear H
      have H := H1
      clear H1
      replace H := Option.bind_eq_some_iff.mp H
      obtain ⟨t695, A100, H⟩ := H
      replace H : (spec_HeldAt.j0 k l1 a2 y691 (!t695)) = some (r1, r2) := H
      have A10 := Aside0.mk A100
      clear A100
      have H' := Aside0.mk H
      clear H
      have hcz11_0 : w6.cell? ⟨gb690, 0, none⟩ = some (.slice A0_0 l0_0.length c0_0) := (blk_cell BK690.out 0).trans rfl
      have hfz11_0 := blk_frozen BK690.out 0
      go_wp2_with (first | ((with_reducible refine gate_callee (f := 83) rfl ?_); refine goesL_ (some 13) rfl rfl Try.func83 (by kernel_rfl) rfl #[.agg #[.slice A0_0 l0_0.length c0_0], .slice A1 l1.length c1] rfl (by (try simp only [List.map_toArray, List.map_cons, List.map_nil]); first | done | rfl | (simp only [List.length_drop, List.length_take]; rfl)) ?_; (with_reducible refine (spec_l10Loans.calls k _ _ l0_0 _ _ l1 true _ ?side1 ?side2 ?side3 ?side4 A8.out).mono ?_); (case side1 => repeat (first | exact (Kd.C_below HR0_0.out HB.out) | (with_reducible refine Kd.C_alloc ?_ _) | (with_reducible refine Kd.C_drewN ?_ _) | (with_reducible refine Kd.C_drew ?_))); (case side2 => exact HC0_0.out); (case side3 => repeat (first | exact (Kd.C_below HR1.out HB.out) | (with_reducible refine Kd.C_alloc ?_ _) | (with_reducible refine Kd.C_drewN ?_ _) | (with_reducible refine Kd.C_drew ?_))); (case side4 => exact HC1.out); rintro e w12 ⟨rfl, hb⟩; refine ⟨_, rfl, ?_⟩; have n0_ := Aside0.mk (Kd.R_below (by (with_reducible repeat (first | apply Kd.R_alloc | apply Kd.R_drewN | apply Kd.R_drew)); exact HO693.out) hb); have n1_ := Aside0.mk (blk_below (g := gb690) (o := .cells #[.slice A0_0 l0_0.length c0_0] 26 (0, 0)) (by (with_reducible repeat (first | refine blk_drewN ?_ _ | refine blk_drew ?_ | refine blk_alloc ?_ _)); exact BK690.out) hb); have n2_ := Aside0.mk (below_step (by repeat (first | (with_reducible first | exact HB.out | apply below_alloc | apply pw_below_drewN | apply below_drew1 | refine below_set ?_ GE690.out) | exact HB.out)) hb); clear HO693; clear BK690; clear HB; have HO693 := n0_; have BK690 := n1_; have HB := n2_; clear n0_ n1_ n2_; (try clear hb); (try clear hb2); (try clear hk); (try clear hi)) | (go_at_call 71; (with_reducible refine (spec_l1In.calls a2 0 60 t695 _ A10.out).mono ?_); rintro e w' ⟨rfl, ⟨nd, rfl⟩⟩))
      go_meet
      case rel => exact ⟨_, (!t695), (by first | rfl | (simp; done) | (simp [*]; done)), H', ⟨by first | omega | exact Nat.le_refl _⟩, ⟨by (with_reducible repeat (first | apply Kd.R_alloc | apply Kd.R_drewN | apply Kd.R_drew)); exact HO693.out⟩, ⟨by (with_reducible repeat (first | refine blk_drewN ?_ _ | refine blk_drew ?_ | refine blk_alloc ?_ _)); exact BK690.out⟩, ⟨by repeat (first | (with_reducible first | exact HB.out | apply below_alloc | apply pw_below_drewN | apply below_drew1 | refine below_set ?_ GE690.out) | exact HB.out)⟩⟩
    · replace c9 := Bool.eq_false_iff.mpr c9
      subst c9
      have H1 : (spec_HeldAt.j0 k l1 a2 y691 true) = some (r1, r2) := by rw [if_neg (show ¬ (false = true) by decide)] at H; exact H
      clear H
      have H := H1
      clear H1
      have H' := Aside0.mk H
      clear H
      have hcz13_0 : w6.cell? ⟨gb690, 0, none⟩ = some (.slice A0_0 l0_0.length c0_0) := (blk_cell BK690.out 0).trans rfl
      have hfz13_0 := blk_frozen BK690.out 0
      go_wp2_with (first | ((with_reducible refine gate_callee (f := 83) rfl ?_); refine goesL_ (some 13) rfl rfl Try.func83 (by kernel_rfl) rfl #[.agg #[.slice A0_0 l0_0.length c0_0], .slice A1 l1.length c1] rfl (by (try simp only [List.map_toArray, List.map_cons, List.map_nil]); first | done | rfl | (simp only [List.length_drop, List.length_take]; rfl)) ?_; (with_reducible refine (spec_l10Loans.calls k _ _ l0_0 _ _ l1 false _ ?side1 ?side2 ?side3 ?side4 A8.out).mono ?_); (case side1 => repeat (first | exact (Kd.C_below HR0_0.out HB.out) | (with_reducible refine Kd.C_alloc ?_ _) | (with_reducible refine Kd.C_drewN ?_ _) | (with_reducible refine Kd.C_drew ?_))); (case side2 => exact HC0_0.out); (case side3 => repeat (first | exact (Kd.C_below HR1.out HB.out) | (with_reducible refine Kd.C_alloc ?_ _) | (with_reducible refine Kd.C_drewN ?_ _) | (with_reducible refine Kd.C_drew ?_))); (case side4 => exact HC1.out); rintro e w14 ⟨rfl, hb⟩; refine ⟨_, rfl, ?_⟩; have n0_ := Aside0.mk (Kd.R_below (by (with_reducible repeat (first | apply Kd.R_alloc | apply Kd.R_drewN | apply Kd.R_drew)); exact HO693.out) hb); have n1_ := Aside0.mk (blk_below (g := gb690) (o := .cells #[.slice A0_0 l0_0.length c0_0] 26 (0, 0)) (by (with_reducible repeat (first | refine blk_drewN ?_ _ | refine blk_drew ?_ | refine blk_alloc ?_ _)); exact BK690.out) hb); have n2_ := Aside0.mk (below_step (by repeat (first | (with_reducible first | exact HB.out | apply below_alloc | apply pw_below_drewN | apply below_drew1 | refine below_set ?_ GE690.out) | exact HB.out)) hb); clear HO693; clear BK690; clear HB; have HO693 := n0_; have BK690 := n1_; have HB := n2_; clear n0_ n1_ n2_; (try clear hb); (try clear hb2); (try clear hk); (try clear hi)))
      go_meet
      case rel => exact ⟨_, (true), (by first | rfl | (simp; done) | (simp [*]; done)), H', ⟨by first | omega | exact Nat.le_refl _⟩, ⟨by (with_reducible repeat (first | apply Kd.R_alloc | apply Kd.R_drewN | apply Kd.R_drew)); exact HO693.out⟩, ⟨by (with_reducible repeat (first | refine blk_drewN ?_ _ | refine blk_drew ?_ | refine blk_alloc ?_ _)); exact BK690.out⟩, ⟨by repeat (first | (with_reducible first | exact HB.out | apply below_alloc | apply pw_below_drewN | apply below_drew1 | refine below_set ?_ GE690.out) | exact HB.out)⟩⟩
  case rest =>
    clear HC4
    try clear c1
    try clear p2
    try clear c3
    try clear c8
    try clear c9
    try clear hcz11_0
    try clear hcz13_0
    try clear hfz11_0
    try clear hfz13_0
    obtain ⟨kq, x19_3, rfl, HA, HJ3, HO_8, BK690, HB⟩ := hcut
    cases kq with
    | zero => exact absurd HA.out (by simp [spec_HeldAt.j0])
    | succ kj3 =>
      have H := HA.out
      clear HA
      simp only [spec_HeldAt.j0] at H
      by_cases c15 : x19_3 = true
      · subst c15
        have H1 : (some (y691, false)) = some (r1, r2) := by rw [if_pos rfl] at H; exact H
        clear H
        have H := H1
        clear H1
        simp only [Option.some.injEq, Prod.mk.injEq] at H
        obtain ⟨rfl, rfl⟩ := H
        go_wp2
        go_ret2
        exact ⟨_, by first | rfl | (simp [errW_none, errW_some] <;> rfl) | (simp [*, errW_none, errW_some] <;> rfl), by (with_reducible repeat (first | apply Kd.R_alloc | apply Kd.R_drewN | apply Kd.R_drew)); exact HO_8.out, by repeat (first | (with_reducible first | exact HB.out | apply below_alloc | apply pw_below_drewN | apply below_drew1 | refine below_set ?_ GE690.out) | exact HB.out)⟩
      · replace c15 := Bool.eq_false_iff.mpr c15
        subst c15
        have H1 : (spec_HeldAt.l0 kj3 l1 a2 y691 0) = some (r1, r2) := by rw [if_neg (show ¬ (false = true) by decide)] at H; exact H
        clear H
        have H := H1
        clear H1
        have H' := Aside0.mk H
        clear H
        go_wp2
        go_loopg [8, 9] kj3 (fun kq v8 v9 w' => ∃ (x8_2 : List Int) (x9_2 : Int), v9 = .int .i64 x9_2 ∧ Aside0 (spec_HeldAt.l0 kq l1 a2 x8_2 x9_2 = some (r1, r2)) ∧ Aside0 (kq ≤ kj3) ∧ Aside0 (Kd.R (Kd.int .i64) 3 w' w.heap.size (fun _ => True) v8 x8_2) ∧ Aside0 (w'.heap[gb690]? = some (.cells #[(.slice A0_0 l0_0.length c0_0)] 26 (0, 0))) ∧ Aside0 (Below w.heap.size w w'))
        case atStart => exact ⟨(y691), (0), (by first | rfl | (simp; done) | (simp [*]; done)), H', ⟨Nat.le_refl _⟩, ⟨by (with_reducible repeat (first | apply Kd.R_alloc | apply Kd.R_drewN | apply Kd.R_drew)); exact HO_8.out⟩, ⟨by (with_reducible repeat (first | refine blk_drewN ?_ _ | refine blk_drew ?_ | refine blk_alloc ?_ _)); exact BK690.out⟩, ⟨by repeat (first | (with_reducible first | exact HB.out | apply below_alloc | apply pw_below_drewN | apply below_drew1 | refine below_set ?_ GE690.out) | exact HB.out)⟩⟩
        case round =>
          clear H'
          try clear c1
          try clear p2
          try clear c3
          try clear c8
          try clear c9
          try clear c15
          try clear hcz11_0
          try clear hcz13_0
          try clear hfz11_0
          try clear hfz13_0
          try clear p2
          obtain ⟨x8_2, x9_2, rfl, HA, HK2, HO_8, BK690, HB⟩ := hrel
          cases gk with
          | zero => exact absurd HA.out (by simp [spec_HeldAt.l0])
          | succ k2 =>
            have H := HA.out
            clear HA
            simp only [spec_HeldAt.l0] at H
            by_cases c16 : x9_2 < (l1.length : Int)
            · rw [if_pos c16] at H
              have c16b0 : decide (x9_2 < (l1.length : Int)) = true := decide_eq_true c16
              clear c16
              by_cases c17 : 0 ≤ x9_2
              · rw [if_pos c17] at H
                have c17b0 : decide (0 ≤ x9_2) = true := decide_eq_true c17
                clear c17
                replace H := Option.bind_eq_some_iff.mp H
                obtain ⟨t697, A180, H⟩ := H
                replace H : (if t697 = true then (if x8_2.length < 17592186044416 then (spec_HeldAt.l0 k2 l1 a2 (x8_2 ++ [x9_2]) (wrap64 (x9_2 + 1))) else (none)) else (spec_HeldAt.l0 k2 l1 a2 x8_2 (wrap64 (x9_2 + 1)))) = some (r1, r2) := H
                have A18 := Aside0.mk A180
                clear A180
                by_cases c19 : t697 = true
                · subst c19
                  have H1 : (if x8_2.length < 17592186044416 then (spec_HeldAt.l0 k2 l1 a2 (x8_2 ++ [x9_2]) (wrap64 (x9_2 + 1))) else (none)) = some (r1, r2) := by rw [if_pos rfl] at H; exact H
                  clear H
                  have H := H1
                  clear H1
                  by_cases c20 : x8_2.length < 17592186044416
                  · rw [if_pos c20] at H
                    have LMc20 := Aside0.mk c20
                    clear c20
                    obtain ⟨y698, hy698⟩ : ∃ y_ : List Int, y_ = (x8_2 ++ [x9_2]) := ⟨_, rfl⟩
                    replace H : (spec_HeldAt.l0 k2 l1 a2 y698 (wrap64 (x9_2 + 1))) = some (r1, r2) := by first | (rw [hy698]; with_reducible exact H) | (have H2_ := (Option.bind_some _ _).symm.trans H; rw [hy698]; with_reducible exact H2_) | (have H2_ := (Option.bind_some _ _).symm.trans H; with_reducible exact H2_) | with_reducible exact H | (rw [hy698]; exact H) | exact H
                    have Ny698 := Aside0.mk hy698
                    clear hy698
                    have H' := Aside0.mk H
                    clear H
                    have p696 : 0 ≤ (x9_2 : Int) := of_decide_eq_true (by first | (with_reducible assumption) | assumption)
                    have q696 : x9_2 < (l1.length : Int) := of_decide_eq_true (by first | (with_reducible assumption) | assumption)
                    obtain ⟨ad696, e696, hx696_0, hx696_1, hx696_2, hx696_3, hx696_4, hx696_5, hx696_6⟩ := at_TimplLoan HR1.out x9_2 p696 q696
                    cases e696
                    replace hx696_0 := (HB.out.cell (World.block_lt_of_cell? w _ hx696_0)).trans hx696_0
                    replace hx696_1 := (HB.out.cell (World.block_lt_of_cell? w _ hx696_1)).trans hx696_1
                    replace hx696_2 := (HB.out.cell (World.block_lt_of_cell? w _ hx696_2)).trans hx696_2
                    replace hx696_3 := (HB.out.cell (World.block_lt_of_cell? w _ hx696_3)).trans hx696_3
                    replace hx696_4 := (HB.out.cell (World.block_lt_of_cell? w _ hx696_4)).trans hx696_4
                    replace hx696_5 := (HB.out.cell (World.block_lt_of_cell? w _ hx696_5)).trans hx696_5
                    replace hx696_6 := (HB.out.cell (World.block_lt_of_cell? w _ hx696_6)).trans hx696_6
                    replace p696 := eq_true p696
                    replace q696 := eq_true q696
                    go_wp2_with (first | ((with_reducible refine gate_callee (f := 92) rfl ?_); refine goesL_ (some 32) rfl rfl Try.func92 (by kernel_rfl) rfl #[.agg #[.int .i64 ((rd_TimplLoan l1 x9_2).f0.f0), .int .i64 ((rd_TimplLoan l1 x9_2).f0.f1), .int .i64 ((rd_TimplLoan l1 x9_2).f0.f2), .int .i64 ((rd_TimplLoan l1 x9_2).f0.f3), .bool ((rd_TimplLoan l1 x9_2).f1), .int .i64 ((rd_TimplLoan l1 x9_2).f2), .int .i64 ((rd_TimplLoan l1 x9_2).f3)], .int .i64 a2] rfl (by (try simp only [List.map_toArray, List.map_cons, List.map_nil]); first | done | rfl | (simp only [List.length_drop, List.length_take]; rfl)) ?_; (with_reducible refine (spec_l10Held.calls ((rd_TimplLoan l1 x9_2).f0.f0) ((rd_TimplLoan l1 x9_2).f0.f1) ((rd_TimplLoan l1 x9_2).f0.f2) ((rd_TimplLoan l1 x9_2).f0.f3) ((rd_TimplLoan l1 x9_2).f1) ((rd_TimplLoan l1 x9_2).f2) ((rd_TimplLoan l1 x9_2).f3) a2 true _ A18.out).mono ?_); rintro e w21 ⟨rfl, hb⟩; refine ⟨_, rfl, ?_⟩; have n0_ := Aside0.mk (Kd.R_below (by (with_reducible repeat (first | apply Kd.R_alloc | apply Kd.R_drewN | apply Kd.R_drew)); exact HO_8.out) hb); have n1_ := Aside0.mk (blk_below (g := gb690) (o := .cells #[.slice A0_0 l0_0.length c0_0] 26 (0, 0)) (by (with_reducible repeat (first | refine blk_drewN ?_ _ | refine blk_drew ?_ | refine blk_alloc ?_ _)); exact BK690.out) hb); have n2_ := Aside0.mk (below_step (by repeat (first | (with_reducible first | exact HB.out | apply below_alloc | apply pw_below_drewN | apply below_drew1 | refine below_set ?_ GE690.out) | exact HB.out)) hb); clear HO_8; clear BK690; clear HB; have HO_8 := n0_; have BK690 := n1_; have HB := n2_; clear n0_ n1_ n2_; (try clear hb); (try clear hb2); (try clear hk); (try clear hi)) | ((with_reducible refine gate_builtin (b := .append) (xs := #[.tmp 33, .tmp 35]) rfl ?_); at_builtin; refine Kd.R_append (Kd.int .i64) (w0 := w) w.heap.size rfl (.tmp 33) (.tmp 35) 66 3 (.int .i64 0) 8 rfl Try.underlying66 info3 rfl (by decide) (by omega) u8 x8_2 x9_2 [.int .i64 x9_2] (fun _ => True) (fun _ => False) rfl rfl ?aP (fun _ hk => hk.elim) ?aF ?aO ?aB ?aS ?aL ?_; (case aP => exact rfl); (case aB => exact (by repeat (first | (with_reducible first | exact HB.out | apply below_alloc | apply pw_below_drewN | apply below_drew1 | refine below_set ?_ GE690.out) | exact HB.out))); (case aF => exact (fun _ _ => trivial)); (case aO => exact (by (with_reducible repeat (first | apply Kd.R_alloc | apply Kd.R_drewN | apply Kd.R_drew)); exact HO_8.out)); (case aS => exact (below_size (by repeat (first | (with_reducible first | exact HB.out | apply below_alloc | apply pw_below_drewN | apply below_drew1 | refine below_set ?_ GE690.out) | exact HB.out)))); (case aL => have := LMc20.out; omega); intro v699 w22 ho hb hg hat; rw [← Ny698.out] at ho; have n0_ := Aside0.mk (blk_grown (g := gb690) (o := .cells #[.slice A0_0 l0_0.length c0_0] 26 (0, 0)) (by (with_reducible repeat (first | refine blk_drewN ?_ _ | refine blk_drew ?_ | refine blk_alloc ?_ _)); exact BK690.out) hg (Kd.R_ne HO_8.out BK690.out (by decide))); have n1_ := Aside0.mk (hb); have n2_ := Aside0.mk (ho); clear BK690; clear HB; clear HO_8; have BK690 := n0_; have HB := n1_; have HO700 := n2_; clear n0_ n1_ n2_; clear ho hb hg hat))
                    go_roundg k2
                    case measure => have := HJ3.out; have := HK2.out; omega
                    case rel => exact ⟨(y698), (wrap64 (x9_2 + 1)), (by first | rfl | (simp; done) | (simp [*]; done)), H', ⟨by have := HJ3.out; have := HK2.out; omega⟩, ⟨by (with_reducible repeat (first | apply Kd.R_alloc | apply Kd.R_drewN | apply Kd.R_drew)); exact HO700.out⟩, ⟨by (with_reducible repeat (first | refine blk_drewN ?_ _ | refine blk_drew ?_ | refine blk_alloc ?_ _)); exact BK690.out⟩, ⟨by repeat (first | (with_reducible first | exact HB.out | apply below_alloc | apply pw_below_drewN | apply below_drew1 | refine below_set ?_ GE690.out) | exact HB.out)⟩⟩
                  · rw [if_neg c20] at H
                    exact absurd H (by simp)
                · replace c19 := Bool.eq_false_iff.mpr c19
                  subst c19
                  have H1 : (spec_HeldAt.l0 k2 l1 a2 x8_2 (wrap64 (x9_2 + 1))) = some (r1, r2) := by rw [if_neg (show ¬ (false = true) by decide)] at H; exact H
                  clear H
                  have H := H1
                  clear H1
                  have H' := Aside0.mk H
                  clear H
                  have p696 : 0 ≤ (x9_2 : Int) := of_decide_eq_true (by first | (with_reducible assumption) | assumption)
                  have q696 : x9_2 < (l1.length : Int) := of_decide_eq_true (by first | (with_reducible assumption) | assumption)
                  obtain ⟨ad696, e696, hx696_0, hx696_1, hx696_2, hx696_3, hx696_4, hx696_5, hx696_6⟩ := at_TimplLoan HR1.out x9_2 p696 q696
                  cases e696
                  replace hx696_0 := (HB.out.cell (World.block_lt_of_cell? w _ hx696_0)).trans hx696_0
                  replace hx696_1 := (HB.out.cell (World.block_lt_of_cell? w _ hx696_1)).trans hx696_1
                  replace hx696_2 := (HB.out.cell (World.block_lt_of_cell? w _ hx696_2)).trans hx696_2
                  replace hx696_3 := (HB.out.cell (World.block_lt_of_cell? w _ hx696_3)).trans hx696_3
                  replace hx696_4 := (HB.out.cell (World.block_lt_of_cell? w _ hx696_4)).trans hx696_4
                  replace hx696_5 := (HB.out.cell (World.block_lt_of_cell? w _ hx696_5)).trans hx696_5
                  replace hx696_6 := (HB.out.cell (World.block_lt_of_cell? w _ hx696_6)).trans hx696_6
                  replace p696 := eq_true p696
                  replace q696 := eq_true q696
                  go_wp2_with (first | ((with_reducible refine gate_callee (f := 92) rfl ?_); refine goesL_ (some 32) rfl rfl Try.func92 (by kernel_rfl) rfl #[.agg #[.int .i64 ((rd_TimplLoan l1 x9_2).f0.f0), .int .i64 ((rd_TimplLoan l1 x9_2).f0.f1), .int .i64 ((rd_TimplLoan l1 x9_2).f0.f2), .int .i64 ((rd_TimplLoan l1 x9_2).f0.f3), .bool ((rd_TimplLoan l1 x9_2).f1), .int .i64 ((rd_TimplLoan l1 x9_2).f2), .int .i64 ((rd_TimplLoan l1 x9_2).f3)], .int .i64 a2] rfl (by (try simp only [List.map_toArray, List.map_cons, List.map_nil]); first | done | rfl | (simp only [List.length_drop, List.length_take]; rfl)) ?_; (with_reducible refine (spec_l10Held.calls ((rd_TimplLoan l1 x9_2).f0.f0) ((rd_TimplLoan l1 x9_2).f0.f1) ((rd_TimplLoan l1 x9_2).f0.f2) ((rd_TimplLoan l1 x9_2).f0.f3) ((rd_TimplLoan l1 x9_2).f1) ((rd_TimplLoan l1 x9_2).f2) ((rd_TimplLoan l1 x9_2).f3) a2 false _ A18.out).mono ?_); rintro e w23 ⟨rfl, hb⟩; refine ⟨_, rfl, ?_⟩; have n0_ := Aside0.mk (Kd.R_below (by (with_reducible repeat (first | apply Kd.R_alloc | apply Kd.R_drewN | apply Kd.R_drew)); exact HO_8.out) hb); have n1_ := Aside0.mk (blk_below (g := gb690) (o := .cells #[.slice A0_0 l0_0.length c0_0] 26 (0, 0)) (by (with_reducible repeat (first | refine blk_drewN ?_ _ | refine blk_drew ?_ | refine blk_alloc ?_ _)); exact BK690.out) hb); have n2_ := Aside0.mk (below_step (by repeat (first | (with_reducible first | exact HB.out | apply below_alloc | apply pw_below_drewN | apply below_drew1 | refine below_set ?_ GE690.out) | exact HB.out)) hb); clear HO_8; clear BK690; clear HB; have HO_8 := n0_; have BK690 := n1_; have HB := n2_; clear n0_ n1_ n2_; (try clear hb); (try clear hb2); (try clear hk); (try clear hi)))
                  go_roundg k2
                  case measure => have := HJ3.out; have := HK2.out; omega
                  case rel => exact ⟨(x8_2), (wrap64 (x9_2 + 1)), (by first | rfl | (simp; done) | (simp [*]; done)), H', ⟨by have := HJ3.out; have := HK2.out; omega⟩, ⟨by (with_reducible repeat (first | apply Kd.R_alloc | apply Kd.R_drewN | apply Kd.R_drew)); exact HO_8.out⟩, ⟨by (with_reducible repeat (first | refine blk_drewN ?_ _ | refine blk_drew ?_ | refine blk_alloc ?_ _)); exact BK690.out⟩, ⟨by repeat (first | (with_reducible first | exact HB.out | apply below_alloc | apply pw_below_drewN | apply below_drew1 | refine below_set ?_ GE690.out) | exact HB.out)⟩⟩
              · rw [if_neg c17] at H
                exact absurd H (by simp)
            · rw [if_neg c16] at H
              have c16b0 : decide (x9_2 < (l1.length : Int)) = false := decide_eq_false c16
              clear c16
              simp only [Option.some.injEq, Prod.mk.injEq] at H
              obtain ⟨rfl, rfl⟩ := H
              go_wp2
              go_ret2
              exact ⟨_, by first | rfl | (simp [errW_none, errW_some] <;> rfl) | (simp [*, errW_none, errW_some] <;> rfl), by (with_reducible repeat (first | apply Kd.R_alloc | apply Kd.R_drewN | apply Kd.R_drew)); exact HO_8.out, by repeat (first | (with_reducible first | exact HB.out | apply below_alloc | apply pw_below_drewN | apply below_drew1 | refine below_set ?_ GE690.out) | exact HB.out)⟩

end Go.Proofs.Ytpbboooeahmgpaa.P


/- HeldAt: what both sides come to. -/
namespace Go.Proofs.Ytpbboooeahmgpaa.P
open Go.RowKit Go.Proofs.YtpbboooeahmgpaaW.PrintWords Go.Proofs.YtpbboooeahmgpaaW.Mine
set_option linter.unusedVariables false
def heldL (t : Int) (x : SimplLoan) : Bool := decide (x.f2 ≤ t ∧ t < x.f3)
def heldN (t : Int) : Nat → List SimplLoan → List Int
  | _, [] => []
  | i, x :: xs => if heldL t x = true then (i : Int) :: heldN t (i + 1) xs else heldN t (i + 1) xs
theorem heldN_length (t : Int) (l : List SimplLoan) : ∀ i, (heldN t i l).length ≤ l.length := by
  induction l with
  | nil => intro i; simp [heldN]
  | cons x l ih =>
    intro i
    have := ih (i + 1)
    unfold heldN
    split <;> simp <;> omega
theorem loanHeld_f (x : SimplLoan) (t : Int) : impl_Loan_held.f x.f0.f0 x.f0.f1 x.f0.f2 x.f0.f3 x.f1 x.f2 x.f3 t = some (heldL t x) := by
  unfold impl_Loan_held.f heldL
  by_cases h : x.f2 ≤ t
  · rw [if_pos h]; simp [h]
  · rw [if_neg h]; simp [h]
theorem l10Held_f (x : SimplLoan) (t : Int) : spec_l10Held.f x.f0.f0 x.f0.f1 x.f0.f2 x.f0.f3 x.f1 x.f2 x.f3 t = some (heldL t x) := by
  unfold spec_l10Held.f heldL
  by_cases h : x.f2 ≤ t
  · rw [if_pos h]; simp [h]
  · rw [if_neg (by omega)]; simp [h]
theorem implHeldAt_ev (t : Int) (suf : List SimplLoan) : ∀ (pre : List SimplLoan) (acc : List Int), pre.length + suf.length ≤ 1000000 → acc.length + suf.length ≤ 1000000 →
    Ev (fun k => impl_HeldAt.l0 k t acc (pre ++ suf) ((pre ++ suf).length : Int) (pre.length : Int)) (acc ++ heldN t pre.length suf, true) := by
  induction suf with
  | nil =>
    intro pre acc h1 h2
    refine Ev.step (fun k => ?_) (Ev.now _)
    simp [impl_HeldAt.l0, heldN]
  | cons x suf ih =>
    intro pre acc h1 h2
    simp only [List.length_cons] at h1 h2
    have step : ∀ k, impl_HeldAt.l0 (k + 1) t acc (pre ++ x :: suf) ((pre ++ x :: suf).length : Int) (pre.length : Int) = if heldL t x = true then impl_HeldAt.l0 k t (acc ++ [(pre.length : Int)]) ((pre ++ [x]) ++ suf) (((pre ++ [x]) ++ suf).length : Int) ((pre ++ [x]).length : Int) else impl_HeldAt.l0 k t acc ((pre ++ [x]) ++ suf) (((pre ++ [x]) ++ suf).length : Int) ((pre ++ [x]).length : Int) := by
      intro k
      simp only [impl_HeldAt.l0]
      rw [if_pos (by simp; omega), if_pos (by omega), if_pos (by simp; omega), rdL_mid, loanHeld_f, Option.bind_some, wrap_len (by omega), if_pos (show acc.length < 17592186044416 by omega)]
      simp
    by_cases hh : heldL t x = true
    · have := ih (pre ++ [x]) (acc ++ [(pre.length : Int)]) (by simp; omega) (by simp; omega)
      refine Ev.step (fun k => (step k).trans (if_pos hh)) ?_
      rw [show acc ++ heldN t pre.length (x :: suf) = acc ++ [(pre.length : Int)] ++ heldN t (pre ++ [x]).length suf by simp [heldN, hh]]
      exact this
    · have := ih (pre ++ [x]) acc (by simp; omega) (by omega)
      refine Ev.step (fun k => (step k).trans (if_neg hh)) ?_
      rw [show acc ++ heldN t pre.length (x :: suf) = acc ++ heldN t (pre ++ [x]).length suf by simp [heldN, hh]]
      exact this
theorem specHeldAt_ev (t : Int) (suf : List SimplLoan) : ∀ (pre : List SimplLoan) (acc : List Int), pre.length + suf.length ≤ 1000000 → acc.length + suf.length ≤ 1000000 →
    Ev (fun k => spec_HeldAt.l0 k (pre ++ suf) t acc (pre.length : Int)) (acc ++ heldN t pre.length suf, true) := by
  induction suf with
  | nil =>
    intro pre acc h1 h2
    refine Ev.step (fun k => ?_) (Ev.now _)
    simp [spec_HeldAt.l0, heldN]
  | cons x suf ih =>
    intro pre acc h1 h2
    simp only [List.length_cons] at h1 h2
    have step : ∀ k, spec_HeldAt.l0 (k + 1) (pre ++ x :: suf) t acc (pre.length : Int) = if heldL t x = true then spec_HeldAt.l0 k ((pre ++ [x]) ++ suf) t (acc ++ [(pre.length : Int)]) ((pre ++ [x]).length : Int) else spec_HeldAt.l0 k ((pre ++ [x]) ++ suf) t acc ((pre ++ [x]).length : Int) := by
      intro k
      simp only [spec_HeldAt.l0]
      rw [if_pos (by simp; omega), if_pos (by omega), rdL_mid, l10Held_f, Option.bind_some, wrap_len (by omega), if_pos (show acc.length < 17592186044416 by omega)]
      simp
    by_cases hh : heldL t x = true
    · have := ih (pre ++ [x]) (acc ++ [(pre.length : Int)]) (by simp; omega) (by simp; omega)
      refine Ev.step (fun k => (step k).trans (if_pos hh)) ?_
      rw [show acc ++ heldN t pre.length (x :: suf) = acc ++ [(pre.length : Int)] ++ heldN t (pre ++ [x]).length suf by simp [heldN, hh]]
      exact this
    · have := ih (pre ++ [x]) acc (by simp; omega) (by omega)
      refine Ev.step (fun k => (step k).trans (if_neg hh)) ?_
      rw [show acc ++ heldN t pre.length (x :: suf) = acc ++ heldN t (pre ++ [x]).length suf by simp [heldN, hh]]
      exact this
def heldAt (m : List (List Int)) (l : List SimplLoan) (t : Int) : List Int × Bool := if (loansB m l && decide (0 ≤ t ∧ t ≤ 60)) = true then (heldN t 0 l, true) else ([], false)
theorem loansB_len {m : List (List Int)} {l : List SimplLoan} (h : loansB m l = true) : l.length ≤ 8 := by
  unfold loansB at h
  simp only [Bool.and_eq_true, decide_eq_true_eq] at h
  exact h.2
theorem heldAt_len (m : List (List Int)) (l : List SimplLoan) (t : Int) : (heldAt m l t).1.length ≤ 8 := by
  unfold heldAt
  split
  next h =>
    rw [Bool.and_eq_true] at h
    have := heldN_length t l 0
    have := loansB_len h.1
    show (heldN t 0 l).length ≤ 8
    omega
  next => simp
theorem implHeldAt_f (m : List (List Int)) (l : List SimplLoan) (t : Int) : Ev (fun k => impl_HeldAt.f k m l t) (heldAt m l t) := by
  unfold heldAt impl_HeldAt.f
  simp only [areLoans_f, isTime_f, Option.bind_some]
  by_cases h : loansB m l = true
  · simp only [h, if_true, Bool.true_and]
    by_cases h2 : 0 ≤ t ∧ t ≤ 60
    · simp only [decide_eq_true h2, if_true]
      have h8 := loansB_len h
      refine Ev.step (fun k => ?_) (by have := implHeldAt_ev t l [] [] (by simp; omega) (by simp; omega); simpa using this)
      simp [impl_HeldAt.j0]
    · simp only [decide_eq_false h2, Bool.false_eq_true, if_false]
      refine Ev.step (fun k => ?_) (Ev.now _)
      simp [impl_HeldAt.j0]
  · simp only [Bool.eq_false_iff.2 h, Bool.false_and, Bool.false_eq_true, if_false]
    refine Ev.step (fun k => ?_) (Ev.now _)
    simp [impl_HeldAt.j0]
theorem specHeldAt_f (m : List (List Int)) (l : List SimplLoan) (t : Int) (hm : okM m) (hl : l.length ≤ 1048576) (hw : ∀ x ∈ l, wfL x) : Ev (fun k => spec_HeldAt.f k m l t) (heldAt m l t) := by
  unfold spec_HeldAt.f
  simp only [Option.bind_some]
  refine Ev.bind (l10Loans_f m l hm (by omega) hw) ?_
  unfold heldAt
  simp only [l1In_f, Option.bind_some]
  by_cases h : loansB m l = true
  · simp only [h, if_true, Bool.true_and]
    by_cases h2 : 0 ≤ t ∧ t ≤ 60
    · simp only [decide_eq_true h2, if_true]
      have h8 := loansB_len h
      refine Ev.step (fun k => ?_) (by have := specHeldAt_ev t l [] [] (by simp; omega) (by simp; omega); simpa using this)
      simp [spec_HeldAt.j0]
    · simp only [decide_eq_false h2, Bool.false_eq_true, if_false]
      refine Ev.step (fun k => ?_) (Ev.now _)
      simp [spec_HeldAt.j0]
  · simp only [Bool.eq_false_iff.2 h, Bool.false_and, Bool.false_eq_true, if_false]
    refine Ev.step (fun k => ?_) (Ev.now _)
    simp [spec_HeldAt.j0]
theorem markLs (l : List SimplLoan) (a : Int) (h0 : 0 ≤ a) (h : a + 7 * l.length ≤ 4611686018427387904) : laws_markLoanS.f l a = some (a + 7 * (l.length : Int), marksG markL 7 a l.length) := if_pos ⟨h0, h⟩
end Go.Proofs.Ytpbboooeahmgpaa.P


/- From a row's reading of an argument to what the print's kinds say of it. -/
namespace Go.Proofs.YtpbboooeahmgpaaW.Mine
open Go.RowKit Go.Proofs.YtpbboooeahmgpaaW.PrintWords
set_option linter.unusedVariables false
/-- Whatever reads as data of type T is of the kind d, and ok. -/
def ReadsK {α : Type} (P : Program) (T : TypeId) (d : Kd α) (ok : α → Prop) : Prop :=
  ∀ {H : Type} {enc : TypeId × Value → H} {w : World} {base : Nat} {spare : Nat → Bool} {held : Bool} {fuel : Nat} {cs : List Value} {x : DataW H × List MemPlace}, DataW.trod enc P w base spare held fuel T cs = some x → ∃ a : α, d.K w a cs ∧ ok a
theorem ReadsK.int {P : Program} {T : TypeId} {k : IntKind} (hT : P.underlying T = some (.int k)) : ReadsK P T (Kd.int k) (fun n => (Lit.int k n).wf = true) := by
  intro H enc w base spare held fuel cs x h
  obtain ⟨n, rfl, _, hw⟩ := DataW.trod_int hT h
  exact ⟨n, rfl, hw⟩
theorem ReadsK.bool {P : Program} {T : TypeId} (hT : P.underlying T = some .bool) : ReadsK P T Kd.bool (fun _ => True) := by
  intro H enc w base spare held fuel cs x h
  obtain ⟨b, rfl, _⟩ := DataW.trod_bool hT h
  exact ⟨b, rfl, trivial⟩
theorem exists_list {α : Type} {n : Nat} {p : Nat → α → Prop} (h : ∀ i, i < n → ∃ a, p i a) : ∃ l : List α, l.length = n ∧ ∀ i a, l[i]? = some a → p i a := by
  induction n with
  | zero => exact ⟨[], rfl, fun i a hi => by simp at hi⟩
  | succ n ih =>
    obtain ⟨l, hl, hp⟩ := ih (fun i hi => h i (by omega))
    obtain ⟨a, ha⟩ := h n (by omega)
    refine ⟨l ++ [a], by simp [hl], fun i b hb => ?_⟩
    rcases Nat.lt_or_ge i n with hi | hi
    · rw [List.getElem?_append_left (by omega)] at hb
      exact hp i b hb
    · have hi2 : i = n := by
        have := (List.getElem?_eq_some_iff.1 hb).1
        simp [hl] at this
        omega
      subst hi2
      rw [← hl, List.getElem?_append_right (Nat.le_refl _)] at hb
      simp at hb
      rw [← hb]
      exact ha
theorem ReadsK.slice {α : Type} {P : Program} {T e : TypeId} {d : Kd α} {ok : α → Prop} (hT : P.underlying T = some (.slice e)) (hc : P.cellsOf e = d.sz) (h1 : ReadsK P e d ok) : ReadsK P T (Kd.slice e d) (fun xs => ∀ x ∈ xs, ok x) := by
  intro H enc w base spare held fuel cs x h
  rcases Deep.open_slice hT h with ⟨rfl, _⟩ | ⟨a, len, cap, m, n, D, Pl, rfl, hb, hl, hm, hmm, _, hx⟩
  · exact ⟨[], ⟨none, 0, rfl, Nat.le_refl _, rfl, by simp, fun h => absurd h (by simp)⟩, fun x hx => by simp at hx⟩
  · have hlm : len ≤ m := by rw [hmm]; split <;> omega
    obtain ⟨l, hll, hp⟩ := exists_list (n := len) (p := fun i y => ∃ cs', w.cells? base (a.add (i * P.cellsOf e)) (P.cellsOf e) = some cs' ∧ d.K w y cs' ∧ ok y) (fun i hi => by
      obtain ⟨cs', h2, h3⟩ := hx i (by omega)
      obtain ⟨y, hy, hok⟩ := h1 h3
      exact ⟨y, cs', h2, hy, hok⟩)
    refine ⟨l, ⟨some a, cap, by rw [hll], by omega, rfl, ?_, fun hn => ⟨a, rfl, fun j p hj => ?_⟩⟩, fun y hy => ?_⟩
    · rw [hll]; unfold maxLen at hm; omega
    · obtain ⟨cs', h2, h3, _⟩ := hp j p hj
      obtain ⟨_, hlen, hcell⟩ := World.cells?_some h2
      refine ⟨cs', by rw [hlen, hc], h3, fun i u hu => ?_⟩
      have hi : i < P.cellsOf e := by
        have := (List.getElem?_eq_some_iff.1 hu).1
        omega
      have h4 := hcell i hi
      rw [hu] at h4
      rw [← h4, ← hc]
      congr 1
      unfold Addr.add
      by_cases z1 : j * P.cellsOf e = 0 <;> by_cases z2 : i = 0 <;> simp [z1, z2, Nat.add_assoc]
    · obtain ⟨j, hj, rfl⟩ := List.mem_iff_getElem.1 hy
      obtain ⟨_, _, _, hok⟩ := hp j _ (List.getElem?_eq_getElem hj)
      exact hok
/-- The fields from offset o on. -/
def ReadsF {α : Type} (P : Program) (o : Nat) (fs : List Field) (d : Kd α) (ok : α → Prop) : Prop :=
  ∀ {H : Type} {enc : TypeId × Value → H} {w : World} {base : Nat} {spare : Nat → Bool} {held : Bool} {n : Nat} {cs : List Value}, (∀ f ∈ fs, ∃ x, DataW.trod enc P w base spare held n f.type ((cs.drop f.offset).take (P.cellsOf f.type)) = some x) → ∃ a : α, d.K w a ((cs.drop o).take d.sz) ∧ ok a
theorem ReadsF.last {α : Type} {P : Program} {o : Nat} {f : Field} {d : Kd α} {ok : α → Prop} (ho : f.offset = o) (h : ReadsK P f.type d ok) (hc : P.cellsOf f.type = d.sz) : ReadsF P o [f] d ok := by
  intro H enc w base spare held n cs hh
  obtain ⟨x, hx⟩ := hh f (by simp)
  rw [ho, hc] at hx
  exact h hx
theorem ReadsF.cons {α β : Type} {P : Program} {o : Nat} {f : Field} {fs : List Field} {d : Kd α} {d2 : Kd β} {ok : α → Prop} {ok2 : β → Prop} (ho : f.offset = o) (h : ReadsK P f.type d ok) (hc : P.cellsOf f.type = d.sz) (h2 : ReadsF P (o + d.sz) fs d2 ok2) : ReadsF P o (f :: fs) (Kd.pair d d2) (fun p => ok p.1 ∧ ok2 p.2) := by
  intro H enc w base spare held n cs hh
  obtain ⟨x, hx⟩ := hh f (by simp)
  rw [ho, hc] at hx
  obtain ⟨a, ha, hok⟩ := h hx
  obtain ⟨b, hb, hok2⟩ := h2 (fun g hg => hh g (by simp [hg]))
  refine ⟨(a, b), ⟨_, _, ?_, ha, hb⟩, hok, hok2⟩
  show (cs.drop o).take (d.sz + d2.sz) = _
  rw [List.take_add, List.drop_drop]
theorem ReadsK.struct {α : Type} {P : Program} {T : TypeId} {fs : Array Field} {d : Kd α} {ok : α → Prop} (hT : P.underlying T = some (.struct fs)) (hc : P.cellsOf T = d.sz) (h : ReadsF P 0 fs.toList d ok) : ReadsK P T d ok := by
  intro H enc w base spare held fuel cs x hx
  obtain ⟨xs, n, _, _, hl, hlen, hf⟩ := DataW.trod_struct hT hx
  obtain ⟨a, ha, hok⟩ := h (n := n) (cs := cs) (enc := enc) (w := w) (base := base) (spare := spare) (held := held) (fun f hf2 => by
    obtain ⟨i, hi, rfl⟩ := List.mem_iff_getElem.1 hf2
    have h1 := hf i fs[i] (by simp at hi; exact Array.getElem?_eq_getElem hi)
    have hi2 : i < xs.length := by simp at hi; omega
    rw [List.getElem?_eq_getElem hi2] at h1
    exact ⟨_, by simpa using h1⟩)
  refine ⟨a, ?_, hok⟩
  rwa [List.drop_zero, ← hc, ← hl, List.take_length] at ha
theorem ReadsK.iso {α β : Type} {P : Program} {T : TypeId} {d : Kd α} {ok : α → Prop} (h : ReadsK P T d ok) (f : β → α) (g : α → β) (hfg : ∀ a, f (g a) = a) : ReadsK P T (Kd.iso d f) (fun b => ok (f b)) := by
  intro H enc w base spare held fuel cs x hx
  obtain ⟨a, ha, hok⟩ := h hx
  refine ⟨g a, ?_, by show ok (f (g a)); rw [hfg]; exact hok⟩
  show d.K w (f (g a)) cs
  rw [hfg]
  exact ha
theorem agg_of {cs : Array Value} {L : List Value} (h : cs.toList = L) : cs = L.toArray := by rw [← h]
end Go.Proofs.YtpbboooeahmgpaaW.Mine


-- written by wip/gen_law.py
namespace Go.Proofs.Ytpbboooeahmgpaa.P
open Go.RowKit Go.Proofs.YtpbboooeahmgpaaW.PrintWords Go.Proofs.YtpbboooeahmgpaaW.PrintLast Go.Proofs.YtpbboooeahmgpaaW.PrintMore Go.Proofs.YtpbboooeahmgpaaW.Mine
open List (setIfInBounds_toArray set_cons_zero set_cons_succ)
attribute [local go_sem] max2_int min2_int max_two min_two max_three min_three max_four min_four
set_option linter.unusedVariables false
set_option linter.unusedSimpArgs false
set_option maxHeartbeats 8000000 in
set_option maxRecDepth 100000 in
theorem FnExactHeldAt_run0 (A0_0 : Option Addr) (c0_0 : Nat) (l0_0 : List (List Int)) (A1_0 : Option Addr) (c1_0 : Nat) (l1_0 : List (SlawsLoan)) (a2_0 : Int) (r1_0 : Int) (w : World) (hr0_0 : Kd.C (Kd.slice 5 (Kd.int .u8)) w A0_0 l0_0.length l0_0) (hc0_0 : l0_0.length ≤ c0_0) (hr1_0 : Kd.C klawsLoan w A1_0 l1_0.length l1_0) (hc1_0 : l1_0.length ≤ c1_0) (H1 : ∃ k, laws_szMemory.f k l0_0 1048576 = some r1_0) (P_ : r1_0 < 0) :
    Calls Try.prog 6 #[.agg #[.slice A0_0 l0_0.length c0_0], .slice A1_0 l1_0.length c1_0, .int .i64 a2_0] w fun e w' => e = .returned (.bool true) ∧ Below w.heap.size w w' := by
  have HR0_0 := Aside0.mk hr0_0; have HC0_0 := Aside0.mk hc0_0; clear hr0_0 hc0_0
  have HR1_0 := Aside0.mk hr1_0; have HC1_0 := Aside0.mk hc1_0; clear hr1_0 hc1_0
  obtain ⟨k, H1_⟩ := H1; have H1 := Aside0.mk H1_; clear H1_
  have Pb_ : decide (r1_0 < 0) = true := decide_eq_true P_; clear P_
  have HS0 : Aside0 (Stk w [] w) := ⟨Stk.nil w⟩
  go_enter Try.func6, Try.ntmps6
  refine reg (aF := ?_) (nw := ?_) [evB 0 3 [] 49 (fun s => #[.slice A0_0 l0_0.length c0_0]) 9999 [] (fun s => #[.slice A0_0 l0_0.length c0_0]), evP 1 6 [] (fun s => .bool false)] [] [] false 2 rfl rfl (by kernel_rfl) rfl (mf0) ?aF ?nw HS0.out ?hs ?_
  rotate_left 2
  case aF => intro s; simp only [putE, EvT.val, Act.put, setIfInBounds_toArray, set_cons_zero, set_cons_succ]; rfl
  case nw => intro s; simp only [thA, bsA, List.nil_append, List.cons_append, List.append_nil, if_true, if_false, Nat.reduceLT, set_cons_zero, set_cons_succ]; rfl
  case hs => exact ⟨bv rfl (fun s w => by go_simp; try rfl), pu rfl, trivial⟩
  intro s1 w1 h; have HS1 := Aside0.mk h; clear h HS0
  refine tl0 ?_
  refine reg0 (aF := ?_) [] [0] false 1 rfl rfl (by kernel_rfl) rfl (fun _ => rfl) ?aF HS1.out ?hs ?_
  rotate_left 1
  case aF => intro s; simp only [putE, EvT.val, Act.put, setIfInBounds_toArray, set_cons_zero, set_cons_succ]; rfl
  case hs => exact trivial
  intro s2 w2 h; have HS2 := Aside0.mk h; clear h HS1
  refine tlP (v := .int .i64 1048576) 7 rfl ?_
  refine tl0 ?_
  refine reg0 (aF := ?_) [evL 0 19 [] (fun s => .agg #[.slice A0_0 l0_0.length c0_0]), evP 1 20 [] (fun s => .int .i64 1048576), evC 2 (some 21) [] (fun s x => .int .i64 r1_0) (fun s x => [])] [3] false 4 rfl rfl (by kernel_rfl) rfl (fun _ => rfl) ?aF HS2.out ?hs ?_
  rotate_left 1
  case aF => intro s; simp only [putE, EvT.val, Act.put, setIfInBounds_toArray, set_cons_zero, set_cons_succ]; rfl
  case hs => exact ⟨ld rfl 0 (fun s => rfl) (fun s w h => by have h0 := h 0 _ rfl; clear h; go_simp; try rfl), pu rfl, cl rfl (fun s => #[.agg #[.slice A0_0 l0_0.length c0_0], .int .i64 1048576]) Try.func24 (fun s w1 h => (laws_szMemory.calls _ _ _ _ _ _ _ (Kd.C_below HR0_0.out h.hb) HC0_0.out H1.out).mono (by rintro e w2 ⟨rfl, hb⟩; exact fin0 hb)), trivial⟩
  intro s3 w3 h; have HS3 := Aside0.mk h; clear h HS2
  refine tlP (v := .int .i64 r1_0) 7 rfl ?_
  refine tl0 ?_
  refine wp_seq ?_
  refine reg0 (aF := ?_) [evP 0 22 [] (fun s => .int .i64 r1_0), evP 1 23 [] (fun s => .bool true)] [] false 2 rfl rfl (by kernel_rfl) rfl (fun _ => rfl) ?aF HS3.out ?hs ?_
  rotate_left 1
  case aF => intro s; simp only [putE, EvT.val, Act.put, setIfInBounds_toArray, set_cons_zero, set_cons_succ]; rfl
  case hs => exact ⟨pu rfl, pb (q := .lss) Pb_ rfl, trivial⟩
  intro s4 w4 h; have HS4 := Aside0.mk h; clear h HS3
  refine tl0 ?_
  refine wp_cond_true rfl ?_
  refine reg0 (aF := ?_) [] [0] false 1 rfl rfl (by kernel_rfl) rfl (fun _ => rfl) ?aF HS4.out ?hs ?_
  rotate_left 1
  case aF => intro s; simp only [putE, EvT.val, Act.put, setIfInBounds_toArray, set_cons_zero, set_cons_succ]; rfl
  case hs => exact trivial
  intro s5 w5 h; have HS5 := Aside0.mk h; clear h HS4
  refine tlP (v := .bool true) 6 rfl ?_
  refine tl0 ?_
  refine wp_ret ?_
  go_ret
  exact ⟨by first | rfl | simp, HS5.out.hb⟩
set_option maxHeartbeats 8000000 in
set_option maxRecDepth 100000 in
theorem FnExactHeldAt_run1 (A0_0 : Option Addr) (c0_0 : Nat) (l0_0 : List (List Int)) (A1_0 : Option Addr) (c1_0 : Nat) (l1_0 : List (SlawsLoan)) (a2_0 : Int) (r1_0 : Int) (r2_0 : Int) (w : World) (hr0_0 : Kd.C (Kd.slice 5 (Kd.int .u8)) w A0_0 l0_0.length l0_0) (hc0_0 : l0_0.length ≤ c0_0) (hr1_0 : Kd.C klawsLoan w A1_0 l1_0.length l1_0) (hc1_0 : l1_0.length ≤ c1_0) (H1 : ∃ k, laws_szMemory.f k l0_0 1048576 = some r1_0) (H2 : laws_szLoanS.f l1_0 r1_0 = some r2_0) (N_r1_0 : ¬ r1_0 < 0) (P_ : r2_0 < 0) :
    Calls Try.prog 6 #[.agg #[.slice A0_0 l0_0.length c0_0], .slice A1_0 l1_0.length c1_0, .int .i64 a2_0] w fun e w' => e = .returned (.bool true) ∧ Below w.heap.size w w' := by
  have HR0_0 := Aside0.mk hr0_0; have HC0_0 := Aside0.mk hc0_0; clear hr0_0 hc0_0
  have HR1_0 := Aside0.mk hr1_0; have HC1_0 := Aside0.mk hc1_0; clear hr1_0 hc1_0
  obtain ⟨k, H1_⟩ := H1; have H1 := Aside0.mk H1_; clear H1_
  have H2_ := Aside0.mk H2; clear H2; have H2 := H2_; clear H2_
  have Nb_r1_0 : decide (r1_0 < 0) = false := decide_eq_false N_r1_0; clear N_r1_0
  have Pb_ : decide (r2_0 < 0) = true := decide_eq_true P_; clear P_
  have HS0 : Aside0 (Stk w [] w) := ⟨Stk.nil w⟩
  go_enter Try.func6, Try.ntmps6
  refine reg (aF := ?_) (nw := ?_) [evB 0 3 [] 49 (fun s => #[.slice A0_0 l0_0.length c0_0]) 9999 [] (fun s => #[.slice A0_0 l0_0.length c0_0]), evP 1 6 [] (fun s => .bool false)] [] [] false 2 rfl rfl (by kernel_rfl) rfl (mf0) ?aF ?nw HS0.out ?hs ?_
  rotate_left 2
  case aF => intro s; simp only [putE, EvT.val, Act.put, setIfInBounds_toArray, set_cons_zero, set_cons_succ]; rfl
  case nw => intro s; simp only [thA, bsA, List.nil_append, List.cons_append, List.append_nil, if_true, if_false, Nat.reduceLT, set_cons_zero, set_cons_succ]; rfl
  case hs => exact ⟨bv rfl (fun s w => by go_simp; try rfl), pu rfl, trivial⟩
  intro s1 w1 h; have HS1 := Aside0.mk h; clear h HS0
  refine tl0 ?_
  refine reg0 (aF := ?_) [] [0] false 1 rfl rfl (by kernel_rfl) rfl (fun _ => rfl) ?aF HS1.out ?hs ?_
  rotate_left 1
  case aF => intro s; simp only [putE, EvT.val, Act.put, setIfInBounds_toArray, set_cons_zero, set_cons_succ]; rfl
  case hs => exact trivial
  intro s2 w2 h; have HS2 := Aside0.mk h; clear h HS1
  refine tlP (v := .int .i64 1048576) 7 rfl ?_
  refine tl0 ?_
  refine reg0 (aF := ?_) [evL 0 19 [] (fun s => .agg #[.slice A0_0 l0_0.length c0_0]), evP 1 20 [] (fun s => .int .i64 1048576), evC 2 (some 21) [] (fun s x => .int .i64 r1_0) (fun s x => [])] [3] false 4 rfl rfl (by kernel_rfl) rfl (fun _ => rfl) ?aF HS2.out ?hs ?_
  rotate_left 1
  case aF => intro s; simp only [putE, EvT.val, Act.put, setIfInBounds_toArray, set_cons_zero, set_cons_succ]; rfl
  case hs => exact ⟨ld rfl 0 (fun s => rfl) (fun s w h => by have h0 := h 0 _ rfl; clear h; go_simp; try rfl), pu rfl, cl rfl (fun s => #[.agg #[.slice A0_0 l0_0.length c0_0], .int .i64 1048576]) Try.func24 (fun s w1 h => (laws_szMemory.calls _ _ _ _ _ _ _ (Kd.C_below HR0_0.out h.hb) HC0_0.out H1.out).mono (by rintro e w2 ⟨rfl, hb⟩; exact fin0 hb)), trivial⟩
  intro s3 w3 h; have HS3 := Aside0.mk h; clear h HS2
  refine tlP (v := .int .i64 r1_0) 7 rfl ?_
  refine tl0 ?_
  refine wp_seq ?_
  refine reg0 (aF := ?_) [evP 0 22 [] (fun s => .int .i64 r1_0), evP 1 23 [] (fun s => .bool false)] [] false 2 rfl rfl (by kernel_rfl) rfl (fun _ => rfl) ?aF HS3.out ?hs ?_
  rotate_left 1
  case aF => intro s; simp only [putE, EvT.val, Act.put, setIfInBounds_toArray, set_cons_zero, set_cons_succ]; rfl
  case hs => exact ⟨pu rfl, pb (q := .lss) Nb_r1_0 rfl, trivial⟩
  intro s4 w4 h; have HS4 := Aside0.mk h; clear h HS3
  refine tl0 ?_
  refine wp_cond_false rfl ?_
  refine wp_skip ?_
  refine thN ?_
  refine reg0 (aF := ?_) [evP 0 24 [] (fun s => .slice A1_0 l1_0.length c1_0), evP 1 25 [] (fun s => .int .i64 r1_0), evC 2 (some 26) [] (fun s x => .int .i64 r2_0) (fun s x => [])] [3] false 4 rfl rfl (by kernel_rfl) rfl (fun _ => rfl) ?aF HS4.out ?hs ?_
  rotate_left 1
  case aF => intro s; simp only [putE, EvT.val, Act.put, setIfInBounds_toArray, set_cons_zero, set_cons_succ]; rfl
  case hs => exact ⟨pu rfl, pu rfl, cl rfl (fun s => #[.slice A1_0 l1_0.length c1_0, .int .i64 r1_0]) Try.func25 (fun s w1 h => (laws_szLoanS.calls _ _ _ _ _ _ (Kd.C_below HR1_0.out h.hb) HC1_0.out H2.out).mono (by rintro e w2 ⟨rfl, hd⟩; exact fin0 hd.below)), trivial⟩
  intro s5 w5 h; have HS5 := Aside0.mk h; clear h HS4
  refine tlP (v := .int .i64 r2_0) 7 rfl ?_
  refine tl0 ?_
  refine wp_seq ?_
  refine reg0 (aF := ?_) [evP 0 27 [] (fun s => .int .i64 r2_0), evP 1 28 [] (fun s => .bool true)] [] false 2 rfl rfl (by kernel_rfl) rfl (fun _ => rfl) ?aF HS5.out ?hs ?_
  rotate_left 1
  case aF => intro s; simp only [putE, EvT.val, Act.put, setIfInBounds_toArray, set_cons_zero, set_cons_succ]; rfl
  case hs => exact ⟨pu rfl, pb (q := .lss) Pb_ rfl, trivial⟩
  intro s6 w6 h; have HS6 := Aside0.mk h; clear h HS5
  refine tl0 ?_
  refine wp_cond_true rfl ?_
  refine reg0 (aF := ?_) [] [0] false 1 rfl rfl (by kernel_rfl) rfl (fun _ => rfl) ?aF HS6.out ?hs ?_
  rotate_left 1
  case aF => intro s; simp only [putE, EvT.val, Act.put, setIfInBounds_toArray, set_cons_zero, set_cons_succ]; rfl
  case hs => exact trivial
  intro s7 w7 h; have HS7 := Aside0.mk h; clear h HS6
  refine tlP (v := .bool true) 6 rfl ?_
  refine tl0 ?_
  refine wp_ret ?_
  go_ret
  exact ⟨by first | rfl | simp, HS7.out.hb⟩
set_option maxHeartbeats 8000000 in
set_option maxRecDepth 100000 in
theorem FnExactHeldAt_run (A0_0 : Option Addr) (c0_0 : Nat) (l0_0 : List (List Int)) (A1_0 : Option Addr) (c1_0 : Nat) (l1_0 : List (SlawsLoan)) (a2_0 : Int) (r1_0 : Int) (r2_0 : Int) (r3_0 : List (List Int)) (r4_0 : List (SimplLoan)) (r5_0 : List Int) (r5_1 : Bool) (r10_0 : Int) (r10_1 : List (List Int)) (r11_0 : Int) (r11_1 : List SimplLoan) (r12_0 : Int) (r12_1 : List Int) (w : World) (hr0_0 : Kd.C (Kd.slice 5 (Kd.int .u8)) w A0_0 l0_0.length l0_0) (hc0_0 : l0_0.length ≤ c0_0) (hr1_0 : Kd.C klawsLoan w A1_0 l1_0.length l1_0) (hc1_0 : l1_0.length ≤ c1_0) (H1 : ∃ k, laws_szMemory.f k l0_0 1048576 = some r1_0) (H2 : laws_szLoanS.f l1_0 r1_0 = some r2_0) (H3 : laws_toMemory.f l0_0 = some r3_0) (H4 : ∃ k, laws_toLoanS.f k l1_0 = some r4_0) (H5 : ∃ k, spec_HeldAt.f k r3_0 r4_0 a2_0 = some (r5_0, r5_1)) (H6 : ∃ k, impl_HeldAt.f k r3_0 r4_0 a2_0 = some (r5_0, r5_1)) (H7 : ∃ k, laws_eqIntS.f k r5_0 r5_0 = some true) (H8 : ∃ k, laws_eqMemory.f k r3_0 r3_0 = some true) (H9 : ∃ k, laws_eqLoanS.f k r4_0 r4_0 = some true) (H10 : laws_markMemory.f r3_0 1 = some (r10_0, r10_1)) (H11 : laws_markLoanS.f r4_0 r10_0 = some (r11_0, r11_1)) (H12 : laws_markIntS.f r5_0 1 = some (r12_0, r12_1)) (H13 : ∃ k, laws_heldIntS.f k r12_1 1 = some r12_0) (N_r11_0 : ¬ r11_0 < 0) (N_r12_0 : ¬ r12_0 < 0) (N_r1_0 : ¬ r1_0 < 0) (N_r2_0 : ¬ r2_0 < 0) :
    Calls Try.prog 6 #[.agg #[.slice A0_0 l0_0.length c0_0], .slice A1_0 l1_0.length c1_0, .int .i64 a2_0] w fun e w' => e = .returned (.bool true) ∧ Below w.heap.size w w' := by
  have HR0_0 := Aside0.mk hr0_0; have HC0_0 := Aside0.mk hc0_0; clear hr0_0 hc0_0
  have HR1_0 := Aside0.mk hr1_0; have HC1_0 := Aside0.mk hc1_0; clear hr1_0 hc1_0
  obtain ⟨k, H1_⟩ := H1; have H1 := Aside0.mk H1_; clear H1_
  have H2_ := Aside0.mk H2; clear H2; have H2 := H2_; clear H2_
  have H3_ := Aside0.mk H3; clear H3; have H3 := H3_; clear H3_
  obtain ⟨k, H4_⟩ := H4; have H4 := Aside0.mk H4_; clear H4_
  obtain ⟨k, H5_⟩ := H5; have H5 := Aside0.mk H5_; clear H5_
  obtain ⟨k, H6_⟩ := H6; have H6 := Aside0.mk H6_; clear H6_
  obtain ⟨k, H7_⟩ := H7; have H7 := Aside0.mk H7_; clear H7_
  obtain ⟨k, H8_⟩ := H8; have H8 := Aside0.mk H8_; clear H8_
  obtain ⟨k, H9_⟩ := H9; have H9 := Aside0.mk H9_; clear H9_
  have H10_ := Aside0.mk H10; clear H10; have H10 := H10_; clear H10_
  have H11_ := Aside0.mk H11; clear H11; have H11 := H11_; clear H11_
  have H12_ := Aside0.mk H12; clear H12; have H12 := H12_; clear H12_
  obtain ⟨k, H13_⟩ := H13; have H13 := Aside0.mk H13_; clear H13_
  have Nb_r11_0 : decide (r11_0 < 0) = false := decide_eq_false N_r11_0; clear N_r11_0
  have Nb_r12_0 : decide (r12_0 < 0) = false := decide_eq_false N_r12_0; clear N_r12_0
  have Nb_r1_0 : decide (r1_0 < 0) = false := decide_eq_false N_r1_0; clear N_r1_0
  have Nb_r2_0 : decide (r2_0 < 0) = false := decide_eq_false N_r2_0; clear N_r2_0
  have HS0 : Aside0 (Stk w [] w) := ⟨Stk.nil w⟩
  go_enter Try.func6, Try.ntmps6
  refine reg (aF := ?_) (nw := ?_) [evB 0 3 [] 49 (fun s => #[.slice A0_0 l0_0.length c0_0]) 9999 [] (fun s => #[.slice A0_0 l0_0.length c0_0]), evP 1 6 [] (fun s => .bool false)] [] [] false 2 rfl rfl (by kernel_rfl) rfl (mf0) ?aF ?nw HS0.out ?hs ?_
  rotate_left 2
  case aF => intro s; simp only [putE, EvT.val, Act.put, setIfInBounds_toArray, set_cons_zero, set_cons_succ]; rfl
  case nw => intro s; simp only [thA, bsA, List.nil_append, List.cons_append, List.append_nil, if_true, if_false, Nat.reduceLT, set_cons_zero, set_cons_succ]; rfl
  case hs => exact ⟨bv rfl (fun s w => by go_simp; try rfl), pu rfl, trivial⟩
  intro s1 w1 h; have HS1 := Aside0.mk h; clear h HS0
  refine tl0 ?_
  refine reg0 (aF := ?_) [] [0] false 1 rfl rfl (by kernel_rfl) rfl (fun _ => rfl) ?aF HS1.out ?hs ?_
  rotate_left 1
  case aF => intro s; simp only [putE, EvT.val, Act.put, setIfInBounds_toArray, set_cons_zero, set_cons_succ]; rfl
  case hs => exact trivial
  intro s2 w2 h; have HS2 := Aside0.mk h; clear h HS1
  refine tlP (v := .int .i64 1048576) 7 rfl ?_
  refine tl0 ?_
  refine reg0 (aF := ?_) [evL 0 19 [] (fun s => .agg #[.slice A0_0 l0_0.length c0_0]), evP 1 20 [] (fun s => .int .i64 1048576), evC 2 (some 21) [] (fun s x => .int .i64 r1_0) (fun s x => [])] [3] false 4 rfl rfl (by kernel_rfl) rfl (fun _ => rfl) ?aF HS2.out ?hs ?_
  rotate_left 1
  case aF => intro s; simp only [putE, EvT.val, Act.put, setIfInBounds_toArray, set_cons_zero, set_cons_succ]; rfl
  case hs => exact ⟨ld rfl 0 (fun s => rfl) (fun s w h => by have h0 := h 0 _ rfl; clear h; go_simp; try rfl), pu rfl, cl rfl (fun s => #[.agg #[.slice A0_0 l0_0.length c0_0], .int .i64 1048576]) Try.func24 (fun s w1 h => (laws_szMemory.calls _ _ _ _ _ _ _ (Kd.C_below HR0_0.out h.hb) HC0_0.out H1.out).mono (by rintro e w2 ⟨rfl, hb⟩; exact fin0 hb)), trivial⟩
  intro s3 w3 h; have HS3 := Aside0.mk h; clear h HS2
  refine tlP (v := .int .i64 r1_0) 7 rfl ?_
  refine tl0 ?_
  refine wp_seq ?_
  refine reg0 (aF := ?_) [evP 0 22 [] (fun s => .int .i64 r1_0), evP 1 23 [] (fun s => .bool false)] [] false 2 rfl rfl (by kernel_rfl) rfl (fun _ => rfl) ?aF HS3.out ?hs ?_
  rotate_left 1
  case aF => intro s; simp only [putE, EvT.val, Act.put, setIfInBounds_toArray, set_cons_zero, set_cons_succ]; rfl
  case hs => exact ⟨pu rfl, pb (q := .lss) Nb_r1_0 rfl, trivial⟩
  intro s4 w4 h; have HS4 := Aside0.mk h; clear h HS3
  refine tl0 ?_
  refine wp_cond_false rfl ?_
  refine wp_skip ?_
  refine thN ?_
  refine reg0 (aF := ?_) [evP 0 24 [] (fun s => .slice A1_0 l1_0.length c1_0), evP 1 25 [] (fun s => .int .i64 r1_0), evC 2 (some 26) [] (fun s x => .int .i64 r2_0) (fun s x => [])] [3] false 4 rfl rfl (by kernel_rfl) rfl (fun _ => rfl) ?aF HS4.out ?hs ?_
  rotate_left 1
  case aF => intro s; simp only [putE, EvT.val, Act.put, setIfInBounds_toArray, set_cons_zero, set_cons_succ]; rfl
  case hs => exact ⟨pu rfl, pu rfl, cl rfl (fun s => #[.slice A1_0 l1_0.length c1_0, .int .i64 r1_0]) Try.func25 (fun s w1 h => (laws_szLoanS.calls _ _ _ _ _ _ (Kd.C_below HR1_0.out h.hb) HC1_0.out H2.out).mono (by rintro e w2 ⟨rfl, hd⟩; exact fin0 hd.below)), trivial⟩
  intro s5 w5 h; have HS5 := Aside0.mk h; clear h HS4
  refine tlP (v := .int .i64 r2_0) 7 rfl ?_
  refine tl0 ?_
  refine wp_seq ?_
  refine reg0 (aF := ?_) [evP 0 27 [] (fun s => .int .i64 r2_0), evP 1 28 [] (fun s => .bool false)] [] false 2 rfl rfl (by kernel_rfl) rfl (fun _ => rfl) ?aF HS5.out ?hs ?_
  rotate_left 1
  case aF => intro s; simp only [putE, EvT.val, Act.put, setIfInBounds_toArray, set_cons_zero, set_cons_succ]; rfl
  case hs => exact ⟨pu rfl, pb (q := .lss) Nb_r2_0 rfl, trivial⟩
  intro s6 w6 h; have HS6 := Aside0.mk h; clear h HS5
  refine tl0 ?_
  refine wp_cond_false rfl ?_
  refine wp_skip ?_
  refine thN ?_
  refine reg (aF := ?_) (nw := ?_) [evL 0 30 [] (fun s => .agg #[.slice A0_0 l0_0.length c0_0]), evC 1 (some 31) [] (fun s x => .agg #[.slice x.A r3_0.length x.c]) (fun s x => [rowS (Kd.slice 5 (Kd.int .u8)) 22 w x.lo x.hi x.A x.c r3_0]), evP 2 32 [] (fun s => .slice A1_0 l1_0.length c1_0), evC 3 (some 33) [] (fun s x => .slice x.A r4_0.length x.c) (fun s x => [rowR kimplLoan 30 w x.lo x.hi x.A x.c r4_0]), evP 4 34 [] (fun s => .int .i64 a2_0), evC 5 (some 35) [1, 3] (fun s x => .tuple #[.slice x.A r5_0.length x.c, .bool r5_1]) (fun s x => [rowR (Kd.int .i64) 3 w x.lo x.hi x.A x.c r5_0]), evP 6 29 [5] (fun s => .tuple #[.slice (s 5).A r5_0.length (s 5).c, .bool r5_1]), evP 7 36 [5] (fun s => .slice (s 5).A r5_0.length (s 5).c), evP 8 37 [] (fun s => .bool r5_1), evP 9 8 [5] (fun s => .slice (s 5).A r5_0.length (s 5).c)] [10] [] false 11 rfl rfl (by kernel_rfl) rfl (mf0) ?aF ?nw HS6.out ?hs ?_
  rotate_left 2
  case aF => intro s; simp only [putE, EvT.val, Act.put, setIfInBounds_toArray, set_cons_zero, set_cons_succ]; rfl
  case nw => intro s; simp only [thA, bsA, List.nil_append, List.cons_append, List.append_nil, if_true, if_false, Nat.reduceLT, set_cons_zero, set_cons_succ]; rfl
  case hs => exact ⟨ld rfl 0 (fun s => rfl) (fun s w h => by have h0 := h 0 _ rfl; clear h; go_simp; try rfl), cl rfl (fun s => #[.agg #[.slice A0_0 l0_0.length c0_0]]) Try.func27 (fun s w1 h => (laws_toMemory.calls _ _ _ _ _ (Kd.C_below HR0_0.out h.hb) HC0_0.out H3.out).mono (by rintro e w2 ⟨v0_, rfl, ho0, hb⟩; obtain ⟨x, rfl, hx⟩ := fin_S ho0 hb h.hb.size; exact ⟨x, rfl, hx⟩)), pu rfl, cl rfl (fun s => #[.slice A1_0 l1_0.length c1_0]) Try.func28 (fun s w1 h => (laws_toLoanS.calls _ _ _ _ _ _ (Kd.C_below HR1_0.out h.hb) HC1_0.out H4.out).mono (by rintro e w2 ⟨v0_, rfl, ho0, hb⟩; obtain ⟨x, rfl, hx⟩ := fin_R ho0 hb h.hb.size; exact ⟨x, rfl, hx⟩)), pu rfl, cl rfl (fun s => #[.agg #[.slice (s 1).A r3_0.length (s 1).c], .slice (s 3).A r4_0.length (s 3).c, .int .i64 a2_0]) Try.func35 (fun s w1 h => (spec_HeldAt.calls _ _ _ _ _ _ _ _ _ _ _ (Kd.S_reads' (h.get 0 rfl)).2.2 (Kd.S_reads' (h.get 0 rfl)).2.1 (Kd.R_reads' (h.get 1 rfl)).2.2 (Kd.R_reads' (h.get 1 rfl)).2.1 H5.out).mono (by rintro e w2 ⟨v0_, rfl, ho0, hb⟩; obtain ⟨x, rfl, hx⟩ := fin_R ho0 hb h.hb.size; exact ⟨x, rfl, hx⟩)), pu rfl, pu rfl, pu rfl, pu rfl, trivial⟩
  intro s7 w7 h; have HS7 := Aside0.mk h; clear h HS6
  refine tlP (v := .bool r5_1) 9 rfl ?_
  refine tl0 ?_
  refine reg (aF := ?_) (nw := ?_) [evL 0 38 [] (fun s => .agg #[.slice A0_0 l0_0.length c0_0]), evC 1 (some 39) [] (fun s x => .agg #[.slice x.A r3_0.length x.c]) (fun s x => [rowS (Kd.slice 5 (Kd.int .u8)) 22 w x.lo x.hi x.A x.c r3_0]), evB 2 10 [] 26 (fun s => #[.slice none 0 0]) 3 [1] (fun s => #[.slice (s 1).A r3_0.length (s 1).c]), evS 3] [] [] false 4 rfl rfl (by kernel_rfl) rfl (mf0) ?aF ?nw HS7.out ?hs ?_
  rotate_left 2
  case aF => intro s; simp only [putE, EvT.val, Act.put, setIfInBounds_toArray, set_cons_zero, set_cons_succ]; rfl
  case nw => intro s; simp only [thA, bsA, List.nil_append, List.cons_append, List.append_nil, if_true, if_false, Nat.reduceLT, set_cons_zero, set_cons_succ]; rfl
  case hs => exact ⟨ld rfl 3 (fun s => rfl) (fun s w h => by have h0 := h 0 _ rfl; clear h; go_simp; try rfl), cl rfl (fun s => #[.agg #[.slice A0_0 l0_0.length c0_0]]) Try.func27 (fun s w1 h => (laws_toMemory.calls _ _ _ _ _ (Kd.C_below HR0_0.out h.hb) HC0_0.out H3.out).mono (by rintro e w2 ⟨v0_, rfl, ho0, hb⟩; obtain ⟨x, rfl, hx⟩ := fin_S ho0 hb h.hb.size; exact ⟨x, rfl, hx⟩)), bv rfl (fun s w => by go_simp; try rfl), st rfl 2 0 (fun s => [.slice (s 1).A r3_0.length (s 1).c]) rfl (fun s w h hf => by have h0 := h 0 _ rfl; have f0 := hf 0; clear h hf; go_simp; try rfl), trivial⟩
  intro s8 w8 h; have HS8 := Aside0.mk h; clear h HS7
  refine tl0 ?_
  refine reg (aF := ?_) (nw := ?_) [evP 0 40 [] (fun s => .slice A1_0 l1_0.length c1_0), evC 1 (some 41) [] (fun s x => .slice x.A r4_0.length x.c) (fun s x => [rowR kimplLoan 30 w x.lo x.hi x.A x.c r4_0])] [2] [] false 3 rfl rfl (by kernel_rfl) rfl (mf0) ?aF ?nw HS8.out ?hs ?_
  rotate_left 2
  case aF => intro s; simp only [putE, EvT.val, Act.put, setIfInBounds_toArray, set_cons_zero, set_cons_succ]; rfl
  case nw => intro s; simp only [thA, bsA, List.nil_append, List.cons_append, List.append_nil, if_true, if_false, Nat.reduceLT, set_cons_zero, set_cons_succ]; rfl
  case hs => exact ⟨pu rfl, cl rfl (fun s => #[.slice A1_0 l1_0.length c1_0]) Try.func28 (fun s w1 h => (laws_toLoanS.calls _ _ _ _ _ _ (Kd.C_below HR1_0.out h.hb) HC1_0.out H4.out).mono (by rintro e w2 ⟨v0_, rfl, ho0, hb⟩; obtain ⟨x, rfl, hx⟩ := fin_R ho0 hb h.hb.size; exact ⟨x, rfl, hx⟩)), trivial⟩
  intro s9 w9 h; have HS9 := Aside0.mk h; clear h HS8
  refine tlP (v := .slice (s9 1).A r4_0.length (s9 1).c) 11 rfl ?_
  refine tl0 ?_
  refine reg (aF := ?_) (nw := ?_) [evL 0 43 [] (fun s => .agg #[.slice (s8 1).A r3_0.length (s8 1).c]), evP 1 44 [] (fun s => .slice (s9 1).A r4_0.length (s9 1).c), evP 2 45 [] (fun s => .int .i64 a2_0), evC 3 (some 46) [] (fun s x => .tuple #[.slice x.A r5_0.length x.c, .bool r5_1]) (fun s x => [rowR (Kd.int .i64) 3 w x.lo x.hi x.A x.c r5_0]), evP 4 42 [3] (fun s => .tuple #[.slice (s 3).A r5_0.length (s 3).c, .bool r5_1]), evP 5 47 [3] (fun s => .slice (s 3).A r5_0.length (s 3).c), evP 6 48 [] (fun s => .bool r5_1), evP 7 12 [3] (fun s => .slice (s 3).A r5_0.length (s 3).c)] [8] [] false 9 rfl rfl (by kernel_rfl) rfl (mf0) ?aF ?nw HS9.out ?hs ?_
  rotate_left 2
  case aF => intro s; simp only [putE, EvT.val, Act.put, setIfInBounds_toArray, set_cons_zero, set_cons_succ]; rfl
  case nw => intro s; simp only [thA, bsA, List.nil_append, List.cons_append, List.append_nil, if_true, if_false, Nat.reduceLT, set_cons_zero, set_cons_succ]; rfl
  case hs => exact ⟨ld rfl 2 (fun s => rfl) (fun s w h => by have h0 := h 0 _ rfl; clear h; go_simp; try rfl), pu rfl, pu rfl, cl rfl (fun s => #[.agg #[.slice (s8 1).A r3_0.length (s8 1).c], .slice (s9 1).A r4_0.length (s9 1).c, .int .i64 a2_0]) Try.func36 (fun s w1 h => (impl_HeldAt.calls _ _ _ _ _ _ _ _ _ _ _ (Kd.S_reads' (h.get 1 rfl)).2.2 (Kd.S_reads' (h.get 1 rfl)).2.1 (Kd.R_reads' (h.get 0 rfl)).2.2 (Kd.R_reads' (h.get 0 rfl)).2.1 H6.out).mono (by rintro e w2 ⟨v0_, rfl, ho0, hb⟩; obtain ⟨x, rfl, hx⟩ := fin_R ho0 hb h.hb.size; exact ⟨x, rfl, hx⟩)), pu rfl, pu rfl, pu rfl, pu rfl, trivial⟩
  intro s10 w10 h; have HS10 := Aside0.mk h; clear h HS9
  refine tlP (v := .bool r5_1) 13 rfl ?_
  refine tl0 ?_
  refine wp_seq ?_
  refine reg0 (aF := ?_) [evP 0 49 [] (fun s => .slice (s10 3).A r5_0.length (s10 3).c), evP 1 50 [] (fun s => .slice (s7 5).A r5_0.length (s7 5).c), evC 2 (some 51) [] (fun s x => .bool true) (fun s x => []), evP 3 52 [] (fun s => .bool false), evP 4 53 [] (fun s => .bool false), evP 5 54 [] (fun s => .bool r5_1), evP 6 55 [] (fun s => .bool r5_1), evP 7 56 [] (fun s => .bool false), evP 8 57 [] (fun s => .bool false)] [] false 9 rfl rfl (by kernel_rfl) rfl (fun _ => rfl) ?aF HS10.out ?hs ?_
  rotate_left 1
  case aF => intro s; simp only [putE, EvT.val, Act.put, setIfInBounds_toArray, set_cons_zero, set_cons_succ]; rfl
  case hs => exact ⟨pu rfl, pu rfl, cl rfl (fun s => #[.slice (s10 3).A r5_0.length (s10 3).c, .slice (s7 5).A r5_0.length (s7 5).c]) Try.func37 (fun s w1 h => (laws_eqIntS.calls _ _ _ _ _ _ _ _ _ (Kd.R_reads' (h.get 0 rfl)).2.2 (Kd.R_reads' (h.get 0 rfl)).2.1 (Kd.R_reads' (h.get 6 rfl)).2.2 (Kd.R_reads' (h.get 6 rfl)).2.1 H7.out).mono (by rintro e w2 ⟨rfl, hd⟩; exact fin0 hd.below)), pu rfl, pu rfl, pu rfl, pu rfl, pn Try.underlying4 rfl, pu rfl, trivial⟩
  intro s11 w11 h; have HS11 := Aside0.mk h; clear h HS10
  refine tl0 ?_
  refine wp_cond_false rfl ?_
  refine wp_skip ?_
  refine thN ?_
  refine wp_seq ?_
  refine reg (aF := ?_) (nw := ?_) [evR 0 58 3 (fun s => .agg #[.slice (s8 1).A r3_0.length (s8 1).c]), evL 1 59 [] (fun s => .agg #[.slice A0_0 l0_0.length c0_0]), evC 2 (some 60) [] (fun s x => .agg #[.slice x.A r3_0.length x.c]) (fun s x => [rowS (Kd.slice 5 (Kd.int .u8)) 22 w x.lo x.hi x.A x.c r3_0]), evC 3 (some 61) [2] (fun s x => .bool true) (fun s x => []), evP 4 62 [] (fun s => .bool false)] [] [] true 5 rfl rfl (by kernel_rfl) rfl (mf0) ?aF ?nw HS11.out ?hs ?_
  rotate_left 2
  case aF => intro s; simp only [putE, EvT.val, Act.put, setIfInBounds_toArray, set_cons_zero, set_cons_succ]; rfl
  case nw => intro s; simp only [thA, bsA, List.nil_append, List.cons_append, List.append_nil, if_true, if_false, Nat.reduceLT, set_cons_zero, set_cons_succ]; rfl
  case hs => exact ⟨lr rfl 3 rfl (fun s w h => by have h0 := h 0 _ rfl; clear h; go_simp; try rfl), ld rfl 7 (fun s => rfl) (fun s w h => by have h0 := h 0 _ rfl; clear h; go_simp; try rfl), cl rfl (fun s => #[.agg #[.slice A0_0 l0_0.length c0_0]]) Try.func27 (fun s w1 h => (laws_toMemory.calls _ _ _ _ _ (Kd.C_below HR0_0.out h.hb) HC0_0.out H3.out).mono (by rintro e w2 ⟨v0_, rfl, ho0, hb⟩; obtain ⟨x, rfl, hx⟩ := fin_S ho0 hb h.hb.size; exact ⟨x, rfl, hx⟩)), cl rfl (fun s => #[.agg #[.slice (s8 1).A r3_0.length (s8 1).c], .agg #[.slice (s 2).A r3_0.length (s 2).c]]) Try.func31 (fun s w1 h => (laws_eqMemory.calls _ _ _ _ _ _ _ _ _ (Kd.S_reads' (h.get 3 rfl)).2.2 (Kd.S_reads' (h.get 3 rfl)).2.1 (Kd.S_reads' (h.get 0 rfl)).2.2 (Kd.S_reads' (h.get 0 rfl)).2.1 H8.out).mono (by rintro e w2 ⟨rfl, hb⟩; exact fin0 hb)), pu rfl, trivial⟩
  intro s12 w12 h; have HS12 := Aside0.mk h; clear h HS11
  refine tl0 ?_
  refine wp_cond_false rfl ?_
  refine wp_skip ?_
  refine thN ?_
  refine wp_seq ?_
  refine reg (aF := ?_) (nw := ?_) [evP 0 63 [] (fun s => .slice (s9 1).A r4_0.length (s9 1).c), evP 1 64 [] (fun s => .slice A1_0 l1_0.length c1_0), evC 2 (some 65) [] (fun s x => .slice x.A r4_0.length x.c) (fun s x => [rowR kimplLoan 30 w x.lo x.hi x.A x.c r4_0]), evC 3 (some 66) [2] (fun s x => .bool true) (fun s x => []), evP 4 67 [] (fun s => .bool false)] [] [] false 5 rfl rfl (by kernel_rfl) rfl (mf0) ?aF ?nw HS12.out ?hs ?_
  rotate_left 2
  case aF => intro s; simp only [putE, EvT.val, Act.put, setIfInBounds_toArray, set_cons_zero, set_cons_succ]; rfl
  case nw => intro s; simp only [thA, bsA, List.nil_append, List.cons_append, List.append_nil, if_true, if_false, Nat.reduceLT, set_cons_zero, set_cons_succ]; rfl
  case hs => exact ⟨pu rfl, pu rfl, cl rfl (fun s => #[.slice A1_0 l1_0.length c1_0]) Try.func28 (fun s w1 h => (laws_toLoanS.calls _ _ _ _ _ _ (Kd.C_below HR1_0.out h.hb) HC1_0.out H4.out).mono (by rintro e w2 ⟨v0_, rfl, ho0, hb⟩; obtain ⟨x, rfl, hx⟩ := fin_R ho0 hb h.hb.size; exact ⟨x, rfl, hx⟩)), cl rfl (fun s => #[.slice (s9 1).A r4_0.length (s9 1).c, .slice (s 2).A r4_0.length (s 2).c]) Try.func32 (fun s w1 h => (laws_eqLoanS.calls _ _ _ _ _ _ _ _ _ (Kd.R_reads' (h.get 3 rfl)).2.2 (Kd.R_reads' (h.get 3 rfl)).2.1 (Kd.R_reads' (h.get 0 rfl)).2.2 (Kd.R_reads' (h.get 0 rfl)).2.1 H9.out).mono (by rintro e w2 ⟨rfl, hb⟩; exact fin0 hb)), pu rfl, trivial⟩
  intro s13 w13 h; have HS13 := Aside0.mk h; clear h HS12
  refine tl0 ?_
  refine wp_cond_false rfl ?_
  refine wp_skip ?_
  refine thN ?_
  refine reg0 (aF := ?_) [] [0] false 1 rfl rfl (by kernel_rfl) rfl (fun _ => rfl) ?aF HS13.out ?hs ?_
  rotate_left 1
  case aF => intro s; simp only [putE, EvT.val, Act.put, setIfInBounds_toArray, set_cons_zero, set_cons_succ]; rfl
  case hs => exact trivial
  intro s14 w14 h; have HS14 := Aside0.mk h; clear h HS13
  refine tlP (v := .int .i64 1) 14 rfl ?_
  refine tl0 ?_
  refine reg (aF := ?_) (nw := ?_) [evL 0 68 [] (fun s => .agg #[.slice (s8 1).A r3_0.length (s8 1).c]), evP 1 69 [] (fun s => .int .i64 1), evW 2 (some 70) [] (fun s => .int .i64 r10_0)] [3] [⟨4, 2, [], fun s => ⟨(s8 1).lo, (s8 1).hi, fun w_ => Kd.S (Kd.slice 5 (Kd.int .u8)) 22 w_ w.heap.size (fun k_ => (s8 1).lo ≤ k_ ∧ k_ < (s8 1).hi) (.slice (s8 1).A r3_0.length (s8 1).c) r10_1⟩⟩] false 4 rfl rfl (by kernel_rfl) rfl ((mf1 mf0)) ?aF ?nw HS14.out ?hs ?_
  rotate_left 2
  case aF => intro s; simp only [putE, EvT.val, Act.put, setIfInBounds_toArray, set_cons_zero, set_cons_succ]; rfl
  case nw => intro s; simp only [thA, bsA, List.nil_append, List.cons_append, List.append_nil, if_true, if_false, Nat.reduceLT, set_cons_zero, set_cons_succ]; rfl
  case hs => exact ⟨ld rfl 5 (fun s => rfl) (fun s w h => by have h0 := h 0 _ rfl; clear h; go_simp; try rfl), pu rfl, cw rfl 0 4 rfl rfl (fun s => #[.agg #[.slice (s8 1).A r3_0.length (s8 1).c], .int .i64 1]) Try.func38 (fun s w1 h => (laws_markMemory.calls (fun k_ => (s8 1).lo ≤ k_ ∧ k_ < (s8 1).hi) _ _ _ _ _ w _ h.hb (h.get 0 rfl) H10.out).mono (by rintro e w2 ⟨rfl, ho0, hb, hk⟩; exact ⟨rfl, Wrote.of 0 h rfl hb hk (fun w_ ha => S_again ho0 ha)⟩)), trivial⟩
  intro s15 w15 h; have HS15 := Aside0.mk h; clear h HS14
  refine tlP (v := .int .i64 r10_0) 14 rfl ?_
  refine tl0 ?_
  refine reg (aF := ?_) (nw := ?_) [evP 0 71 [] (fun s => .slice (s9 1).A r4_0.length (s9 1).c), evP 1 72 [] (fun s => .int .i64 r10_0), evW 2 (some 73) [] (fun s => .int .i64 r11_0)] [3] [⟨3, 2, [], fun s => ⟨(s9 1).lo, (s9 1).hi, fun w_ => Kd.R kimplLoan 30 w_ w.heap.size (fun k_ => (s9 1).lo ≤ k_ ∧ k_ < (s9 1).hi) (.slice (s9 1).A r4_0.length (s9 1).c) r11_1⟩⟩] false 4 rfl rfl (by kernel_rfl) rfl ((mf1 mf0)) ?aF ?nw HS15.out ?hs ?_
  rotate_left 2
  case aF => intro s; simp only [putE, EvT.val, Act.put, setIfInBounds_toArray, set_cons_zero, set_cons_succ]; rfl
  case nw => intro s; simp only [thA, bsA, List.nil_append, List.cons_append, List.append_nil, if_true, if_false, Nat.reduceLT, set_cons_zero, set_cons_succ]; rfl
  case hs => exact ⟨pu rfl, pu rfl, cw rfl 0 3 rfl rfl (fun s => #[.slice (s9 1).A r4_0.length (s9 1).c, .int .i64 r10_0]) Try.func39 (fun s w1 h => (laws_markLoanS.calls (fun k_ => (s9 1).lo ≤ k_ ∧ k_ < (s9 1).hi) _ _ _ _ _ w _ h.hb (h.get 0 rfl) H11.out).mono (by rintro e w2 ⟨rfl, ho0, hb, hk⟩; exact ⟨rfl, Wrote.of 0 h rfl hb hk (fun w_ ha => R_again ho0 ha)⟩)), trivial⟩
  intro s16 w16 h; have HS16 := Aside0.mk h; clear h HS15
  refine tlP (v := .int .i64 r11_0) 14 rfl ?_
  refine tl0 ?_
  refine wp_seq ?_
  refine reg0 (aF := ?_) [evP 0 74 [] (fun s => .int .i64 r11_0), evP 1 75 [] (fun s => .bool false), evP 2 76 [] (fun s => .bool false), evP 3 77 [] (fun s => .slice (s10 3).A r5_0.length (s10 3).c), evP 4 78 [] (fun s => .slice (s7 5).A r5_0.length (s7 5).c), evC 5 (some 79) [] (fun s x => .bool true) (fun s x => []), evP 6 80 [] (fun s => .bool false), evP 7 81 [] (fun s => .bool false), evP 8 82 [] (fun s => .bool false), evP 9 83 [] (fun s => .bool r5_1), evP 10 84 [] (fun s => .bool r5_1), evP 11 85 [] (fun s => .bool false), evP 12 86 [] (fun s => .bool false)] [] false 13 rfl rfl (by kernel_rfl) rfl (fun _ => rfl) ?aF HS16.out ?hs ?_
  rotate_left 1
  case aF => intro s; simp only [putE, EvT.val, Act.put, setIfInBounds_toArray, set_cons_zero, set_cons_succ]; rfl
  case hs => exact ⟨pu rfl, pb (q := .lss) Nb_r11_0 rfl, pu rfl, pu rfl, pu rfl, cl rfl (fun s => #[.slice (s10 3).A r5_0.length (s10 3).c, .slice (s7 5).A r5_0.length (s7 5).c]) Try.func37 (fun s w1 h => (laws_eqIntS.calls _ _ _ _ _ _ _ _ _ (Kd.R_reads' (h.get 2 rfl)).2.2 (Kd.R_reads' (h.get 2 rfl)).2.1 (Kd.R_reads' (h.get 8 rfl)).2.2 (Kd.R_reads' (h.get 8 rfl)).2.1 H7.out).mono (by rintro e w2 ⟨rfl, hd⟩; exact fin0 hd.below)), pu rfl, pu rfl, pu rfl, pu rfl, pu rfl, pn Try.underlying4 rfl, pu rfl, trivial⟩
  intro s17 w17 h; have HS17 := Aside0.mk h; clear h HS16
  refine tl0 ?_
  refine wp_cond_false rfl ?_
  refine wp_skip ?_
  refine thN ?_
  refine reg0 (aF := ?_) [] [0] false 1 rfl rfl (by kernel_rfl) rfl (fun _ => rfl) ?aF HS17.out ?hs ?_
  rotate_left 1
  case aF => intro s; simp only [putE, EvT.val, Act.put, setIfInBounds_toArray, set_cons_zero, set_cons_succ]; rfl
  case hs => exact trivial
  intro s18 w18 h; have HS18 := Aside0.mk h; clear h HS17
  refine tlP (v := .int .i64 1) 15 rfl ?_
  refine tl0 ?_
  refine reg (aF := ?_) (nw := ?_) [evP 0 87 [] (fun s => .slice (s10 3).A r5_0.length (s10 3).c), evP 1 88 [] (fun s => .int .i64 1), evW 2 (some 89) [] (fun s => .int .i64 r12_0)] [3] [⟨2, 2, [], fun s => ⟨(s10 3).lo, (s10 3).hi, fun w_ => Kd.R (Kd.int .i64) 3 w_ w.heap.size (fun k_ => (s10 3).lo ≤ k_ ∧ k_ < (s10 3).hi) (.slice (s10 3).A r5_0.length (s10 3).c) r12_1⟩⟩] false 4 rfl rfl (by kernel_rfl) rfl ((mf1 mf0)) ?aF ?nw HS18.out ?hs ?_
  rotate_left 2
  case aF => intro s; simp only [putE, EvT.val, Act.put, setIfInBounds_toArray, set_cons_zero, set_cons_succ]; rfl
  case nw => intro s; simp only [thA, bsA, List.nil_append, List.cons_append, List.append_nil, if_true, if_false, Nat.reduceLT, set_cons_zero, set_cons_succ]; rfl
  case hs => exact ⟨pu rfl, pu rfl, cw rfl 0 2 rfl rfl (fun s => #[.slice (s10 3).A r5_0.length (s10 3).c, .int .i64 1]) Try.func40 (fun s w1 h => (laws_markIntS.calls (fun k_ => (s10 3).lo ≤ k_ ∧ k_ < (s10 3).hi) _ _ _ _ _ w _ h.hb (h.get 0 rfl) H12.out).mono (by rintro e w2 ⟨rfl, ho0, hb, hk⟩; exact ⟨rfl, Wrote.of 0 h rfl hb hk (fun w_ ha => R_again ho0 ha)⟩)), trivial⟩
  intro s19 w19 h; have HS19 := Aside0.mk h; clear h HS18
  refine tlP (v := .int .i64 r12_0) 15 rfl ?_
  refine tl0 ?_
  refine reg0 (aF := ?_) [] [0] false 1 rfl rfl (by kernel_rfl) rfl (fun _ => rfl) ?aF HS19.out ?hs ?_
  rotate_left 1
  case aF => intro s; simp only [putE, EvT.val, Act.put, setIfInBounds_toArray, set_cons_zero, set_cons_succ]; rfl
  case hs => exact trivial
  intro s20 w20 h; have HS20 := Aside0.mk h; clear h HS19
  refine tlP (v := .int .i64 1) 16 rfl ?_
  refine tl0 ?_
  refine reg0 (aF := ?_) [evP 0 90 [] (fun s => .slice (s10 3).A r5_0.length (s10 3).c), evP 1 91 [] (fun s => .int .i64 1), evC 2 (some 92) [] (fun s x => .int .i64 r12_0) (fun s x => [])] [3] false 4 rfl rfl (by kernel_rfl) rfl (fun _ => rfl) ?aF HS20.out ?hs ?_
  rotate_left 1
  case aF => intro s; simp only [putE, EvT.val, Act.put, setIfInBounds_toArray, set_cons_zero, set_cons_succ]; rfl
  case hs => exact ⟨pu rfl, pu rfl, cl rfl (fun s => #[.slice (s10 3).A r5_0.length (s10 3).c, .int .i64 1]) Try.func41 (fun s w1 h => by rw [show r5_0.length = r12_1.length from (Kd.R_reads' (h.get 2 rfl)).1]; exact (laws_heldIntS.calls _ _ _ _ _ _ _ ((Kd.R_reads' (h.get 2 rfl)).1 ▸ (Kd.R_reads' (h.get 2 rfl)).2.2) ((Kd.R_reads' (h.get 2 rfl)).1 ▸ (Kd.R_reads' (h.get 2 rfl)).2.1) H13.out).mono (by rintro e w2 ⟨rfl, hd⟩; exact fin0 hd.below)), trivial⟩
  intro s21 w21 h; have HS21 := Aside0.mk h; clear h HS20
  refine tlP (v := .int .i64 r12_0) 16 rfl ?_
  refine tl0 ?_
  refine wp_seq ?_
  refine reg0 (aF := ?_) [evP 0 93 [] (fun s => .int .i64 r12_0), evP 1 94 [] (fun s => .bool false)] [] false 2 rfl rfl (by kernel_rfl) rfl (fun _ => rfl) ?aF HS21.out ?hs ?_
  rotate_left 1
  case aF => intro s; simp only [putE, EvT.val, Act.put, setIfInBounds_toArray, set_cons_zero, set_cons_succ]; rfl
  case hs => exact ⟨pu rfl, pb (q := .lss) Nb_r12_0 rfl, trivial⟩
  intro s22 w22 h; have HS22 := Aside0.mk h; clear h HS21
  refine tl0 ?_
  refine wp_cond_false rfl ?_
  refine wp_skip ?_
  refine thN ?_
  refine wp_seq ?_
  refine reg0 (aF := ?_) [evP 0 95 [] (fun s => .int .i64 r12_0), evP 1 96 [] (fun s => .int .i64 r12_0), evP 2 97 [] (fun s => .bool false)] [] false 3 rfl rfl (by kernel_rfl) rfl (fun _ => rfl) ?aF HS22.out ?hs ?_
  rotate_left 1
  case aF => intro s; simp only [putE, EvT.val, Act.put, setIfInBounds_toArray, set_cons_zero, set_cons_succ]; rfl
  case hs => exact ⟨pu rfl, pu rfl, pb (q := .neq) (bne_self_eq_false _) rfl, trivial⟩
  intro s23 w23 h; have HS23 := Aside0.mk h; clear h HS22
  refine tl0 ?_
  refine wp_cond_false rfl ?_
  refine wp_skip ?_
  refine thN ?_
  refine reg (aF := ?_) (nw := ?_) [evL 0 99 [] (fun s => .agg #[.slice A0_0 l0_0.length c0_0]), evC 1 (some 100) [] (fun s x => .agg #[.slice x.A r3_0.length x.c]) (fun s x => [rowS (Kd.slice 5 (Kd.int .u8)) 22 w x.lo x.hi x.A x.c r3_0]), evP 2 101 [] (fun s => .slice A1_0 l1_0.length c1_0), evC 3 (some 102) [] (fun s x => .slice x.A r4_0.length x.c) (fun s x => [rowR kimplLoan 30 w x.lo x.hi x.A x.c r4_0]), evP 4 103 [] (fun s => .int .i64 a2_0), evC 5 (some 104) [1, 3] (fun s x => .tuple #[.slice x.A r5_0.length x.c, .bool r5_1]) (fun s x => [rowR (Kd.int .i64) 3 w x.lo x.hi x.A x.c r5_0]), evP 6 98 [5] (fun s => .tuple #[.slice (s 5).A r5_0.length (s 5).c, .bool r5_1]), evP 7 105 [5] (fun s => .slice (s 5).A r5_0.length (s 5).c), evP 8 106 [] (fun s => .bool r5_1), evP 9 17 [5] (fun s => .slice (s 5).A r5_0.length (s 5).c)] [10] [] false 11 rfl rfl (by kernel_rfl) rfl (mf0) ?aF ?nw HS23.out ?hs ?_
  rotate_left 2
  case aF => intro s; simp only [putE, EvT.val, Act.put, setIfInBounds_toArray, set_cons_zero, set_cons_succ]; rfl
  case nw => intro s; simp only [thA, bsA, List.nil_append, List.cons_append, List.append_nil, if_true, if_false, Nat.reduceLT, set_cons_zero, set_cons_succ]; rfl
  case hs => exact ⟨ld rfl 9 (fun s => rfl) (fun s w h => by have h0 := h 0 _ rfl; clear h; go_simp; try rfl), cl rfl (fun s => #[.agg #[.slice A0_0 l0_0.length c0_0]]) Try.func27 (fun s w1 h => (laws_toMemory.calls _ _ _ _ _ (Kd.C_below HR0_0.out h.hb) HC0_0.out H3.out).mono (by rintro e w2 ⟨v0_, rfl, ho0, hb⟩; obtain ⟨x, rfl, hx⟩ := fin_S ho0 hb h.hb.size; exact ⟨x, rfl, hx⟩)), pu rfl, cl rfl (fun s => #[.slice A1_0 l1_0.length c1_0]) Try.func28 (fun s w1 h => (laws_toLoanS.calls _ _ _ _ _ _ (Kd.C_below HR1_0.out h.hb) HC1_0.out H4.out).mono (by rintro e w2 ⟨v0_, rfl, ho0, hb⟩; obtain ⟨x, rfl, hx⟩ := fin_R ho0 hb h.hb.size; exact ⟨x, rfl, hx⟩)), pu rfl, cl rfl (fun s => #[.agg #[.slice (s 1).A r3_0.length (s 1).c], .slice (s 3).A r4_0.length (s 3).c, .int .i64 a2_0]) Try.func36 (fun s w1 h => (impl_HeldAt.calls _ _ _ _ _ _ _ _ _ _ _ (Kd.S_reads' (h.get 0 rfl)).2.2 (Kd.S_reads' (h.get 0 rfl)).2.1 (Kd.R_reads' (h.get 1 rfl)).2.2 (Kd.R_reads' (h.get 1 rfl)).2.1 H6.out).mono (by rintro e w2 ⟨v0_, rfl, ho0, hb⟩; obtain ⟨x, rfl, hx⟩ := fin_R ho0 hb h.hb.size; exact ⟨x, rfl, hx⟩)), pu rfl, pu rfl, pu rfl, pu rfl, trivial⟩
  intro s24 w24 h; have HS24 := Aside0.mk h; clear h HS23
  refine tlP (v := .bool r5_1) 18 rfl ?_
  refine tl0 ?_
  refine wp_seq ?_
  refine reg0 (aF := ?_) [evP 0 107 [] (fun s => .slice (s24 5).A r5_0.length (s24 5).c), evP 1 108 [] (fun s => .slice (s7 5).A r5_0.length (s7 5).c), evC 2 (some 109) [] (fun s x => .bool true) (fun s x => []), evP 3 110 [] (fun s => .bool false), evP 4 111 [] (fun s => .bool false), evP 5 112 [] (fun s => .bool r5_1), evP 6 113 [] (fun s => .bool r5_1), evP 7 114 [] (fun s => .bool false), evP 8 115 [] (fun s => .bool false)] [] false 9 rfl rfl (by kernel_rfl) rfl (fun _ => rfl) ?aF HS24.out ?hs ?_
  rotate_left 1
  case aF => intro s; simp only [putE, EvT.val, Act.put, setIfInBounds_toArray, set_cons_zero, set_cons_succ]; rfl
  case hs => exact ⟨pu rfl, pu rfl, cl rfl (fun s => #[.slice (s24 5).A r5_0.length (s24 5).c, .slice (s7 5).A r5_0.length (s7 5).c]) Try.func37 (fun s w1 h => (laws_eqIntS.calls _ _ _ _ _ _ _ _ _ (Kd.R_reads' (h.get 2 rfl)).2.2 (Kd.R_reads' (h.get 2 rfl)).2.1 (Kd.R_reads' (h.get 11 rfl)).2.2 (Kd.R_reads' (h.get 11 rfl)).2.1 H7.out).mono (by rintro e w2 ⟨rfl, hd⟩; exact fin0 hd.below)), pu rfl, pu rfl, pu rfl, pu rfl, pn Try.underlying4 rfl, pu rfl, trivial⟩
  intro s25 w25 h; have HS25 := Aside0.mk h; clear h HS24
  refine tl0 ?_
  refine wp_cond_false rfl ?_
  refine wp_skip ?_
  refine thN ?_
  refine reg0 (aF := ?_) [] [0] false 1 rfl rfl (by kernel_rfl) rfl (fun _ => rfl) ?aF HS25.out ?hs ?_
  rotate_left 1
  case aF => intro s; simp only [putE, EvT.val, Act.put, setIfInBounds_toArray, set_cons_zero, set_cons_succ]; rfl
  case hs => exact trivial
  intro s26 w26 h; have HS26 := Aside0.mk h; clear h HS25
  refine tlP (v := .int .i64 1) 16 rfl ?_
  refine tl0 ?_
  refine reg0 (aF := ?_) [evP 0 116 [] (fun s => .slice (s10 3).A r5_0.length (s10 3).c), evP 1 117 [] (fun s => .int .i64 1), evC 2 (some 118) [] (fun s x => .int .i64 r12_0) (fun s x => [])] [3] false 4 rfl rfl (by kernel_rfl) rfl (fun _ => rfl) ?aF HS26.out ?hs ?_
  rotate_left 1
  case aF => intro s; simp only [putE, EvT.val, Act.put, setIfInBounds_toArray, set_cons_zero, set_cons_succ]; rfl
  case hs => exact ⟨pu rfl, pu rfl, cl rfl (fun s => #[.slice (s10 3).A r5_0.length (s10 3).c, .int .i64 1]) Try.func41 (fun s w1 h => by rw [show r5_0.length = r12_1.length from (Kd.R_reads' (h.get 5 rfl)).1]; exact (laws_heldIntS.calls _ _ _ _ _ _ _ ((Kd.R_reads' (h.get 5 rfl)).1 ▸ (Kd.R_reads' (h.get 5 rfl)).2.2) ((Kd.R_reads' (h.get 5 rfl)).1 ▸ (Kd.R_reads' (h.get 5 rfl)).2.1) H13.out).mono (by rintro e w2 ⟨rfl, hd⟩; exact fin0 hd.below)), trivial⟩
  intro s27 w27 h; have HS27 := Aside0.mk h; clear h HS26
  refine tlP (v := .int .i64 r12_0) 16 rfl ?_
  refine tl0 ?_
  refine wp_seq ?_
  refine reg0 (aF := ?_) [evP 0 119 [] (fun s => .int .i64 r12_0), evP 1 120 [] (fun s => .bool false)] [] false 2 rfl rfl (by kernel_rfl) rfl (fun _ => rfl) ?aF HS27.out ?hs ?_
  rotate_left 1
  case aF => intro s; simp only [putE, EvT.val, Act.put, setIfInBounds_toArray, set_cons_zero, set_cons_succ]; rfl
  case hs => exact ⟨pu rfl, pb (q := .lss) Nb_r12_0 rfl, trivial⟩
  intro s28 w28 h; have HS28 := Aside0.mk h; clear h HS27
  refine tl0 ?_
  refine wp_cond_false rfl ?_
  refine wp_skip ?_
  refine thN ?_
  refine wp_seq ?_
  refine reg0 (aF := ?_) [evP 0 121 [] (fun s => .int .i64 r12_0), evP 1 122 [] (fun s => .int .i64 r12_0), evP 2 123 [] (fun s => .bool false)] [] false 3 rfl rfl (by kernel_rfl) rfl (fun _ => rfl) ?aF HS28.out ?hs ?_
  rotate_left 1
  case aF => intro s; simp only [putE, EvT.val, Act.put, setIfInBounds_toArray, set_cons_zero, set_cons_succ]; rfl
  case hs => exact ⟨pu rfl, pu rfl, pb (q := .neq) (bne_self_eq_false _) rfl, trivial⟩
  intro s29 w29 h; have HS29 := Aside0.mk h; clear h HS28
  refine tl0 ?_
  refine wp_cond_false rfl ?_
  refine wp_skip ?_
  refine thN ?_
  refine reg0 (aF := ?_) [] [0] false 1 rfl rfl (by kernel_rfl) rfl (fun _ => rfl) ?aF HS29.out ?hs ?_
  rotate_left 1
  case aF => intro s; simp only [putE, EvT.val, Act.put, setIfInBounds_toArray, set_cons_zero, set_cons_succ]; rfl
  case hs => exact trivial
  intro s30 w30 h; have HS30 := Aside0.mk h; clear h HS29
  refine tlP (v := .bool true) 6 rfl ?_
  refine tl0 ?_
  refine wp_ret ?_
  go_ret
  exact ⟨by first | rfl | simp, HS30.out.hb⟩
end Go.Proofs.Ytpbboooeahmgpaa.P


/- The law FnExactHeldAt. -/
namespace Go.Proofs.Ytpbboooeahmgpaa.P
open Go.RowKit Go.Proofs.YtpbboooeahmgpaaW.PrintWords Go.Proofs.YtpbboooeahmgpaaW.Mine
set_option linter.unusedVariables false
theorem FnExactHeldAt_walk (w : World) (cs0 : Array Value) (a0 : (List (List Int))) (hK0 : (Kd.slice 22 (Kd.slice 5 (Kd.int .u8))).K w a0 cs0.toList) (ok0 : (∀ y1 ∈ a0, (∀ y2 ∈ y1, (Lit.int .u8 y2).wf = true))) (A1 : Option Addr) (len1 cap1 : Nat) (a1 : (List SlawsLoan)) (hK1 : (Kd.slice 53 klawsLoan).K w a1 [.slice A1 len1 cap1]) (ok1 : (∀ y1 ∈ a1, (((Lit.int .i64 y1.f0.f0).wf = true ∧ (Lit.int .i64 y1.f0.f1).wf = true ∧ (Lit.int .i64 y1.f0.f2).wf = true ∧ (Lit.int .i64 y1.f0.f3).wf = true) ∧ True ∧ (Lit.int .i64 y1.f2).wf = true ∧ (Lit.int .i64 y1.f3).wf = true))) (a2 : Int) (w2 : (Lit.int .i64 a2).wf = true) :
    Calls Try.prog 6 #[.agg cs0, .slice A1 len1 cap1, .int .i64 a2] w fun e w' => e = .returned (.bool true) ∧ Below w.heap.size w w' := by
  obtain ⟨A0, c0, hcs0, hc0, hr0⟩ := hK0
  obtain rfl := agg_of hcs0
  obtain ⟨_, _, he1, hc1, hr1⟩ := hK1
  cases he1
  obtain ⟨r, hz, hh⟩ := szMemory_f a0 1048576 (by omega) (by omega) hr0.2.1 (C_inner_len hr0)
  rcases hh with ⟨hm, h5⟩ | rfl
  · have hz2 := szLoanS_f a1 r h5.1 (by omega) hr1.2.1
    by_cases hc2 : (a1.length : Int) ≤ r
    · rw [if_pos hc2] at hz2
      have hl1 : a1.length ≤ 1048576 := by omega
      have hwf : ∀ x ∈ a1.map loanOf, wfL x := by intro x hx; obtain ⟨y, hy, rfl⟩ := List.mem_map.1 hx; exact wf_i64 (ok1 y hy).1.2.1
      have h7 := heldAt_len a0 (a1.map loanOf) a2
      have hl2 : (a1.map loanOf).length ≤ 1048576 := by rw [List.length_map]; exact hl1
      have hs1 := hm.2.2
      exact FnExactHeldAt_run A0 c0 a0 _ _ a1 a2 _ _ _ _ _ _ _ _ _ _ _ _ w hr0 hc0 hr1 hc1 hz.rounds hz2 (toMemory_f a0 hm) (toLoanS_f a1 hl1).rounds (specHeldAt_f a0 (a1.map loanOf) a2 hm hl2 hwf).rounds (implHeldAt_f a0 (a1.map loanOf) a2).rounds (eqIntS_f (heldAt a0 (a1.map loanOf) a2).1 (by omega)).rounds (eqM _ hm).rounds (eqLoanS_f _ (by omega)).rounds (markM _ hm) (markLs _ _ (by omega) (by omega)) (markI (heldAt a0 (a1.map loanOf) a2).1 1 (by omega) (by omega)) (heldIntS_f (heldAt a0 (a1.map loanOf) a2).1.length 1 (by omega) (by omega)).rounds (by omega) (by omega) (by omega) (by omega)
    · rw [if_neg hc2] at hz2
      exact FnExactHeldAt_run1 A0 c0 a0 _ _ a1 a2 _ _ w hr0 hc0 hr1 hc1 hz.rounds hz2 (by omega) (by omega)
  · exact FnExactHeldAt_run0 A0 c0 a0 _ _ a1 a2 _ w hr0 hc0 hr1 hc1 hz.rounds (by omega)
end Go.Proofs.Ytpbboooeahmgpaa.P


namespace Go.Proofs.Ytpbboooeahmgpaa.fnExactHeldAt
open Go.ChangeShapes Go.WideShapes Go.ChangeAt Go.RowKit Go.Proofs.YtpbboooeahmgpaaW.PrintWords Go.Proofs.YtpbboooeahmgpaaW.Mine Go.Proofs.Ytpbboooeahmgpaa.P
open Go.ChangeMaps (open_string shut_string)
set_option linter.unusedVariables false
theorem own : ownKnob Try.prog.godebug = none := by kernel_rfl
theorem laidOut : laidOutB Try.prog = true := by kernel_rfl
set_option maxRecDepth 100000 in
theorem lifted (os : Os) (started : os.Started) (H : Type) (enc : TypeId × Value → H) :
    ReturnsInHanded {} Try.checked os 6 .any (Rows.fnExactHeldAtSpec.pre6 enc Try.prog Try.f6 Rows.fnExactHeldAtRow.domain false) (Rows.fnExactHeldAtSpec.post enc Try.prog Try.f6 false true false false) := by
  refine returnsInHanded_of_change_sized (C := Try.checked) own started (by kernel_rfl) Try.func6
    (ChangeSpec.witness6 (enc := enc) (C := Try.checked) false ⟨#[], #[.agg #[.slice none 0 0], .slice none 0 0, .int .i64 0], []⟩ 8 (by kernel_rfl) (by kernel_rfl) (by kernel_rfl) (by kernel_rfl)) ?_
  intro W base args ds gs before hval0 hW hcnd hsz0 _
  have hval : ∀ (j : Nat) t v, Try.f6.params[j]? = some t → args[j]? = some v → Value.okWide Try.prog W .any base t v := hval0
  have hW' := hW
  obtain ⟨p, q, hA0, hV, rfl, hfz, hnd⟩ := hW
  have hA : DataW.TrodAll enc Try.prog W 0 (fun _ => true) true Try.f6.params.toList args.toList ds p := hA0
  rw [Try.params6] at hA hval
  obtain ⟨v0, vs0, d0, ds0, p0, q0, hargs, rfl, rfl, h0, r0⟩ := trodAll_cons hA
  obtain ⟨v1, vs1, d1, ds1, p1, q1, rfl, rfl, rfl, h1, r1⟩ := trodAll_cons r0
  obtain ⟨v2, vs2, d2, ds2, p2, q2, rfl, rfl, rfl, h2, r2⟩ := trodAll_cons r1
  obtain ⟨rfl, rfl, rfl⟩ := trodAll_nil r2
  obtain rfl : args = #[v0, v1, v2] := by cases args; simp_all
  obtain ⟨rfl, rfl⟩ := trodVars_none hV
  have k0 := h0
  have lt0 : ∀ x ∈ p0, x.block < W.heap.size := by obtain ⟨m, hm⟩ := k0; exact DataW.trod_lt m _ _ _ hm
  obtain ⟨cs0, rfl, _⟩ := okWide_struct Try.underlying49 (hval 0 49 v0 rfl rfl)
  obtain ⟨a0, hK0, ok0⟩ : ∃ a : (List (List Int)), (Kd.slice 22 (Kd.slice 5 (Kd.int .u8))).K W a cs0.toList ∧ (∀ y1 ∈ a, (∀ y2 ∈ y1, (Lit.int .u8 y2).wf = true)) := by obtain ⟨fuel, hf⟩ := h0; exact (ReadsK.struct Try.underlying49 (by kernel_rfl) (ReadsF.last rfl (ReadsK.slice Try.underlying24 (by kernel_rfl) (ReadsK.slice Try.underlying22 (by kernel_rfl) (ReadsK.int Try.underlying5))) (by kernel_rfl))) hf
  have k1 := h1
  have lt1 : ∀ x ∈ p1, x.block < W.heap.size := by obtain ⟨m, hm⟩ := k1; exact DataW.trod_lt m _ _ _ hm
  obtain ⟨A1, len1, cap1, rfl⟩ := okWide_slice Try.underlying50 (hval 1 50 v1 rfl rfl)
  obtain ⟨a1, hK1, ok1⟩ : ∃ a : (List SlawsLoan), (Kd.slice 53 klawsLoan).K W a [.slice A1 len1 cap1] ∧ (∀ y1 ∈ a, (((Lit.int .i64 y1.f0.f0).wf = true ∧ (Lit.int .i64 y1.f0.f1).wf = true ∧ (Lit.int .i64 y1.f0.f2).wf = true ∧ (Lit.int .i64 y1.f0.f3).wf = true) ∧ True ∧ (Lit.int .i64 y1.f2).wf = true ∧ (Lit.int .i64 y1.f3).wf = true)) := by obtain ⟨fuel, hf⟩ := h1; exact (ReadsK.slice Try.underlying50 (by kernel_rfl) (ReadsK.iso (ReadsK.struct Try.underlying53 (by kernel_rfl) (ReadsF.cons rfl (ReadsK.iso (ReadsK.struct Try.underlying51 (by kernel_rfl) (ReadsF.cons rfl (ReadsK.int Try.underlying3) (by kernel_rfl) (ReadsF.cons rfl (ReadsK.int Try.underlying3) (by kernel_rfl) (ReadsF.cons rfl (ReadsK.int Try.underlying3) (by kernel_rfl) (ReadsF.last rfl (ReadsK.int Try.underlying3) (by kernel_rfl)))))) (fun x : SlawsWindow => (x.f0, x.f1, x.f2, x.f3)) (fun a => (⟨a.1, a.2.1, a.2.2.1, a.2.2.2⟩ : SlawsWindow)) (fun _ => rfl)) (by kernel_rfl) (ReadsF.cons rfl (ReadsK.bool Try.underlying4) (by kernel_rfl) (ReadsF.cons rfl (ReadsK.int Try.underlying3) (by kernel_rfl) (ReadsF.last rfl (ReadsK.int Try.underlying3) (by kernel_rfl)))))) (fun x : SlawsLoan => (x.f0, x.f1, x.f2, x.f3)) (fun a => (⟨a.1, a.2.1, a.2.2.1, a.2.2.2⟩ : SlawsLoan)) (fun _ => rfl))) hf
  obtain ⟨a2, rfl, rfl, rfl, w2⟩ := open_int Try.underlying3 (hval 2 3 v2 rfl rfl) h2
  clear hA0 hval0 hsz0
  refine (FnExactHeldAt_walk W cs0 a0 hK0 ok0 A1 len1 cap1 a1 hK1 ok1 a2 w2).mono fun e W' ⟨he, bel⟩ => ?_
  subst he
  exact ⟨_, rfl, _, _, _, [], _, [], hW', trodAll_mk1 (shut_bool Try.underlying4 _), (trodAll_cons_mk (Below.trod laidOut (by kernel_rfl) (of_decide_eq_true (by kernel_rfl)) k0 bel lt0) (trodAll_cons_mk (Below.trod laidOut (by kernel_rfl) (of_decide_eq_true (by kernel_rfl)) k1 bel lt1) (trodAll_cons_mk (shut_int Try.underlying3 w2) trodAll_mk0))), rfl, bel.frame _, fun h => by cases h⟩
theorem over : Rows.fnExactHeldAtRow.holds Try.pinned (OpenSpec.ofChange Rows.fnExactHeldAtSpec) :=
  OpenClaim.holds_of_wide 6 Try.f6 rfl rfl rfl rfl rfl rfl rfl ⟨rfl, rfl, rfl, rfl, rfl⟩ rfl rfl rfl rfl rfl (by kernel_rfl) Try.func6 (by kernel_rfl)
    (of_decide_eq_true (by kernel_rfl)) (by unfold Func.isWrapper; first | (rw [if_pos (by decide +kernel)]; kernel_rfl) | (rw [if_neg (by decide +kernel)]; exact ⟨rfl, rfl⟩))
    (fun os started H enc _ => lifted os started H enc)
theorem proved : Rows.FnExactHeldAtSaid := over
end Go.Proofs.Ytpbboooeahmgpaa.fnExactHeldAt
namespace Go.Proofs.Ytpbboooeahmgpaa
theorem fnExactHeldAt_holds : Rows.FnExactHeldAtSaid := fnExactHeldAt.proved
#print axioms fnExactHeldAt_holds
end Go.Proofs.Ytpbboooeahmgpaa


