/- Part 3 of the proof of the law FnExactLendersOf: contracts of the functions that it reaches. -/
import Derived.Test.YtpbboooeahmgpaaQFnExactLendersOf2
import Derived.Test.YtpbboooeahmgpaaWApart
import Derived.Test.YtpbboooeahmgpaaWArr
import Derived.Test.YtpbboooeahmgpaaWFoot
import Derived.Test.YtpbboooeahmgpaaWGuard
import Derived.Test.YtpbboooeahmgpaaWKept
import Derived.Test.YtpbboooeahmgpaaWLast
import Derived.Test.YtpbboooeahmgpaaWMore
import Derived.Test.YtpbboooeahmgpaaWN
import Derived.Test.YtpbboooeahmgpaaWRepsOne
import Derived.Test.YtpbboooeahmgpaaWShare
import Derived.Test.YtpbboooeahmgpaaWTab
import Derived.Test.YtpbboooeahmgpaaWWords
/- Rows of flat elements written in place: what a loop of marks does to the cells. -/
namespace Go.Proofs.YtpbboooeahmgpaaW.Mine
open Go.RowKit Go.Proofs.YtpbboooeahmgpaaW.PrintWords
set_option linter.unusedVariables false
set_option linter.unusedSimpArgs false
/-! ### operations one behind the other, a block written -/
section
variable {P : Program} {ops : Array Oper} {Q : Exit → Act → World → Prop} {w w2 : World} {a : Act} {r : List Nat} {i g : Nat} {o : Oper}
theorem mRun (ho : ops.toList[i]? = some o) (hw : Region.wanted o (yielded ops a.tmps) = true) (h : Oper.wp P o a w (wpOps P ops Q r) Q) : wpOps P ops Q (i :: r) a w := by
  rw [Array.getElem?_toList] at ho
  rw [wpOps_cons]
  unfold wpOp
  rw [ho]
  simp only
  rw [if_pos hw]
  exact .inl h
theorem mSkip (ho : ops.toList[i]? = some o) (hr : (execOp a.eval o).run P w = .ok .skip w2) (h : wpOps P ops Q r a w2) (hd : o.dst = none := by rfl) (hw : Region.wanted o (yielded ops a.tmps) = true := by rfl) : wpOps P ops Q (i :: r) a w := by
  refine mRun ho hw ?_
  unfold Oper.wp
  rw [hr]
  show wpOps P ops Q r (a.put o.dst undef) _
  rw [hd]
  exact h
theorem mReg {id n : Nat} (l : List Nat) (hn : ops.size = n) (hl : List.range n = l) (h : wpOps P ops Q l a w) : (Code.region id ops false).wp P Q a w := by
  subst hl hn
  exact wp_region h
theorem mSet {cs : Array Value} {j : Nat} {u : Value} : (w.setRow g cs).setCell ⟨g, j, none⟩ u = w.setRow g (cs.setIfInBounds j u) := by
  unfold World.setRow World.setCell
  congr 1
  apply Array.ext_getElem?
  intro k
  simp only [Array.getElem?_modify]
  by_cases e : g = k
  · subst e
    simp only [if_true]
    cases h : w.heap[g]? with
    | none => rfl
    | some x => cases x <;> rfl
  · simp only [if_neg e]
theorem mCell {c0 cs : Array Value} {t j : Nat} (h : w.heap[g]? = some (.cells c0 t (0, 0))) (hj : j < cs.size) : (w.setRow g cs).cell? ⟨g, j, none⟩ = some (cs.getD j undef) := by
  rw [blk_cell (setRow_heap w g c0 cs t _ h) j]
  simp [hj]
theorem mFrozen {c0 cs : Array Value} {t : Nat} (h : w.heap[g]? = some (.cells c0 t (0, 0))) (j : Nat) : (w.setRow g cs).frozen? ⟨g, j, none⟩ = false := blk_frozen (setRow_heap w g c0 cs t _ h) j
end
/-! ### lists of cells -/
theorem setAll_toList : ∀ (us : List Value) (off : Nat) (cs : Array Value), off + us.length ≤ cs.size → (setAll cs off us).toList = cs.toList.take off ++ (us ++ cs.toList.drop (off + us.length))
  | [], off, cs, h => by simp [setAll]
  | u :: r, off, cs, h => by
    simp only [List.length_cons] at h
    have hl : off < cs.toList.length := by simp; omega
    show (setAll (cs.setIfInBounds off u) (off + 1) r).toList = _
    rw [setAll_toList r (off + 1) _ (by simp; omega), Array.toList_setIfInBounds, List.drop_set_of_lt (by omega), List.take_succ_eq_append_getElem (by simpa using hl), List.take_set_of_le (Nat.le_refl _), List.getElem_set_self]
    simp [show off + 1 + r.length = off + (r.length + 1) by omega]
section
variable {α : Type} {cells : α → List Value} {q : Nat}
theorem flat_length (hlen : ∀ x, (cells x).length = q) (l : List α) : (l.flatMap cells).length = l.length * q := by
  induction l with
  | nil => simp
  | cons x l ih => rw [List.flatMap_cons, List.length_append, ih, hlen, List.length_cons, Nat.add_mul, Nat.one_mul, Nat.add_comm]
theorem flat_step (hlen : ∀ x, (cells x).length = q) (L : List Value) (M D : List α) (x y : α) (n : Nat) (hn : n = M.length + 1 + D.length) (h : L.take (n * q) = (M ++ x :: D).flatMap cells) :
    (L.take (M.length * q) ++ (cells y ++ L.drop (M.length * q + q))).take (n * q) = (M ++ y :: D).flatMap cells := by
  have e1 : n * q = M.length * q + (q + D.length * q) := by rw [hn, Nat.add_mul, Nat.add_mul, Nat.one_mul, Nat.add_assoc]
  have hM := flat_length hlen M
  have hD := flat_length hlen D
  have h1 : L.take (M.length * q) = M.flatMap cells := by
    have := congrArg (List.take (M.length * q)) h
    rw [List.take_take, Nat.min_eq_left (by omega), List.flatMap_append, List.take_left' hM] at this
    exact this
  have h2 : (L.drop (M.length * q + q)).take (D.length * q) = D.flatMap cells := by
    have := congrArg (List.drop (M.length * q + q)) h
    rw [List.drop_take, show n * q - (M.length * q + q) = D.length * q by omega, List.flatMap_append, List.flatMap_cons] at this
    rw [this, ← List.drop_drop, List.drop_left' hM, List.drop_left' (hlen x)]
  rw [h1, e1, List.flatMap_append, List.flatMap_cons]
  have e2 : (M.flatMap cells).length + ((cells y).length + D.length * q) = M.length * q + (q + D.length * q) := by rw [hM, hlen]
  rw [← e2, List.take_length_add_append, List.take_length_add_append, h2]
/-- What marks from a on make of n elements. -/
def marksG (mk : Int → α) (q : Nat) : Int → Nat → List α
  | _, 0 => []
  | a, n + 1 => mk a :: marksG mk q (a + q) n
theorem marksG_length (mk : Int → α) : ∀ (n : Nat) (a : Int), (marksG mk q a n).length = n
  | 0, _ => rfl
  | n + 1, a => by simp [marksG, marksG_length mk n]
theorem marksG_snoc (mk : Int → α) : ∀ (n : Nat) (a : Int), marksG mk q a (n + 1) = marksG mk q a n ++ [mk (a + q * n)]
  | 0, a => by simp [marksG]
  | n + 1, a => by
    rw [marksG, marksG_snoc mk n (a + q), marksG, List.cons_append]
    rw [show a + (q : Int) + (q : Int) * (n : Int) = a + (q : Int) * ((n + 1 : Nat) : Int) by push_cast; rw [Int.mul_add, Int.mul_one]; omega]
/-- One round. -/
theorem marks_round (hlen : ∀ x, (cells x).length = q) (mk : Int → α) (a : Int) (l : List α) (i : Nat) (hi : i < l.length) {c c' : Array Value} (h : c.toList.take (l.length * q) = (marksG mk q a i ++ l.drop i).flatMap cells) (hs : l.length * q ≤ c.size) (hc : c' = setAll c (i * q) (cells (mk (a + q * i)))) :
    c'.toList.take (l.length * q) = (marksG mk q a (i + 1) ++ l.drop (i + 1)).flatMap cells := by
  have hb : i * q + q ≤ l.length * q := by
    have := Nat.mul_le_mul_right q hi
    rw [Nat.succ_mul] at this
    exact this
  subst hc
  rw [setAll_toList _ _ _ (by rw [hlen]; omega), hlen, marksG_snoc, List.append_assoc, List.singleton_append]
  rw [List.drop_eq_getElem_cons hi] at h
  have := flat_step hlen c.toList (marksG mk q a i) (l.drop (i + 1)) l[i] (mk (a + q * i)) l.length (by rw [marksG_length, List.length_drop]; omega) h
  rw [marksG_length] at this
  exact this
/-! ### a row as its cells -/
variable {d : Kd α}
/-- An element is its cells. -/
structure FlatK (d : Kd α) (cells : α → List Value) (q : Nat) : Prop where
  sz : d.sz = q
  len : ∀ x, (cells x).length = q
  opn : ∀ {w : World} {x : α} {cs : List Value}, d.K w x cs → cs = cells x
  mak : ∀ (w : World) (base : Nat) (ok : Nat → Prop) (x : α), d.M w base ok x (cells x)
theorem reps_flat (hlen : ∀ x, (cells x).length = q) : ∀ (l : List α) (cs : List Value), Reps (fun (x : α) c => c = cells x) q l cs → cs = l.flatMap cells
  | [], cs, h => List.eq_nil_of_length_eq_zero (by have := h.1; simpa using this)
  | x :: l, cs, h => by
    have h0 : cs.take q = cells x := by
      have := h.2 0 x rfl
      simpa using this
    have h1 := reps_flat hlen l (cs.drop q) ⟨by rw [List.length_drop, h.1, List.length_cons, Nat.add_mul, Nat.one_mul, Nat.add_sub_cancel], fun j p hp => by
      have := h.2 (j + 1) p (by simpa using hp)
      rw [List.drop_drop, show q + j * q = (j + 1) * q by rw [Nat.add_mul, Nat.one_mul, Nat.add_comm]]
      exact this⟩
    rw [List.flatMap_cons, ← h0, ← h1, List.take_append_drop]
theorem flat_reps (hlen : ∀ x, (cells x).length = q) : ∀ (l : List α), Reps (fun (x : α) c => c = cells x) q l (l.flatMap cells)
  | [] => ⟨by simp, fun j p h => by cases h⟩
  | x :: l => by
    refine ⟨flat_length hlen _, fun j p hp => ?_⟩
    cases j with
    | zero =>
      cases hp
      rw [List.flatMap_cons, Nat.zero_mul, List.drop_zero, List.take_left' (hlen _)]
    | succ j =>
      have := (flat_reps hlen l).2 j p (by simpa using hp)
      rw [List.flatMap_cons, show (j + 1) * q = q + j * q by rw [Nat.add_mul, Nat.one_mul, Nat.add_comm], ← List.drop_drop, List.drop_left' (hlen _)]
      exact this
variable {w w1 : World} {e base : Nat} {ok : Nat → Prop} {v : Value} {l : List α}
theorem cells_of_R (F : FlatK d cells q) (h : Kd.R d e w base ok v l) : w.ownsRow base e q v l.length (l.flatMap cells) := by
  obtain ⟨_, inner, ho, hr⟩ := h
  rw [F.sz] at ho hr
  have : inner = l.flatMap cells := reps_flat F.len l inner ⟨hr.1, fun j p hp => F.opn (d.K_of_M (hr.2 j p hp))⟩
  rw [← this]
  exact ho
theorem R_of_cells (F : FlatK d cells q) (ho : w.ownsRow base e q v l.length (l.flatMap cells)) (hok : ∀ k, v.ownBlock = some k → ok k) : Kd.R d e w base ok v l := by
  refine ⟨hok, l.flatMap cells, by rw [F.sz]; exact ho, ?_⟩
  rw [F.sz]
  exact ⟨(flat_reps F.len l).1, fun j p hp => by rw [(flat_reps F.len l).2 j p hp]; exact F.mak _ _ _ _⟩
/-- A row that is not empty: its block, and what a world says of it when this block alone has been written. -/
theorem R_blk (F : FlatK d cells q) (h : Kd.R d e w base ok v l) (hl : 0 < l.length) :
    ∃ g cap cur, v = .slice (some ⟨g, 0, none⟩) l.length cap ∧ ok g ∧ w.heap[g]? = some (.cells cur e (0, 0)) ∧ l.length * q ≤ cur.size ∧ cur.toList.take (l.length * q) = l.flatMap cells ∧ base ≤ g ∧
      ∀ (w1 : World) (cur' : Array Value) (l' : List α), w1.heap[g]? = some (.cells cur' e (0, 0)) → cur'.size = cur.size → l'.length = l.length → cur'.toList.take (l.length * q) = l'.flatMap cells → Kd.R d e w1 base ok v l' := by
  have ho := cells_of_R F h
  rcases ho.2 with ⟨_, h0⟩ | ⟨g, cap, cur, rfl, hb, hh, hle, hmax, hsz, htk⟩
  · omega
  · refine ⟨g, cap, cur, rfl, h.1 g rfl, hh, by rw [hsz]; exact Nat.mul_le_mul_right _ hle, htk, hb, ?_⟩
    intro w1 cur' l' hh' hs hl' ht
    refine R_of_cells F ⟨by rw [flat_length F.len], .inr ⟨g, cap, cur', by rw [hl'], hb, hh', by rw [hl']; exact hle, hmax, by rw [hs, hsz], by rw [hl', ht]⟩⟩ (fun k hk => h.1 k hk)
/-- The marks of a row, out of the loop's walk. -/
theorem marks_fin (F : FlatK d cells q) {w0 w' : World} {P_ : Nat → Prop} {mk : Int → α} {a : Int} (hB : Below w0.heap.size w0 w) (ho : Kd.R d e w w0.heap.size P_ v l) {g cap : Nat} {cur cur' : Array Value} (hv : v = .slice (some ⟨g, 0, none⟩) l.length cap) (hg : w.heap[g]? = some (.cells cur e (0, 0))) (hP : P_ g) (hge : w0.heap.size ≤ g)
    (hback : ∀ (w1 : World) (cur' : Array Value) (l' : List α), w1.heap[g]? = some (.cells cur' e (0, 0)) → cur'.size = cur.size → l'.length = l.length → cur'.toList.take (l.length * q) = l'.flatMap cells → Kd.R d e w1 w0.heap.size P_ v l')
    (hs : cur'.size = cur.size) (ht : cur'.toList.take (l.length * q) = (marksG mk q a l.length).flatMap cells) (hw : w' = w.setRow g cur') :
    Kd.R d e w' w0.heap.size P_ v (marksG mk q a l.length) ∧ Below w0.heap.size w0 w' ∧ Kept w w' P_ := by
  subst hw
  refine ⟨hback _ cur' _ (setRow_heap w g _ _ _ _ hg) hs (marksG_length _ _ _) ht, below_setRow hB hge _, ⟨by simp, fun k _ hn => setRow_other w g k cur' (fun e_ => hn (by rw [e_]; exact hP))⟩⟩
end
/-! ### rows of other types are other rows -/
section
variable {α : Type} {d : Kd α} {w w' : World} {e base : Nat} {ok ok2 : Nat → Prop} {es : List Nat} {v : Value} {xs : List α}
end
end Go.Proofs.YtpbboooeahmgpaaW.Mine


/- markIntS: a slice of flat elements written in place. -/
namespace Go.Proofs.Ytpbboooeahmgpaa.P
open Go.RowKit Go.Proofs.YtpbboooeahmgpaaW.PrintWords Go.Proofs.YtpbboooeahmgpaaW.PrintMore Go.Proofs.YtpbboooeahmgpaaW.Mine
open List (setIfInBounds_toArray set_cons_zero set_cons_succ)
set_option linter.unusedVariables false
set_option linter.unusedSimpArgs false
def cellsI (x : Int) : List Value := [.int .i64 x]
theorem flat_markIntS : FlatK (Kd.int .i64) cellsI 1 := ⟨rfl, fun _ => rfl, fun h => h, fun _ _ _ _ => rfl⟩
set_option maxHeartbeats 8000000 in
set_option maxRecDepth 100000 in
theorem laws_markIntS_loop (g c : Nat) (l : List Int) (a : Int) (cur : Array Value) (w : World) (hg : w.heap[g]? = some (.cells cur 3 (0, 0))) (ht : cur.toList.take (l.length * 1) = l.flatMap cellsI) (hsz : l.length * 1 ≤ cur.size) (ha : 0 ≤ a) (hb : a + 1 * l.length ≤ 4611686018427387904) :
    Calls Try.prog 40 #[.slice (some ⟨g, 0, none⟩) l.length c, .int .i64 a] w fun e w' => e = .returned (.int .i64 (a + 1 * l.length)) ∧ ∃ cur' : Array Value, cur'.size = cur.size ∧ cur'.toList.take (l.length * 1) = (marksG (fun k => k) 1 a l.length).flatMap cellsI ∧ w' = w.setRow g cur' := by
  have HG := Aside0.mk hg; have HT := Aside0.mk ht; clear hg ht
  go_enter Try.func40, Try.ntmps40
  go_wp2
  go_loopg [1, 5] (l.length + 1) (fun kq v1 v5 w' => ∃ (i : Nat) (ci : Array Value), v1 = .int .i64 (a + 1 * i) ∧ v5 = .int .i64 (i : Int) ∧ Aside0 (kq + i = l.length + 1 ∧ i ≤ l.length) ∧ Aside0 (ci.size = cur.size) ∧ Aside0 (ci.toList.take (l.length * 1) = (marksG (fun k => k) 1 a i ++ l.drop i).flatMap cellsI) ∧ Aside0 (w' = w.setRow g ci))
  case atStart => exact ⟨0, cur, by simp, rfl, ⟨rfl, Nat.zero_le _⟩, ⟨rfl⟩, ⟨by simpa [marksG] using HT.out⟩, ⟨(setRow_self w g cur _ _ HG.out).symm⟩⟩
  case round =>
    obtain ⟨i, ci, rfl, rfl, HK, HZ, HC, HW⟩ := hrel
    by_cases hi : i < l.length
    · obtain ⟨k1, rfl⟩ : ∃ q, gk = q + 1 := ⟨gk - 1, by have := HK.out; omega⟩
      have hi1 : decide ((i : Int) < (l.length : Int)) = true := decide_eq_true (by omega)
      have p5 := eq_true (show (0 : Int) ≤ (i : Int) by omega); have q5 := eq_true (show (i : Int) < (l.length : Int) by omega)
      obtain ⟨b, hbb⟩ : ∃ b : Int, b = a + 1 * i := ⟨_, rfl⟩
      have hb0 : 0 ≤ b ∧ b + 1 ≤ 4611686018427387904 := by omega
      rw [← hbb]; have HBB := Aside0.mk hbb; clear hbb
      obtain ⟨c0_, hc0_⟩ : ∃ x, x = ci := ⟨_, rfl⟩
      have hz0_ : c0_.size = cur.size := by rw [hc0_]; exact HZ.out
      rw [← hc0_] at HC; have HW2 := HW.out; subst HW2; rw [← hc0_]
      clear hc0_ HZ HW
      refine wp_seq ?_
      refine wp_seq ?_
      refine mReg [0, 1, 2, 3] rfl rfl ?_
      refine tlP (v := .int .i64 ((i : Int))) 6 rfl ?_
      simp only [Act.put, setIfInBounds_toArray, set_cons_zero, set_cons_succ]
      refine tlP (v := .slice (some ⟨g, 0, none⟩) l.length c) 7 rfl ?_
      simp only [Act.put, setIfInBounds_toArray, set_cons_zero, set_cons_succ]
      refine tlP (v := .int .i64 (l.length : Int)) 8 (hr := by go_simp; try rfl) rfl ?_
      simp only [Act.put, setIfInBounds_toArray, set_cons_zero, set_cons_succ]
      refine tlP (v := .bool true) 9 rfl ?_ (hr := by go_simp; try simp [hi])
      simp only [Act.put, setIfInBounds_toArray, set_cons_zero, set_cons_succ]
      refine tl0 ?_
      refine wp_cond_true rfl ?_
      refine wp_skip ?_
      refine thN ?_
      refine wp_seq ?_
      refine wp_block ?_
      refine wp_seq ?_
      refine mReg [0, 1, 2, 3, 4] rfl rfl ?_
      refine tlP (v := .slice (some ⟨g, 0, none⟩) l.length c) 12 rfl ?_
      simp only [Act.put, setIfInBounds_toArray, set_cons_zero, set_cons_succ]
      refine tlP (v := .int .i64 ((i : Int))) 13 rfl ?_
      simp only [Act.put, setIfInBounds_toArray, set_cons_zero, set_cons_succ]
      refine tlP (v := .int .i64 (b)) 14 rfl ?_
      simp only [Act.put, setIfInBounds_toArray, set_cons_zero, set_cons_succ]
      refine tlP (v := .pointer (some ⟨g, i, none⟩)) 15 (hr := by go_simp; try rfl) rfl ?_
      simp only [Act.put, setIfInBounds_toArray, set_cons_zero, set_cons_succ]
      have hc_ : (w.setRow g c0_).cell? ⟨g, i, none⟩ = some (c0_.getD (i) undef) := mCell HG.out (by simp only [hz0_]; omega)
      have hf_ : (w.setRow g c0_).frozen? ⟨g, i, none⟩ = false := mFrozen HG.out _
      refine mSkip (w2 := w.setRow g (c0_.setIfInBounds (i) (.int .i64 (b)))) rfl (by rw [← mSet]; go_simp; try rfl) ?_
      clear hc_ hf_
      obtain ⟨c1_, hc1_⟩ : ∃ x, x = c0_.setIfInBounds (i) (.int .i64 (b)) := ⟨_, rfl⟩
      have hz1_ : c1_.size = cur.size := by rw [hc1_, Array.size_setIfInBounds, hz0_]
      rw [← hc1_]; have HC1_ := Aside0.mk hc1_; clear hc1_
      refine tl0 ?_
      refine mReg [0, 1, 2] rfl rfl ?_
      refine tlP (v := .int .i64 (b)) 16 rfl ?_
      simp only [Act.put, setIfInBounds_toArray, set_cons_zero, set_cons_succ]
      refine tlP (v := .int .i64 (b + 1)) 17 rfl ?_ (hr := run_arith (q := .add) (k := .i64) (m := b) (n := 1) (r := b + 1) rfl rfl rfl (.inl ⟨rfl, by rw [show (b : Int) + 1 = b + 1 by omega]; exact i64_ok (n := b + 1) (by omega) (by omega)⟩))
      simp only [Act.put, setIfInBounds_toArray, set_cons_zero, set_cons_succ]
      refine tlP (v := .int .i64 (b + 1)) 1 rfl ?_
      simp only [Act.put, setIfInBounds_toArray, set_cons_zero, set_cons_succ]
      refine tlE ?_
      show Exit.inBlock _ _ _ _ _
      simp only [Exit.inBlock]
      refine thN ?_
      refine mReg [0, 1, 2] rfl rfl ?_
      refine tlP (v := .int .i64 ((i : Int))) 10 rfl ?_
      simp only [Act.put, setIfInBounds_toArray, set_cons_zero, set_cons_succ]
      refine tlP (v := .int .i64 ((i : Int) + 1)) 11 rfl ?_ (hr := run_arith (q := .add) (k := .i64) (m := (i : Int)) (n := 1) (r := (i : Int) + 1) rfl rfl rfl (.inl ⟨rfl, i64_ok (n := (i : Int) + 1) (by omega) (by omega)⟩))
      simp only [Act.put, setIfInBounds_toArray, set_cons_zero, set_cons_succ]
      refine tlP (v := .int .i64 ((i : Int) + 1)) 5 rfl ?_
      simp only [Act.put, setIfInBounds_toArray, set_cons_zero, set_cons_succ]
      refine tlE ?_
      go_wp2
      go_roundg k1
      case measure => have := HK.out; omega
      case rel => exact ⟨i + 1, c1_, by rw [HBB.out]; congr 1; push_cast; omega, by congr 1, ⟨by have := HK.out; omega, by omega⟩, ⟨hz1_⟩, ⟨marks_round flat_markIntS.len (fun k => k) a l i hi HC.out (by rw [hz0_]; exact hsz) (by rw [HC1_.out, HBB.out, Nat.mul_one]; rfl)⟩, ⟨rfl⟩⟩
    · have hkk := HK.out
      by_cases hge : i = l.length
      · subst hge
        have HW2 := HW.out; subst HW2
        go_wp2
        go_ret
        exact ⟨by first | rfl | simp, ci, HZ.out, by simpa using HC.out, rfl⟩
      · exfalso; omega
set_option maxHeartbeats 1600000 in
set_option maxRecDepth 100000 in
theorem laws_markIntS_nil (A : Option Addr) (c : Nat) (a : Int) (w : World) : Calls Try.prog 40 #[.slice A 0 c, .int .i64 a] w fun e w' => e = .returned (.int .i64 a) ∧ w' = w := by
  go_enter Try.func40, Try.ntmps40
  go_wp2
  go_loopg [1, 5] 1 (fun kq v1 v5 w' => v1 = .int .i64 a ∧ v5 = .int .i64 (0 : Int) ∧ w' = w)
  case atStart => exact ⟨rfl, rfl, rfl⟩
  case round =>
    obtain ⟨rfl, rfl, rfl⟩ := hrel
    go_wp2
    go_ret
    exact ⟨rfl, rfl⟩
def laws_markIntS.f (l : List Int) (a : Int) : Option (Int × List Int) := if 0 ≤ a ∧ a + 1 * l.length ≤ 4611686018427387904 then some (a + 1 * l.length, marksG (fun k => k) 1 a l.length) else none
theorem laws_markIntS.calls (P_ : Nat → Prop) (u : Value) (l : List Int) (a : Int) (r1 : Int) (r2 : List Int) (w0 w : World) (hB : Below w0.heap.size w0 w) (ho : Kd.R (Kd.int .i64) 3 w w0.heap.size P_ u l) (h : laws_markIntS.f l a = some (r1, r2)) :
    Calls Try.prog 40 #[u, .int .i64 a] w fun e w' => e = .returned (.int .i64 r1) ∧ Kd.R (Kd.int .i64) 3 w' w0.heap.size P_ u r2 ∧ Below w0.heap.size w0 w' ∧ Kept w w' P_ := by
  unfold laws_markIntS.f at h
  split at h
  next hh =>
    obtain ⟨rfl, rfl⟩ : a + 1 * l.length = r1 ∧ marksG (fun k => k) 1 a l.length = r2 := by simpa using h
    by_cases hl : 0 < l.length
    · obtain ⟨g, cap, cur, hv, hP, hg, hsz, htk, hge, hback⟩ := R_blk flat_markIntS ho hl
      subst hv
      refine (laws_markIntS_loop g cap l a cur w hg htk hsz hh.1 hh.2).mono ?_
      rintro e w' ⟨rfl, cur', hs', ht', hw'⟩
      exact ⟨rfl, marks_fin flat_markIntS hB ho rfl hg hP hge hback hs' ht' hw'⟩
    · obtain rfl : l = [] := List.eq_nil_of_length_eq_zero (by omega)
      obtain ⟨A, c, rfl⟩ := Kd.R_slice ho
      refine (laws_markIntS_nil A c a w).mono ?_
      rintro e w' ⟨rfl, rfl⟩
      exact ⟨by simp, ho, hB, Kept.refl _ _⟩
  next => cases h
end Go.Proofs.Ytpbboooeahmgpaa.P


namespace Go.Proofs.Ytpbboooeahmgpaa.P
open Go.RowKit Go.Proofs.YtpbboooeahmgpaaW.PrintWords Go.Proofs.YtpbboooeahmgpaaW.PrintLast Go.Proofs.YtpbboooeahmgpaaW.PrintMore
attribute [local go_sem] max2_int min2_int max_two min_two max_three min_three max_four min_four   -- for this text's walks alone
set_option linter.unusedVariables false
set_option linter.unusedSimpArgs false

/-! ### laws_heldIntS: function 41 -/
def laws_heldIntS.l0 : Nat → List Int → Int → Int → Option (Int)
  | 0, _, _, _ => none
  | k + 1, x0, x1, x5 => if x5 < (x0.length : Int) then (if 0 ≤ x5 then (if (rd x0 x5) = x1 then (laws_heldIntS.l0 k x0 (wrap64 (x1 + 1)) (wrap64 (x5 + 1))) else (some (-1))) else (none)) else (some x1)
def laws_heldIntS.f (k : Nat) (l0 : List Int) (a1 : Int) : Option (Int) := laws_heldIntS.l0 k l0 a1 0
set_option maxHeartbeats 8000000 in
set_option maxRecDepth 100000 in
theorem laws_heldIntS.calls (k : Nat) (A0 : Option Addr) (c0 : Nat) (l0 : List Int) (a1 : Int) (r : Int) (w : World) (hr0 : Kd.C (Kd.int .i64) w A0 l0.length l0) (hc0 : l0.length ≤ c0) (h : laws_heldIntS.f k l0 a1 = some r) :
    Calls Try.prog 41 #[.slice A0 l0.length c0, .int .i64 a1] w fun e w' => e = .returned (.int .i64 r) ∧ Drawn0 w w' := by
  have HR0 := Aside0.mk hr0
  have HC0 := Aside0.mk hc0
  clear hr0 hc0
  have H : (laws_heldIntS.l0 k l0 a1 0) = some r := h
  clear h
  have H' := Aside0.mk H
  clear H
  go_enter Try.func41, Try.ntmps41
  go_wp2
  go_loopg [1, 5] k (fun kq v1 v5 w' => ∃ (x1_1 : Int) (x5_1 : Int), v1 = .int .i64 x1_1 ∧ v5 = .int .i64 x5_1 ∧ Aside0 (laws_heldIntS.l0 kq l0 x1_1 x5_1 = some r) ∧ Aside0 (kq ≤ k) ∧ Drawn0 w w')
  case atStart => exact ⟨(a1), (0), (by first | rfl | (simp; done) | (simp [*]; done)), (by first | rfl | (simp; done) | (simp [*]; done)), H', ⟨Nat.le_refl _⟩, by repeat (first | exact Drawn0.refl _ | apply Drawn0.step)⟩
  case round =>
    clear H'
    try clear p2
    obtain ⟨x1_1, x5_1, rfl, rfl, HA, HK1, ⟨m1, rfl⟩⟩ := hrel
    cases gk with
    | zero => exact absurd HA.out (by simp [laws_heldIntS.l0])
    | succ k1 =>
      have H := HA.out
      clear HA
      simp only [laws_heldIntS.l0] at H
      by_cases c3 : x5_1 < (l0.length : Int)
      · rw [if_pos c3] at H
        have c3b0 : decide (x5_1 < (l0.length : Int)) = true := decide_eq_true c3
        clear c3
        by_cases c4 : 0 ≤ x5_1
        · rw [if_pos c4] at H
          have c4b0 : decide (0 ≤ x5_1) = true := decide_eq_true c4
          clear c4
          by_cases c5 : (rd l0 x5_1) = x1_1
          · rw [if_pos c5] at H
            have c5b0 : ((rd l0 x5_1) == x1_1) = true := beq_iff_eq.mpr c5
            have c5b1 : ((rd l0 x5_1) != x1_1) = false := bne_eq_false_iff_eq.mpr c5
            clear c5
            have H' := Aside0.mk H
            clear H
            have p719 : 0 ≤ (x5_1 : Int) := of_decide_eq_true (by first | (with_reducible assumption) | assumption)
            have q719 : x5_1 < (l0.length : Int) := of_decide_eq_true (by first | (with_reducible assumption) | assumption)
            obtain ⟨ad719, e719, hx719_0⟩ := Kd.at_int HR0.out x5_1 p719 q719
            cases e719
            replace p719 := eq_true p719
            replace q719 := eq_true q719
            go_wp2
            go_roundg k1
            case measure => have := HK1.out; omega
            case rel => exact ⟨(wrap64 (x1_1 + 1)), (wrap64 (x5_1 + 1)), (by first | rfl | (simp; done) | (simp [*]; done)), (by first | rfl | (simp; done) | (simp [*]; done)), H', ⟨by have := HK1.out; omega⟩, by repeat (first | exact Drawn0.refl _ | apply Drawn0.step)⟩
          · rw [if_neg c5] at H
            have c5b0 : ((rd l0 x5_1) == x1_1) = false := beq_eq_false_iff_ne.mpr c5
            have c5b1 : ((rd l0 x5_1) != x1_1) = true := bne_iff_ne.mpr c5
            obtain rfl := Option.some.inj H
            have p719 : 0 ≤ (x5_1 : Int) := of_decide_eq_true (by first | (with_reducible assumption) | assumption)
            have q719 : x5_1 < (l0.length : Int) := of_decide_eq_true (by first | (with_reducible assumption) | assumption)
            obtain ⟨ad719, e719, hx719_0⟩ := Kd.at_int HR0.out x5_1 p719 q719
            cases e719
            replace p719 := eq_true p719
            replace q719 := eq_true q719
            go_wp2
            go_ret
            exact ⟨by first | rfl | (simp; done) | (simp [*]; done), by repeat (first | exact Drawn0.refl _ | apply Drawn0.step)⟩
        · rw [if_neg c4] at H
          exact absurd H (by simp)
      · rw [if_neg c3] at H
        have c3b0 : decide (x5_1 < (l0.length : Int)) = false := decide_eq_false c3
        clear c3
        obtain rfl := Option.some.inj H
        go_wp2
        go_ret
        exact ⟨by first | rfl | (simp; done) | (simp [*]; done), by repeat (first | exact Drawn0.refl _ | apply Drawn0.step)⟩

end Go.Proofs.Ytpbboooeahmgpaa.P


namespace Go.Proofs.Ytpbboooeahmgpaa.P
open Go.RowKit Go.Proofs.YtpbboooeahmgpaaW.PrintWords Go.Proofs.YtpbboooeahmgpaaW.PrintLast Go.Proofs.YtpbboooeahmgpaaW.PrintMore
attribute [local go_sem] max2_int min2_int max_two min_two max_three min_three max_four min_four   -- for this text's walks alone
set_option linter.unusedVariables false
set_option linter.unusedSimpArgs false

/-! ### laws_eqIntS: function 37 -/
def laws_eqIntS.l0 : Nat → List Int → List Int → Int → Option (Bool)
  | 0, _, _, _ => none
  | k + 1, x0, x1, x5 => if x5 < (x0.length : Int) then (if 0 ≤ x5 then (if x5 < (x1.length : Int) then (if (rd x0 x5) = (rd x1 x5) then (laws_eqIntS.l0 k x0 x1 (wrap64 (x5 + 1))) else (some false)) else (none)) else (none)) else (some true)
def laws_eqIntS.f (k : Nat) (l0 : List Int) (l1 : List Int) : Option (Bool) := if (l0.length : Int) = (l1.length : Int) then (laws_eqIntS.l0 k l0 l1 0) else (some false)
set_option maxHeartbeats 8000000 in
set_option maxRecDepth 100000 in
theorem laws_eqIntS.calls (k : Nat) (A0 : Option Addr) (c0 : Nat) (l0 : List Int) (A1 : Option Addr) (c1 : Nat) (l1 : List Int) (r : Bool) (w : World) (hr0 : Kd.C (Kd.int .i64) w A0 l0.length l0) (hc0 : l0.length ≤ c0) (hr1 : Kd.C (Kd.int .i64) w A1 l1.length l1) (hc1 : l1.length ≤ c1) (h : laws_eqIntS.f k l0 l1 = some r) :
    Calls Try.prog 37 #[.slice A0 l0.length c0, .slice A1 l1.length c1] w fun e w' => e = .returned (.bool r) ∧ Drawn0 w w' := by
  have HR0 := Aside0.mk hr0
  have HC0 := Aside0.mk hc0
  clear hr0 hc0
  have HR1 := Aside0.mk hr1
  have HC1 := Aside0.mk hc1
  clear hr1 hc1
  have H : (if (l0.length : Int) = (l1.length : Int) then (laws_eqIntS.l0 k l0 l1 0) else (some false)) = some r := h
  clear h
  by_cases c3 : (l0.length : Int) = (l1.length : Int)
  · rw [if_pos c3] at H
    have c3b0 : ((l0.length : Int) == (l1.length : Int)) = true := beq_iff_eq.mpr c3
    have c3b1 : ((l0.length : Int) != (l1.length : Int)) = false := bne_eq_false_iff_eq.mpr c3
    have c3b2 : (l0.length == l1.length) = true := by first | simpa using c3 | (simp at c3 ⊢; omega)
    clear c3
    have H' := Aside0.mk H
    clear H
    go_enter Try.func37, Try.ntmps37
    go_wp2
    repeat (go_quiet (fail); try go_wp2)
    go_loopg [5] k (fun kq v5 w' => ∃ (x5_1 : Int), v5 = .int .i64 x5_1 ∧ Aside0 (laws_eqIntS.l0 kq l0 l1 x5_1 = some r) ∧ Aside0 (kq ≤ k) ∧ Drawn0 w w')
    case atStart => exact ⟨(0), (by first | rfl | (simp; done) | (simp [*]; done)), H', ⟨Nat.le_refl _⟩, by repeat (first | exact Drawn0.refl _ | apply Drawn0.step)⟩
    case round =>
      clear H'
      try clear c1
      try clear p2
      try clear c3
      try clear c3b0
      try clear c3b1
      try clear c3b2
      obtain ⟨x5_1, rfl, HA, HK1, ⟨m1, rfl⟩⟩ := hrel
      cases gk with
      | zero => exact absurd HA.out (by simp [laws_eqIntS.l0])
      | succ k1 =>
        have H := HA.out
        clear HA
        simp only [laws_eqIntS.l0] at H
        by_cases c4 : x5_1 < (l0.length : Int)
        · rw [if_pos c4] at H
          have c4b0 : decide (x5_1 < (l0.length : Int)) = true := decide_eq_true c4
          clear c4
          by_cases c5 : 0 ≤ x5_1
          · rw [if_pos c5] at H
            have c5b0 : decide (0 ≤ x5_1) = true := decide_eq_true c5
            clear c5
            by_cases c6 : x5_1 < (l1.length : Int)
            · rw [if_pos c6] at H
              have c6b0 : decide (x5_1 < (l1.length : Int)) = true := decide_eq_true c6
              clear c6
              by_cases c7 : (rd l0 x5_1) = (rd l1 x5_1)
              · rw [if_pos c7] at H
                have c7b0 : ((rd l0 x5_1) == (rd l1 x5_1)) = true := beq_iff_eq.mpr c7
                have c7b1 : ((rd l0 x5_1) != (rd l1 x5_1)) = false := bne_eq_false_iff_eq.mpr c7
                clear c7
                have H' := Aside0.mk H
                clear H
                have p714 : 0 ≤ (x5_1 : Int) := of_decide_eq_true (by first | (with_reducible assumption) | assumption)
                have q714 : x5_1 < (l0.length : Int) := of_decide_eq_true (by first | (with_reducible assumption) | assumption)
                obtain ⟨ad714, e714, hx714_0⟩ := Kd.at_int HR0.out x5_1 p714 q714
                cases e714
                replace p714 := eq_true p714
                replace q714 := eq_true q714
                have p715 : 0 ≤ (x5_1 : Int) := of_decide_eq_true (by first | (with_reducible assumption) | assumption)
                have q715 : x5_1 < (l1.length : Int) := of_decide_eq_true (by first | (with_reducible assumption) | assumption)
                obtain ⟨ad715, e715, hx715_0⟩ := Kd.at_int HR1.out x5_1 p715 q715
                cases e715
                replace p715 := eq_true p715
                replace q715 := eq_true q715
                go_wp2
                repeat (go_quiet (fail); try go_wp2)
                go_roundg k1
                case measure => have := HK1.out; omega
                case rel => exact ⟨(wrap64 (x5_1 + 1)), (by first | rfl | (simp; done) | (simp [*]; done)), H', ⟨by have := HK1.out; omega⟩, by repeat (first | exact Drawn0.refl _ | apply Drawn0.step)⟩
              · rw [if_neg c7] at H
                have c7b0 : ((rd l0 x5_1) == (rd l1 x5_1)) = false := beq_eq_false_iff_ne.mpr c7
                have c7b1 : ((rd l0 x5_1) != (rd l1 x5_1)) = true := bne_iff_ne.mpr c7
                obtain rfl := Option.some.inj H
                have p714 : 0 ≤ (x5_1 : Int) := of_decide_eq_true (by first | (with_reducible assumption) | assumption)
                have q714 : x5_1 < (l0.length : Int) := of_decide_eq_true (by first | (with_reducible assumption) | assumption)
                obtain ⟨ad714, e714, hx714_0⟩ := Kd.at_int HR0.out x5_1 p714 q714
                cases e714
                replace p714 := eq_true p714
                replace q714 := eq_true q714
                have p715 : 0 ≤ (x5_1 : Int) := of_decide_eq_true (by first | (with_reducible assumption) | assumption)
                have q715 : x5_1 < (l1.length : Int) := of_decide_eq_true (by first | (with_reducible assumption) | assumption)
                obtain ⟨ad715, e715, hx715_0⟩ := Kd.at_int HR1.out x5_1 p715 q715
                cases e715
                replace p715 := eq_true p715
                replace q715 := eq_true q715
                go_wp2
                repeat (go_quiet (fail); try go_wp2)
                go_ret
                exact ⟨by first | rfl | (simp; done) | (simp [*]; done), by repeat (first | exact Drawn0.refl _ | apply Drawn0.step)⟩
            · rw [if_neg c6] at H
              exact absurd H (by simp)
          · rw [if_neg c5] at H
            exact absurd H (by simp)
        · rw [if_neg c4] at H
          have c4b0 : decide (x5_1 < (l0.length : Int)) = false := decide_eq_false c4
          clear c4
          obtain rfl := Option.some.inj H
          go_wp2
          repeat (go_quiet (fail); try go_wp2)
          go_ret
          exact ⟨by first | rfl | (simp; done) | (simp [*]; done), by repeat (first | exact Drawn0.refl _ | apply Drawn0.step)⟩
  · rw [if_neg c3] at H
    have c3b0 : ((l0.length : Int) == (l1.length : Int)) = false := beq_eq_false_iff_ne.mpr c3
    have c3b1 : ((l0.length : Int) != (l1.length : Int)) = true := bne_iff_ne.mpr c3
    have c3b2 : (l0.length == l1.length) = false := by first | simpa using c3 | (simp at c3 ⊢; omega)
    obtain rfl := Option.some.inj H
    go_enter Try.func37, Try.ntmps37
    go_wp2
    repeat (go_quiet (fail); try go_wp2)
    go_ret
    exact ⟨by first | rfl | (simp; done) | (simp [*]; done), by repeat (first | exact Drawn0.refl _ | apply Drawn0.step)⟩

end Go.Proofs.Ytpbboooeahmgpaa.P


/- What the laws ask of a list of numbers: equality, marks, marks held. -/
namespace Go.Proofs.Ytpbboooeahmgpaa.P
open Go.RowKit Go.Proofs.YtpbboooeahmgpaaW.PrintWords Go.Proofs.YtpbboooeahmgpaaW.Mine
set_option linter.unusedVariables false
theorem heldIntS_ev (n : Nat) : ∀ (pre : List Int) (a : Int), 0 ≤ a → a + n ≤ 4611686018427387904 → pre.length + n ≤ 4611686018427387904 → Ev (fun k => laws_heldIntS.l0 k (pre ++ marksG (fun k => k) 1 a n) a (pre.length : Int)) (a + 1 * n) := by
  induction n with
  | zero =>
    intro pre a h0 h1 h2
    refine Ev.step (fun k => ?_) (Ev.now _)
    simp [laws_heldIntS.l0, marksG]
  | succ n ih =>
    intro pre a h0 h1 h2
    rw [show marksG (fun k => k) 1 a (n + 1) = a :: marksG (fun k => k) 1 (a + 1) n from rfl]
    refine Ev.step (f := fun k => laws_heldIntS.l0 k ((pre ++ [a]) ++ marksG (fun k => k) 1 (a + 1) n) (a + 1) ((pre ++ [a]).length : Int)) (fun k => ?_) ?_
    · simp only [laws_heldIntS.l0]
      rw [if_pos (by simp; omega), if_pos (by omega), rd_mid, if_pos rfl, wrap_ok (by omega) (by omega), wrap_len (by omega)]
      simp
    · have := ih (pre ++ [a]) (a + 1) (by omega) (by omega) (by simp; omega)
      rw [show a + 1 * ((n + 1 : Nat) : Int) = a + 1 + 1 * (n : Int) by omega]
      exact this
theorem heldIntS_f (n : Nat) (a : Int) (h0 : 0 ≤ a) (h1 : a + n ≤ 4611686018427387904) : Ev (fun k => laws_heldIntS.f k (marksG (fun k => k) 1 a n) a) (a + 1 * n) := by
  have := heldIntS_ev n [] a h0 h1 (by simp; omega)
  simpa [laws_heldIntS.f] using this
theorem eqIntS_ev (suf : List Int) : ∀ (pre : List Int), pre.length + suf.length ≤ 9223372036854775807 → Ev (fun k => laws_eqIntS.l0 k (pre ++ suf) (pre ++ suf) (pre.length : Int)) true := by
  induction suf with
  | nil =>
    intro pre h2
    refine Ev.step (fun k => ?_) (Ev.now _)
    simp [laws_eqIntS.l0]
  | cons x suf ih =>
    intro pre h2
    simp only [List.length_cons] at h2
    refine Ev.step (f := fun k => laws_eqIntS.l0 k ((pre ++ [x]) ++ suf) ((pre ++ [x]) ++ suf) ((pre ++ [x]).length : Int)) (fun k => ?_) (ih (pre ++ [x]) (by simp; omega))
    simp only [laws_eqIntS.l0]
    rw [if_pos (by simp; omega), if_pos (by omega), if_pos (by simp; omega), if_pos trivial, wrap_len (by omega)]
    simp
theorem eqIntS_f (l : List Int) (h : l.length ≤ 9223372036854775807) : Ev (fun k => laws_eqIntS.f k l l) true := by
  refine Ev.congr (fun k => ?_) (eqIntS_ev l [] (by simpa using h))
  unfold laws_eqIntS.f
  rw [if_pos rfl]
  rfl
theorem markI (l : List Int) (a : Int) (h0 : 0 ≤ a) (h : a + 1 * l.length ≤ 4611686018427387904) : laws_markIntS.f l a = some (a + 1 * l.length, marksG (fun k => k) 1 a l.length) := if_pos ⟨h0, h⟩
end Go.Proofs.Ytpbboooeahmgpaa.P


/- markLoanS: a slice of flat elements written in place. -/
namespace Go.Proofs.Ytpbboooeahmgpaa.P
open Go.RowKit Go.Proofs.YtpbboooeahmgpaaW.PrintWords Go.Proofs.YtpbboooeahmgpaaW.PrintMore Go.Proofs.YtpbboooeahmgpaaW.Mine
open List (setIfInBounds_toArray set_cons_zero set_cons_succ)
set_option linter.unusedVariables false
set_option linter.unusedSimpArgs false
def cellsM (x : SimplLoan) : List Value := [.int .i64 x.f0.f0, .int .i64 x.f0.f1, .int .i64 x.f0.f2, .int .i64 x.f0.f3, .bool x.f1, .int .i64 x.f2, .int .i64 x.f3]
def markL (a : Int) : SimplLoan := ⟨⟨a, a + 1, a + 2, a + 3⟩, decide ((a + 4) % 3 = 0), a + 5, a + 6⟩
theorem flat_markLoanS : FlatK kimplLoan cellsM 7 := ⟨rfl, fun _ => rfl, fun h => kimplLoan_open h, fun w base ok x => kimplLoan_mkM w base ok x⟩
set_option maxHeartbeats 8000000 in
set_option maxRecDepth 100000 in
theorem laws_markLoanS_loop (g c : Nat) (l : List SimplLoan) (a : Int) (cur : Array Value) (w : World) (hg : w.heap[g]? = some (.cells cur 30 (0, 0))) (ht : cur.toList.take (l.length * 7) = l.flatMap cellsM) (hsz : l.length * 7 ≤ cur.size) (ha : 0 ≤ a) (hb : a + 7 * l.length ≤ 4611686018427387904) :
    Calls Try.prog 39 #[.slice (some ⟨g, 0, none⟩) l.length c, .int .i64 a] w fun e w' => e = .returned (.int .i64 (a + 7 * l.length)) ∧ ∃ cur' : Array Value, cur'.size = cur.size ∧ cur'.toList.take (l.length * 7) = (marksG (markL) 7 a l.length).flatMap cellsM ∧ w' = w.setRow g cur' := by
  have HG := Aside0.mk hg; have HT := Aside0.mk ht; clear hg ht
  go_enter Try.func39, Try.ntmps39
  go_wp2
  go_loopg [1, 5] (l.length + 1) (fun kq v1 v5 w' => ∃ (i : Nat) (ci : Array Value), v1 = .int .i64 (a + 7 * i) ∧ v5 = .int .i64 (i : Int) ∧ Aside0 (kq + i = l.length + 1 ∧ i ≤ l.length) ∧ Aside0 (ci.size = cur.size) ∧ Aside0 (ci.toList.take (l.length * 7) = (marksG (markL) 7 a i ++ l.drop i).flatMap cellsM) ∧ Aside0 (w' = w.setRow g ci))
  case atStart => exact ⟨0, cur, by simp, rfl, ⟨rfl, Nat.zero_le _⟩, ⟨rfl⟩, ⟨by simpa [marksG] using HT.out⟩, ⟨(setRow_self w g cur _ _ HG.out).symm⟩⟩
  case round =>
    obtain ⟨i, ci, rfl, rfl, HK, HZ, HC, HW⟩ := hrel
    by_cases hi : i < l.length
    · obtain ⟨k1, rfl⟩ : ∃ q, gk = q + 1 := ⟨gk - 1, by have := HK.out; omega⟩
      have hi1 : decide ((i : Int) < (l.length : Int)) = true := decide_eq_true (by omega)
      have p5 := eq_true (show (0 : Int) ≤ (i : Int) by omega); have q5 := eq_true (show (i : Int) < (l.length : Int) by omega)
      obtain ⟨b, hbb⟩ : ∃ b : Int, b = a + 7 * i := ⟨_, rfl⟩
      have hb0 : 0 ≤ b ∧ b + 7 ≤ 4611686018427387904 := by omega
      rw [← hbb]; have HBB := Aside0.mk hbb; clear hbb
      obtain ⟨c0_, hc0_⟩ : ∃ x, x = ci := ⟨_, rfl⟩
      have hz0_ : c0_.size = cur.size := by rw [hc0_]; exact HZ.out
      rw [← hc0_] at HC; have HW2 := HW.out; subst HW2; rw [← hc0_]
      clear hc0_ HZ HW
      refine wp_seq ?_
      refine wp_seq ?_
      refine mReg [0, 1, 2, 3] rfl rfl ?_
      refine tlP (v := .int .i64 ((i : Int))) 6 rfl ?_
      simp only [Act.put, setIfInBounds_toArray, set_cons_zero, set_cons_succ]
      refine tlP (v := .slice (some ⟨g, 0, none⟩) l.length c) 7 rfl ?_
      simp only [Act.put, setIfInBounds_toArray, set_cons_zero, set_cons_succ]
      refine tlP (v := .int .i64 (l.length : Int)) 8 (hr := by go_simp; try rfl) rfl ?_
      simp only [Act.put, setIfInBounds_toArray, set_cons_zero, set_cons_succ]
      refine tlP (v := .bool true) 9 rfl ?_ (hr := by go_simp; try simp [hi])
      simp only [Act.put, setIfInBounds_toArray, set_cons_zero, set_cons_succ]
      refine tl0 ?_
      refine wp_cond_true rfl ?_
      refine wp_skip ?_
      refine thN ?_
      refine wp_seq ?_
      refine wp_block ?_
      refine wp_seq ?_
      refine mReg [0, 1, 2, 3, 4, 5, 6] rfl rfl ?_
      refine tlP (v := .slice (some ⟨g, 0, none⟩) l.length c) 12 rfl ?_
      simp only [Act.put, setIfInBounds_toArray, set_cons_zero, set_cons_succ]
      refine tlP (v := .int .i64 ((i : Int))) 13 rfl ?_
      simp only [Act.put, setIfInBounds_toArray, set_cons_zero, set_cons_succ]
      refine tlP (v := .int .i64 (b)) 14 rfl ?_
      simp only [Act.put, setIfInBounds_toArray, set_cons_zero, set_cons_succ]
      refine tlP (v := .pointer (some ⟨g, i * 7, none⟩)) 15 (hr := by go_simp; try rfl) rfl ?_
      simp only [Act.put, setIfInBounds_toArray, set_cons_zero, set_cons_succ]
      refine tlP (v := .pointer (some ⟨g, i * 7, none⟩)) 16 (hr := by go_simp; try rfl) rfl ?_
      simp only [Act.put, setIfInBounds_toArray, set_cons_zero, set_cons_succ]
      refine tlP (v := .pointer (some ⟨g, i * 7, none⟩)) 17 (hr := by go_simp; try rfl) rfl ?_
      simp only [Act.put, setIfInBounds_toArray, set_cons_zero, set_cons_succ]
      have hc_ : (w.setRow g c0_).cell? ⟨g, i * 7, none⟩ = some (c0_.getD (i * 7) undef) := mCell HG.out (by simp only [hz0_]; omega)
      have hf_ : (w.setRow g c0_).frozen? ⟨g, i * 7, none⟩ = false := mFrozen HG.out _
      refine mSkip (w2 := w.setRow g (c0_.setIfInBounds (i * 7) (.int .i64 (b)))) rfl (by rw [← mSet]; go_simp; try rfl) ?_
      clear hc_ hf_
      obtain ⟨c1_, hc1_⟩ : ∃ x, x = c0_.setIfInBounds (i * 7) (.int .i64 (b)) := ⟨_, rfl⟩
      have hz1_ : c1_.size = cur.size := by rw [hc1_, Array.size_setIfInBounds, hz0_]
      rw [← hc1_]; have HC1_ := Aside0.mk hc1_; clear hc1_
      refine tl0 ?_
      refine wp_seq ?_
      refine mReg [0, 1, 2] rfl rfl ?_
      refine tlP (v := .int .i64 (b)) 18 rfl ?_
      simp only [Act.put, setIfInBounds_toArray, set_cons_zero, set_cons_succ]
      refine tlP (v := .int .i64 (b + 1)) 19 rfl ?_ (hr := run_arith (q := .add) (k := .i64) (m := b) (n := 1) (r := b + 1) rfl rfl rfl (.inl ⟨rfl, by rw [show (b : Int) + 1 = b + 1 by omega]; exact i64_ok (n := b + 1) (by omega) (by omega)⟩))
      simp only [Act.put, setIfInBounds_toArray, set_cons_zero, set_cons_succ]
      refine tlP (v := .int .i64 (b + 1)) 1 rfl ?_
      simp only [Act.put, setIfInBounds_toArray, set_cons_zero, set_cons_succ]
      refine tl0 ?_
      refine wp_seq ?_
      refine mReg [0, 1, 2, 3, 4, 5, 6] rfl rfl ?_
      refine tlP (v := .slice (some ⟨g, 0, none⟩) l.length c) 20 rfl ?_
      simp only [Act.put, setIfInBounds_toArray, set_cons_zero, set_cons_succ]
      refine tlP (v := .int .i64 ((i : Int))) 21 rfl ?_
      simp only [Act.put, setIfInBounds_toArray, set_cons_zero, set_cons_succ]
      refine tlP (v := .int .i64 (b + 1)) 22 rfl ?_
      simp only [Act.put, setIfInBounds_toArray, set_cons_zero, set_cons_succ]
      refine tlP (v := .pointer (some ⟨g, i * 7, none⟩)) 23 (hr := by go_simp; try rfl) rfl ?_
      simp only [Act.put, setIfInBounds_toArray, set_cons_zero, set_cons_succ]
      refine tlP (v := .pointer (some ⟨g, i * 7, none⟩)) 24 (hr := by go_simp; try rfl) rfl ?_
      simp only [Act.put, setIfInBounds_toArray, set_cons_zero, set_cons_succ]
      refine tlP (v := .pointer (some ⟨g, i * 7 + 1, none⟩)) 25 (hr := by go_simp; try rfl) rfl ?_
      simp only [Act.put, setIfInBounds_toArray, set_cons_zero, set_cons_succ]
      have hc_ : (w.setRow g c1_).cell? ⟨g, i * 7 + 1, none⟩ = some (c1_.getD (i * 7 + 1) undef) := mCell HG.out (by simp only [hz1_]; omega)
      have hf_ : (w.setRow g c1_).frozen? ⟨g, i * 7 + 1, none⟩ = false := mFrozen HG.out _
      refine mSkip (w2 := w.setRow g (c1_.setIfInBounds (i * 7 + 1) (.int .i64 (b + 1)))) rfl (by rw [← mSet]; go_simp; try rfl) ?_
      clear hc_ hf_
      obtain ⟨c2_, hc2_⟩ : ∃ x, x = c1_.setIfInBounds (i * 7 + 1) (.int .i64 (b + 1)) := ⟨_, rfl⟩
      have hz2_ : c2_.size = cur.size := by rw [hc2_, Array.size_setIfInBounds, hz1_]
      rw [← hc2_]; have HC2_ := Aside0.mk hc2_; clear hc2_
      refine tl0 ?_
      refine wp_seq ?_
      refine mReg [0, 1, 2] rfl rfl ?_
      refine tlP (v := .int .i64 (b + 1)) 26 rfl ?_
      simp only [Act.put, setIfInBounds_toArray, set_cons_zero, set_cons_succ]
      refine tlP (v := .int .i64 (b + 2)) 27 rfl ?_ (hr := run_arith (q := .add) (k := .i64) (m := b + 1) (n := 1) (r := b + 2) rfl rfl rfl (.inl ⟨rfl, by rw [show (b + 1 : Int) + 1 = b + 2 by omega]; exact i64_ok (n := b + 2) (by omega) (by omega)⟩))
      simp only [Act.put, setIfInBounds_toArray, set_cons_zero, set_cons_succ]
      refine tlP (v := .int .i64 (b + 2)) 1 rfl ?_
      simp only [Act.put, setIfInBounds_toArray, set_cons_zero, set_cons_succ]
      refine tl0 ?_
      refine wp_seq ?_
      refine mReg [0, 1, 2, 3, 4, 5, 6] rfl rfl ?_
      refine tlP (v := .slice (some ⟨g, 0, none⟩) l.length c) 28 rfl ?_
      simp only [Act.put, setIfInBounds_toArray, set_cons_zero, set_cons_succ]
      refine tlP (v := .int .i64 ((i : Int))) 29 rfl ?_
      simp only [Act.put, setIfInBounds_toArray, set_cons_zero, set_cons_succ]
      refine tlP (v := .int .i64 (b + 2)) 30 rfl ?_
      simp only [Act.put, setIfInBounds_toArray, set_cons_zero, set_cons_succ]
      refine tlP (v := .pointer (some ⟨g, i * 7, none⟩)) 31 (hr := by go_simp; try rfl) rfl ?_
      simp only [Act.put, setIfInBounds_toArray, set_cons_zero, set_cons_succ]
      refine tlP (v := .pointer (some ⟨g, i * 7, none⟩)) 32 (hr := by go_simp; try rfl) rfl ?_
      simp only [Act.put, setIfInBounds_toArray, set_cons_zero, set_cons_succ]
      refine tlP (v := .pointer (some ⟨g, i * 7 + 2, none⟩)) 33 (hr := by go_simp; try rfl) rfl ?_
      simp only [Act.put, setIfInBounds_toArray, set_cons_zero, set_cons_succ]
      have hc_ : (w.setRow g c2_).cell? ⟨g, i * 7 + 2, none⟩ = some (c2_.getD (i * 7 + 2) undef) := mCell HG.out (by simp only [hz2_]; omega)
      have hf_ : (w.setRow g c2_).frozen? ⟨g, i * 7 + 2, none⟩ = false := mFrozen HG.out _
      refine mSkip (w2 := w.setRow g (c2_.setIfInBounds (i * 7 + 2) (.int .i64 (b + 2)))) rfl (by rw [← mSet]; go_simp; try rfl) ?_
      clear hc_ hf_
      obtain ⟨c3_, hc3_⟩ : ∃ x, x = c2_.setIfInBounds (i * 7 + 2) (.int .i64 (b + 2)) := ⟨_, rfl⟩
      have hz3_ : c3_.size = cur.size := by rw [hc3_, Array.size_setIfInBounds, hz2_]
      rw [← hc3_]; have HC3_ := Aside0.mk hc3_; clear hc3_
      refine tl0 ?_
      refine wp_seq ?_
      refine mReg [0, 1, 2] rfl rfl ?_
      refine tlP (v := .int .i64 (b + 2)) 34 rfl ?_
      simp only [Act.put, setIfInBounds_toArray, set_cons_zero, set_cons_succ]
      refine tlP (v := .int .i64 (b + 3)) 35 rfl ?_ (hr := run_arith (q := .add) (k := .i64) (m := b + 2) (n := 1) (r := b + 3) rfl rfl rfl (.inl ⟨rfl, by rw [show (b + 2 : Int) + 1 = b + 3 by omega]; exact i64_ok (n := b + 3) (by omega) (by omega)⟩))
      simp only [Act.put, setIfInBounds_toArray, set_cons_zero, set_cons_succ]
      refine tlP (v := .int .i64 (b + 3)) 1 rfl ?_
      simp only [Act.put, setIfInBounds_toArray, set_cons_zero, set_cons_succ]
      refine tl0 ?_
      refine wp_seq ?_
      refine mReg [0, 1, 2, 3, 4, 5, 6] rfl rfl ?_
      refine tlP (v := .slice (some ⟨g, 0, none⟩) l.length c) 36 rfl ?_
      simp only [Act.put, setIfInBounds_toArray, set_cons_zero, set_cons_succ]
      refine tlP (v := .int .i64 ((i : Int))) 37 rfl ?_
      simp only [Act.put, setIfInBounds_toArray, set_cons_zero, set_cons_succ]
      refine tlP (v := .int .i64 (b + 3)) 38 rfl ?_
      simp only [Act.put, setIfInBounds_toArray, set_cons_zero, set_cons_succ]
      refine tlP (v := .pointer (some ⟨g, i * 7, none⟩)) 39 (hr := by go_simp; try rfl) rfl ?_
      simp only [Act.put, setIfInBounds_toArray, set_cons_zero, set_cons_succ]
      refine tlP (v := .pointer (some ⟨g, i * 7, none⟩)) 40 (hr := by go_simp; try rfl) rfl ?_
      simp only [Act.put, setIfInBounds_toArray, set_cons_zero, set_cons_succ]
      refine tlP (v := .pointer (some ⟨g, i * 7 + 3, none⟩)) 41 (hr := by go_simp; try rfl) rfl ?_
      simp only [Act.put, setIfInBounds_toArray, set_cons_zero, set_cons_succ]
      have hc_ : (w.setRow g c3_).cell? ⟨g, i * 7 + 3, none⟩ = some (c3_.getD (i * 7 + 3) undef) := mCell HG.out (by simp only [hz3_]; omega)
      have hf_ : (w.setRow g c3_).frozen? ⟨g, i * 7 + 3, none⟩ = false := mFrozen HG.out _
      refine mSkip (w2 := w.setRow g (c3_.setIfInBounds (i * 7 + 3) (.int .i64 (b + 3)))) rfl (by rw [← mSet]; go_simp; try rfl) ?_
      clear hc_ hf_
      obtain ⟨c4_, hc4_⟩ : ∃ x, x = c3_.setIfInBounds (i * 7 + 3) (.int .i64 (b + 3)) := ⟨_, rfl⟩
      have hz4_ : c4_.size = cur.size := by rw [hc4_, Array.size_setIfInBounds, hz3_]
      rw [← hc4_]; have HC4_ := Aside0.mk hc4_; clear hc4_
      refine tl0 ?_
      refine wp_seq ?_
      refine mReg [0, 1, 2] rfl rfl ?_
      refine tlP (v := .int .i64 (b + 3)) 42 rfl ?_
      simp only [Act.put, setIfInBounds_toArray, set_cons_zero, set_cons_succ]
      refine tlP (v := .int .i64 (b + 4)) 43 rfl ?_ (hr := run_arith (q := .add) (k := .i64) (m := b + 3) (n := 1) (r := b + 4) rfl rfl rfl (.inl ⟨rfl, by rw [show (b + 3 : Int) + 1 = b + 4 by omega]; exact i64_ok (n := b + 4) (by omega) (by omega)⟩))
      simp only [Act.put, setIfInBounds_toArray, set_cons_zero, set_cons_succ]
      refine tlP (v := .int .i64 (b + 4)) 1 rfl ?_
      simp only [Act.put, setIfInBounds_toArray, set_cons_zero, set_cons_succ]
      refine tl0 ?_
      refine wp_seq ?_
      refine mReg [0, 1, 2, 3, 4, 5, 6, 7] rfl rfl ?_
      refine tlP (v := .slice (some ⟨g, 0, none⟩) l.length c) 44 rfl ?_
      simp only [Act.put, setIfInBounds_toArray, set_cons_zero, set_cons_succ]
      refine tlP (v := .int .i64 ((i : Int))) 45 rfl ?_
      simp only [Act.put, setIfInBounds_toArray, set_cons_zero, set_cons_succ]
      refine tlP (v := .int .i64 (b + 4)) 46 rfl ?_
      simp only [Act.put, setIfInBounds_toArray, set_cons_zero, set_cons_succ]
      refine tlP (v := .int .i64 ((b + 4) % 3)) 47 (hr := by go_simp; first | rfl | exact Int.tmod_eq_emod_of_nonneg (by omega)) rfl ?_
      simp only [Act.put, setIfInBounds_toArray, set_cons_zero, set_cons_succ]
      refine tlP (v := .bool (decide ((b + 4) % 3 = 0))) 48 (hr := by go_simp; try rfl) rfl ?_
      simp only [Act.put, setIfInBounds_toArray, set_cons_zero, set_cons_succ]
      refine tlP (v := .pointer (some ⟨g, i * 7, none⟩)) 49 (hr := by go_simp; try rfl) rfl ?_
      simp only [Act.put, setIfInBounds_toArray, set_cons_zero, set_cons_succ]
      refine tlP (v := .pointer (some ⟨g, i * 7 + 4, none⟩)) 50 (hr := by go_simp; try rfl) rfl ?_
      simp only [Act.put, setIfInBounds_toArray, set_cons_zero, set_cons_succ]
      have hc_ : (w.setRow g c4_).cell? ⟨g, i * 7 + 4, none⟩ = some (c4_.getD (i * 7 + 4) undef) := mCell HG.out (by simp only [hz4_]; omega)
      have hf_ : (w.setRow g c4_).frozen? ⟨g, i * 7 + 4, none⟩ = false := mFrozen HG.out _
      refine mSkip (w2 := w.setRow g (c4_.setIfInBounds (i * 7 + 4) (.bool (decide ((b + 4) % 3 = 0))))) rfl (by rw [← mSet]; go_simp; try rfl) ?_
      clear hc_ hf_
      obtain ⟨c5_, hc5_⟩ : ∃ x, x = c4_.setIfInBounds (i * 7 + 4) (.bool (decide ((b + 4) % 3 = 0))) := ⟨_, rfl⟩
      have hz5_ : c5_.size = cur.size := by rw [hc5_, Array.size_setIfInBounds, hz4_]
      rw [← hc5_]; have HC5_ := Aside0.mk hc5_; clear hc5_
      refine tl0 ?_
      refine wp_seq ?_
      refine mReg [0, 1, 2] rfl rfl ?_
      refine tlP (v := .int .i64 (b + 4)) 51 rfl ?_
      simp only [Act.put, setIfInBounds_toArray, set_cons_zero, set_cons_succ]
      refine tlP (v := .int .i64 (b + 5)) 52 rfl ?_ (hr := run_arith (q := .add) (k := .i64) (m := b + 4) (n := 1) (r := b + 5) rfl rfl rfl (.inl ⟨rfl, by rw [show (b + 4 : Int) + 1 = b + 5 by omega]; exact i64_ok (n := b + 5) (by omega) (by omega)⟩))
      simp only [Act.put, setIfInBounds_toArray, set_cons_zero, set_cons_succ]
      refine tlP (v := .int .i64 (b + 5)) 1 rfl ?_
      simp only [Act.put, setIfInBounds_toArray, set_cons_zero, set_cons_succ]
      refine tl0 ?_
      refine wp_seq ?_
      refine mReg [0, 1, 2, 3, 4, 5] rfl rfl ?_
      refine tlP (v := .slice (some ⟨g, 0, none⟩) l.length c) 53 rfl ?_
      simp only [Act.put, setIfInBounds_toArray, set_cons_zero, set_cons_succ]
      refine tlP (v := .int .i64 ((i : Int))) 54 rfl ?_
      simp only [Act.put, setIfInBounds_toArray, set_cons_zero, set_cons_succ]
      refine tlP (v := .int .i64 (b + 5)) 55 rfl ?_
      simp only [Act.put, setIfInBounds_toArray, set_cons_zero, set_cons_succ]
      refine tlP (v := .pointer (some ⟨g, i * 7, none⟩)) 56 (hr := by go_simp; try rfl) rfl ?_
      simp only [Act.put, setIfInBounds_toArray, set_cons_zero, set_cons_succ]
      refine tlP (v := .pointer (some ⟨g, i * 7 + 5, none⟩)) 57 (hr := by go_simp; try rfl) rfl ?_
      simp only [Act.put, setIfInBounds_toArray, set_cons_zero, set_cons_succ]
      have hc_ : (w.setRow g c5_).cell? ⟨g, i * 7 + 5, none⟩ = some (c5_.getD (i * 7 + 5) undef) := mCell HG.out (by simp only [hz5_]; omega)
      have hf_ : (w.setRow g c5_).frozen? ⟨g, i * 7 + 5, none⟩ = false := mFrozen HG.out _
      refine mSkip (w2 := w.setRow g (c5_.setIfInBounds (i * 7 + 5) (.int .i64 (b + 5)))) rfl (by rw [← mSet]; go_simp; try rfl) ?_
      clear hc_ hf_
      obtain ⟨c6_, hc6_⟩ : ∃ x, x = c5_.setIfInBounds (i * 7 + 5) (.int .i64 (b + 5)) := ⟨_, rfl⟩
      have hz6_ : c6_.size = cur.size := by rw [hc6_, Array.size_setIfInBounds, hz5_]
      rw [← hc6_]; have HC6_ := Aside0.mk hc6_; clear hc6_
      refine tl0 ?_
      refine wp_seq ?_
      refine mReg [0, 1, 2] rfl rfl ?_
      refine tlP (v := .int .i64 (b + 5)) 58 rfl ?_
      simp only [Act.put, setIfInBounds_toArray, set_cons_zero, set_cons_succ]
      refine tlP (v := .int .i64 (b + 6)) 59 rfl ?_ (hr := run_arith (q := .add) (k := .i64) (m := b + 5) (n := 1) (r := b + 6) rfl rfl rfl (.inl ⟨rfl, by rw [show (b + 5 : Int) + 1 = b + 6 by omega]; exact i64_ok (n := b + 6) (by omega) (by omega)⟩))
      simp only [Act.put, setIfInBounds_toArray, set_cons_zero, set_cons_succ]
      refine tlP (v := .int .i64 (b + 6)) 1 rfl ?_
      simp only [Act.put, setIfInBounds_toArray, set_cons_zero, set_cons_succ]
      refine tl0 ?_
      refine wp_seq ?_
      refine mReg [0, 1, 2, 3, 4, 5] rfl rfl ?_
      refine tlP (v := .slice (some ⟨g, 0, none⟩) l.length c) 60 rfl ?_
      simp only [Act.put, setIfInBounds_toArray, set_cons_zero, set_cons_succ]
      refine tlP (v := .int .i64 ((i : Int))) 61 rfl ?_
      simp only [Act.put, setIfInBounds_toArray, set_cons_zero, set_cons_succ]
      refine tlP (v := .int .i64 (b + 6)) 62 rfl ?_
      simp only [Act.put, setIfInBounds_toArray, set_cons_zero, set_cons_succ]
      refine tlP (v := .pointer (some ⟨g, i * 7, none⟩)) 63 (hr := by go_simp; try rfl) rfl ?_
      simp only [Act.put, setIfInBounds_toArray, set_cons_zero, set_cons_succ]
      refine tlP (v := .pointer (some ⟨g, i * 7 + 6, none⟩)) 64 (hr := by go_simp; try rfl) rfl ?_
      simp only [Act.put, setIfInBounds_toArray, set_cons_zero, set_cons_succ]
      have hc_ : (w.setRow g c6_).cell? ⟨g, i * 7 + 6, none⟩ = some (c6_.getD (i * 7 + 6) undef) := mCell HG.out (by simp only [hz6_]; omega)
      have hf_ : (w.setRow g c6_).frozen? ⟨g, i * 7 + 6, none⟩ = false := mFrozen HG.out _
      refine mSkip (w2 := w.setRow g (c6_.setIfInBounds (i * 7 + 6) (.int .i64 (b + 6)))) rfl (by rw [← mSet]; go_simp; try rfl) ?_
      clear hc_ hf_
      obtain ⟨c7_, hc7_⟩ : ∃ x, x = c6_.setIfInBounds (i * 7 + 6) (.int .i64 (b + 6)) := ⟨_, rfl⟩
      have hz7_ : c7_.size = cur.size := by rw [hc7_, Array.size_setIfInBounds, hz6_]
      rw [← hc7_]; have HC7_ := Aside0.mk hc7_; clear hc7_
      refine tl0 ?_
      refine mReg [0, 1, 2] rfl rfl ?_
      refine tlP (v := .int .i64 (b + 6)) 65 rfl ?_
      simp only [Act.put, setIfInBounds_toArray, set_cons_zero, set_cons_succ]
      refine tlP (v := .int .i64 (b + 7)) 66 rfl ?_ (hr := run_arith (q := .add) (k := .i64) (m := b + 6) (n := 1) (r := b + 7) rfl rfl rfl (.inl ⟨rfl, by rw [show (b + 6 : Int) + 1 = b + 7 by omega]; exact i64_ok (n := b + 7) (by omega) (by omega)⟩))
      simp only [Act.put, setIfInBounds_toArray, set_cons_zero, set_cons_succ]
      refine tlP (v := .int .i64 (b + 7)) 1 rfl ?_
      simp only [Act.put, setIfInBounds_toArray, set_cons_zero, set_cons_succ]
      refine tlE ?_
      show Exit.inBlock _ _ _ _ _
      simp only [Exit.inBlock]
      refine thN ?_
      refine mReg [0, 1, 2] rfl rfl ?_
      refine tlP (v := .int .i64 ((i : Int))) 10 rfl ?_
      simp only [Act.put, setIfInBounds_toArray, set_cons_zero, set_cons_succ]
      refine tlP (v := .int .i64 ((i : Int) + 1)) 11 rfl ?_ (hr := run_arith (q := .add) (k := .i64) (m := (i : Int)) (n := 1) (r := (i : Int) + 1) rfl rfl rfl (.inl ⟨rfl, i64_ok (n := (i : Int) + 1) (by omega) (by omega)⟩))
      simp only [Act.put, setIfInBounds_toArray, set_cons_zero, set_cons_succ]
      refine tlP (v := .int .i64 ((i : Int) + 1)) 5 rfl ?_
      simp only [Act.put, setIfInBounds_toArray, set_cons_zero, set_cons_succ]
      refine tlE ?_
      go_wp2
      go_roundg k1
      case measure => have := HK.out; omega
      case rel => exact ⟨i + 1, c7_, by rw [HBB.out]; congr 1; push_cast; omega, by congr 1, ⟨by have := HK.out; omega, by omega⟩, ⟨hz7_⟩, ⟨marks_round flat_markLoanS.len (markL) a l i hi HC.out (by rw [hz0_]; exact hsz) (by rw [HC7_.out, HC6_.out, HC5_.out, HC4_.out, HC3_.out, HC2_.out, HC1_.out, HBB.out]; rfl)⟩, ⟨rfl⟩⟩
    · have hkk := HK.out
      by_cases hge : i = l.length
      · subst hge
        have HW2 := HW.out; subst HW2
        go_wp2
        go_ret
        exact ⟨by first | rfl | simp, ci, HZ.out, by simpa using HC.out, rfl⟩
      · exfalso; omega
set_option maxHeartbeats 1600000 in
set_option maxRecDepth 100000 in
theorem laws_markLoanS_nil (A : Option Addr) (c : Nat) (a : Int) (w : World) : Calls Try.prog 39 #[.slice A 0 c, .int .i64 a] w fun e w' => e = .returned (.int .i64 a) ∧ w' = w := by
  go_enter Try.func39, Try.ntmps39
  go_wp2
  go_loopg [1, 5] 1 (fun kq v1 v5 w' => v1 = .int .i64 a ∧ v5 = .int .i64 (0 : Int) ∧ w' = w)
  case atStart => exact ⟨rfl, rfl, rfl⟩
  case round =>
    obtain ⟨rfl, rfl, rfl⟩ := hrel
    go_wp2
    go_ret
    exact ⟨rfl, rfl⟩
def laws_markLoanS.f (l : List SimplLoan) (a : Int) : Option (Int × List SimplLoan) := if 0 ≤ a ∧ a + 7 * l.length ≤ 4611686018427387904 then some (a + 7 * l.length, marksG (markL) 7 a l.length) else none
theorem laws_markLoanS.calls (P_ : Nat → Prop) (u : Value) (l : List SimplLoan) (a : Int) (r1 : Int) (r2 : List SimplLoan) (w0 w : World) (hB : Below w0.heap.size w0 w) (ho : Kd.R kimplLoan 30 w w0.heap.size P_ u l) (h : laws_markLoanS.f l a = some (r1, r2)) :
    Calls Try.prog 39 #[u, .int .i64 a] w fun e w' => e = .returned (.int .i64 r1) ∧ Kd.R kimplLoan 30 w' w0.heap.size P_ u r2 ∧ Below w0.heap.size w0 w' ∧ Kept w w' P_ := by
  unfold laws_markLoanS.f at h
  split at h
  next hh =>
    obtain ⟨rfl, rfl⟩ : a + 7 * l.length = r1 ∧ marksG (markL) 7 a l.length = r2 := by simpa using h
    by_cases hl : 0 < l.length
    · obtain ⟨g, cap, cur, hv, hP, hg, hsz, htk, hge, hback⟩ := R_blk flat_markLoanS ho hl
      subst hv
      refine (laws_markLoanS_loop g cap l a cur w hg htk hsz hh.1 hh.2).mono ?_
      rintro e w' ⟨rfl, cur', hs', ht', hw'⟩
      exact ⟨rfl, marks_fin flat_markLoanS hB ho rfl hg hP hge hback hs' ht' hw'⟩
    · obtain rfl : l = [] := List.eq_nil_of_length_eq_zero (by omega)
      obtain ⟨A, c, rfl⟩ := Kd.R_slice ho
      refine (laws_markLoanS_nil A c a w).mono ?_
      rintro e w' ⟨rfl, rfl⟩
      exact ⟨by simp, ho, hB, Kept.refl _ _⟩
  next => cases h
end Go.Proofs.Ytpbboooeahmgpaa.P


namespace Go.Proofs.Ytpbboooeahmgpaa.P
open Go.RowKit Go.Proofs.YtpbboooeahmgpaaW.PrintWords Go.Proofs.YtpbboooeahmgpaaW.PrintLast Go.Proofs.YtpbboooeahmgpaaW.PrintMore
attribute [local go_sem] max2_int min2_int max_two min_two max_three min_three max_four min_four   -- for this text's walks alone
set_option linter.unusedVariables false
set_option linter.unusedSimpArgs false

/-! ### impl_Loan_held: function 94 -/
def impl_Loan_held.f (a0_0 : Int) (a0_1 : Int) (a0_2 : Int) (a0_3 : Int) (a0_4 : Bool) (a0_5 : Int) (a0_6 : Int) (a1 : Int) : Option (Bool) := if a0_5 ≤ a1 then (some (decide (a1 < a0_6))) else (some false)
set_option maxHeartbeats 8000000 in
set_option maxRecDepth 100000 in
theorem impl_Loan_held.calls (a0_0 : Int) (a0_1 : Int) (a0_2 : Int) (a0_3 : Int) (a0_4 : Bool) (a0_5 : Int) (a0_6 : Int) (a1 : Int) (r : Bool) (w : World) (h : impl_Loan_held.f a0_0 a0_1 a0_2 a0_3 a0_4 a0_5 a0_6 a1 = some r) :
    Calls Try.prog 94 #[.agg #[.int .i64 a0_0, .int .i64 a0_1, .int .i64 a0_2, .int .i64 a0_3, .bool a0_4, .int .i64 a0_5, .int .i64 a0_6], .int .i64 a1] w fun e w' => e = .returned (.bool r) ∧ Below w.heap.size w w' := by
  have hu30 := Try.underlying30
  have HB := Aside0.mk (Below.refl w.heap.size w)
  have H : (if a0_5 ≤ a1 then (some (decide (a1 < a0_6))) else (some false)) = some r := h
  clear h
  by_cases c3 : a0_5 ≤ a1
  · rw [if_pos c3] at H
    have c3b0 : decide (a0_5 ≤ a1) = true := decide_eq_true c3
    clear c3
    obtain rfl := Option.some.inj H
    go_enter Try.func94, Try.ntmps94
    go_wp2_with (first | ((with_reducible refine gate_dst (N := 2) rfl ?_); refine box_event ?hg (N := 2) ?hd (cs := #[.int .i64 a0_0, .int .i64 a0_1, .int .i64 a0_2, .int .i64 a0_3, .bool a0_4, .int .i64 a0_5, .int .i64 a0_6]) (t := 30) ?hr ?_; (case hd => rfl); (case hg => rfl); (case hr => first | (go_simp; done) | (go_simp; rfl)); intro gb701 hg w4 hbox hb; have n0_ := Aside0.mk (below_step (by repeat (first | (with_reducible first | exact HB.out | apply below_alloc | apply pw_below_drewN | apply below_drew1) | exact HB.out)) hb); have n1_ := Aside0.mk (hbox); have n2_ := Aside0.mk ((by rw [hg]; exact (below_size (by repeat (first | (with_reducible first | exact HB.out | apply below_alloc | apply pw_below_drewN | apply below_drew1) | exact HB.out))) : w.heap.size ≤ gb701)); have n3_ := Aside0.mk ((by rw [hg]; exact (below_size (by repeat (first | (with_reducible first | exact HB.out | apply below_alloc | apply pw_below_drewN | apply below_drew1) | exact HB.out))) : w.heap.size ≤ gb701)); clear HB; have HB := n0_; have BK701 := n1_; have GW701 := n2_; have GE701 := n3_; clear n0_ n1_ n2_ n3_; clear hb hbox hg; have hcz5_0 : w4.cell? ⟨gb701, 0, none⟩ = some (.int .i64 a0_0) := (blk_cell BK701.out 0).trans rfl; have hcz5_1 : w4.cell? ⟨gb701, 1, none⟩ = some (.int .i64 a0_1) := (blk_cell BK701.out 1).trans rfl; have hcz5_2 : w4.cell? ⟨gb701, 2, none⟩ = some (.int .i64 a0_2) := (blk_cell BK701.out 2).trans rfl; have hcz5_3 : w4.cell? ⟨gb701, 3, none⟩ = some (.int .i64 a0_3) := (blk_cell BK701.out 3).trans rfl; have hcz5_4 : w4.cell? ⟨gb701, 4, none⟩ = some (.bool a0_4) := (blk_cell BK701.out 4).trans rfl; have hcz5_5 : w4.cell? ⟨gb701, 5, none⟩ = some (.int .i64 a0_5) := (blk_cell BK701.out 5).trans rfl; have hcz5_6 : w4.cell? ⟨gb701, 6, none⟩ = some (.int .i64 a0_6) := (blk_cell BK701.out 6).trans rfl; have hfz5_0 := blk_frozen BK701.out 0; have hfz5_1 := blk_frozen BK701.out 1; have hfz5_2 := blk_frozen BK701.out 2; have hfz5_3 := blk_frozen BK701.out 3; have hfz5_4 := blk_frozen BK701.out 4; have hfz5_5 := blk_frozen BK701.out 5; have hfz5_6 := blk_frozen BK701.out 6))
    go_ret
    exact ⟨by first | rfl | (simp [errW_none, errW_some] <;> rfl) | (simp [*, errW_none, errW_some] <;> rfl), by repeat (first | (with_reducible first | exact HB.out | apply below_alloc | apply pw_below_drewN | apply below_drew1 | refine below_set ?_ GE701.out) | exact HB.out)⟩
  · rw [if_neg c3] at H
    have c3b0 : decide (a0_5 ≤ a1) = false := decide_eq_false c3
    clear c3
    obtain rfl := Option.some.inj H
    go_enter Try.func94, Try.ntmps94
    go_wp2_with (first | ((with_reducible refine gate_dst (N := 2) rfl ?_); refine box_event ?hg (N := 2) ?hd (cs := #[.int .i64 a0_0, .int .i64 a0_1, .int .i64 a0_2, .int .i64 a0_3, .bool a0_4, .int .i64 a0_5, .int .i64 a0_6]) (t := 30) ?hr ?_; (case hd => rfl); (case hg => rfl); (case hr => first | (go_simp; done) | (go_simp; rfl)); intro gb701 hg w6 hbox hb; have n0_ := Aside0.mk (below_step (by repeat (first | (with_reducible first | exact HB.out | apply below_alloc | apply pw_below_drewN | apply below_drew1) | exact HB.out)) hb); have n1_ := Aside0.mk (hbox); have n2_ := Aside0.mk ((by rw [hg]; exact (below_size (by repeat (first | (with_reducible first | exact HB.out | apply below_alloc | apply pw_below_drewN | apply below_drew1) | exact HB.out))) : w.heap.size ≤ gb701)); have n3_ := Aside0.mk ((by rw [hg]; exact (below_size (by repeat (first | (with_reducible first | exact HB.out | apply below_alloc | apply pw_below_drewN | apply below_drew1) | exact HB.out))) : w.heap.size ≤ gb701)); clear HB; have HB := n0_; have BK701 := n1_; have GW701 := n2_; have GE701 := n3_; clear n0_ n1_ n2_ n3_; clear hb hbox hg; have hcz7_0 : w6.cell? ⟨gb701, 0, none⟩ = some (.int .i64 a0_0) := (blk_cell BK701.out 0).trans rfl; have hcz7_1 : w6.cell? ⟨gb701, 1, none⟩ = some (.int .i64 a0_1) := (blk_cell BK701.out 1).trans rfl; have hcz7_2 : w6.cell? ⟨gb701, 2, none⟩ = some (.int .i64 a0_2) := (blk_cell BK701.out 2).trans rfl; have hcz7_3 : w6.cell? ⟨gb701, 3, none⟩ = some (.int .i64 a0_3) := (blk_cell BK701.out 3).trans rfl; have hcz7_4 : w6.cell? ⟨gb701, 4, none⟩ = some (.bool a0_4) := (blk_cell BK701.out 4).trans rfl; have hcz7_5 : w6.cell? ⟨gb701, 5, none⟩ = some (.int .i64 a0_5) := (blk_cell BK701.out 5).trans rfl; have hcz7_6 : w6.cell? ⟨gb701, 6, none⟩ = some (.int .i64 a0_6) := (blk_cell BK701.out 6).trans rfl; have hfz7_0 := blk_frozen BK701.out 0; have hfz7_1 := blk_frozen BK701.out 1; have hfz7_2 := blk_frozen BK701.out 2; have hfz7_3 := blk_frozen BK701.out 3; have hfz7_4 := blk_frozen BK701.out 4; have hfz7_5 := blk_frozen BK701.out 5; have hfz7_6 := blk_frozen BK701.out 6))
    go_ret
    exact ⟨by first | rfl | (simp [errW_none, errW_some] <;> rfl) | (simp [*, errW_none, errW_some] <;> rfl), by repeat (first | (with_reducible first | exact HB.out | apply below_alloc | apply pw_below_drewN | apply below_drew1 | refine below_set ?_ GE701.out) | exact HB.out)⟩

end Go.Proofs.Ytpbboooeahmgpaa.P


namespace Go.Proofs.Ytpbboooeahmgpaa.P
open Go.RowKit Go.Proofs.YtpbboooeahmgpaaW.PrintWords Go.Proofs.YtpbboooeahmgpaaW.PrintLast Go.Proofs.YtpbboooeahmgpaaW.PrintMore
attribute [local go_sem] max2_int min2_int max_two min_two max_three min_three max_four min_four   -- for this text's walks alone
set_option linter.unusedVariables false
set_option linter.unusedSimpArgs false

/-! ### spec_l10Held: function 92 -/
def spec_l10Held.f (a0_0 : Int) (a0_1 : Int) (a0_2 : Int) (a0_3 : Int) (a0_4 : Bool) (a0_5 : Int) (a0_6 : Int) (a1 : Int) : Option (Bool) := if a1 ≥ a0_5 then (some (decide (a1 < a0_6))) else (some false)
set_option maxHeartbeats 8000000 in
set_option maxRecDepth 100000 in
theorem spec_l10Held.calls (a0_0 : Int) (a0_1 : Int) (a0_2 : Int) (a0_3 : Int) (a0_4 : Bool) (a0_5 : Int) (a0_6 : Int) (a1 : Int) (r : Bool) (w : World) (h : spec_l10Held.f a0_0 a0_1 a0_2 a0_3 a0_4 a0_5 a0_6 a1 = some r) :
    Calls Try.prog 92 #[.agg #[.int .i64 a0_0, .int .i64 a0_1, .int .i64 a0_2, .int .i64 a0_3, .bool a0_4, .int .i64 a0_5, .int .i64 a0_6], .int .i64 a1] w fun e w' => e = .returned (.bool r) ∧ Below w.heap.size w w' := by
  have hu30 := Try.underlying30
  have HB := Aside0.mk (Below.refl w.heap.size w)
  have H : (if a1 ≥ a0_5 then (some (decide (a1 < a0_6))) else (some false)) = some r := h
  clear h
  by_cases c3 : a1 ≥ a0_5
  · rw [if_pos c3] at H
    have c3b0 : decide (a0_5 ≤ a1) = true := decide_eq_true c3
    clear c3
    obtain rfl := Option.some.inj H
    go_enter Try.func92, Try.ntmps92
    go_wp2_with (first | ((with_reducible refine gate_dst (N := 2) rfl ?_); refine box_event ?hg (N := 2) ?hd (cs := #[.int .i64 a0_0, .int .i64 a0_1, .int .i64 a0_2, .int .i64 a0_3, .bool a0_4, .int .i64 a0_5, .int .i64 a0_6]) (t := 30) ?hr ?_; (case hd => rfl); (case hg => rfl); (case hr => first | (go_simp; done) | (go_simp; rfl)); intro gb689 hg w4 hbox hb; have n0_ := Aside0.mk (below_step (by repeat (first | (with_reducible first | exact HB.out | apply below_alloc | apply pw_below_drewN | apply below_drew1) | exact HB.out)) hb); have n1_ := Aside0.mk (hbox); have n2_ := Aside0.mk ((by rw [hg]; exact (below_size (by repeat (first | (with_reducible first | exact HB.out | apply below_alloc | apply pw_below_drewN | apply below_drew1) | exact HB.out))) : w.heap.size ≤ gb689)); have n3_ := Aside0.mk ((by rw [hg]; exact (below_size (by repeat (first | (with_reducible first | exact HB.out | apply below_alloc | apply pw_below_drewN | apply below_drew1) | exact HB.out))) : w.heap.size ≤ gb689)); clear HB; have HB := n0_; have BK689 := n1_; have GW689 := n2_; have GE689 := n3_; clear n0_ n1_ n2_ n3_; clear hb hbox hg; have hcz5_0 : w4.cell? ⟨gb689, 0, none⟩ = some (.int .i64 a0_0) := (blk_cell BK689.out 0).trans rfl; have hcz5_1 : w4.cell? ⟨gb689, 1, none⟩ = some (.int .i64 a0_1) := (blk_cell BK689.out 1).trans rfl; have hcz5_2 : w4.cell? ⟨gb689, 2, none⟩ = some (.int .i64 a0_2) := (blk_cell BK689.out 2).trans rfl; have hcz5_3 : w4.cell? ⟨gb689, 3, none⟩ = some (.int .i64 a0_3) := (blk_cell BK689.out 3).trans rfl; have hcz5_4 : w4.cell? ⟨gb689, 4, none⟩ = some (.bool a0_4) := (blk_cell BK689.out 4).trans rfl; have hcz5_5 : w4.cell? ⟨gb689, 5, none⟩ = some (.int .i64 a0_5) := (blk_cell BK689.out 5).trans rfl; have hcz5_6 : w4.cell? ⟨gb689, 6, none⟩ = some (.int .i64 a0_6) := (blk_cell BK689.out 6).trans rfl; have hfz5_0 := blk_frozen BK689.out 0; have hfz5_1 := blk_frozen BK689.out 1; have hfz5_2 := blk_frozen BK689.out 2; have hfz5_3 := blk_frozen BK689.out 3; have hfz5_4 := blk_frozen BK689.out 4; have hfz5_5 := blk_frozen BK689.out 5; have hfz5_6 := blk_frozen BK689.out 6))
    go_ret
    exact ⟨by first | rfl | (simp [errW_none, errW_some] <;> rfl) | (simp [*, errW_none, errW_some] <;> rfl), by repeat (first | (with_reducible first | exact HB.out | apply below_alloc | apply pw_below_drewN | apply below_drew1 | refine below_set ?_ GE689.out) | exact HB.out)⟩
  · rw [if_neg c3] at H
    have c3b0 : decide (a0_5 ≤ a1) = false := decide_eq_false c3
    clear c3
    obtain rfl := Option.some.inj H
    go_enter Try.func92, Try.ntmps92
    go_wp2_with (first | ((with_reducible refine gate_dst (N := 2) rfl ?_); refine box_event ?hg (N := 2) ?hd (cs := #[.int .i64 a0_0, .int .i64 a0_1, .int .i64 a0_2, .int .i64 a0_3, .bool a0_4, .int .i64 a0_5, .int .i64 a0_6]) (t := 30) ?hr ?_; (case hd => rfl); (case hg => rfl); (case hr => first | (go_simp; done) | (go_simp; rfl)); intro gb689 hg w6 hbox hb; have n0_ := Aside0.mk (below_step (by repeat (first | (with_reducible first | exact HB.out | apply below_alloc | apply pw_below_drewN | apply below_drew1) | exact HB.out)) hb); have n1_ := Aside0.mk (hbox); have n2_ := Aside0.mk ((by rw [hg]; exact (below_size (by repeat (first | (with_reducible first | exact HB.out | apply below_alloc | apply pw_below_drewN | apply below_drew1) | exact HB.out))) : w.heap.size ≤ gb689)); have n3_ := Aside0.mk ((by rw [hg]; exact (below_size (by repeat (first | (with_reducible first | exact HB.out | apply below_alloc | apply pw_below_drewN | apply below_drew1) | exact HB.out))) : w.heap.size ≤ gb689)); clear HB; have HB := n0_; have BK689 := n1_; have GW689 := n2_; have GE689 := n3_; clear n0_ n1_ n2_ n3_; clear hb hbox hg; have hcz7_0 : w6.cell? ⟨gb689, 0, none⟩ = some (.int .i64 a0_0) := (blk_cell BK689.out 0).trans rfl; have hcz7_1 : w6.cell? ⟨gb689, 1, none⟩ = some (.int .i64 a0_1) := (blk_cell BK689.out 1).trans rfl; have hcz7_2 : w6.cell? ⟨gb689, 2, none⟩ = some (.int .i64 a0_2) := (blk_cell BK689.out 2).trans rfl; have hcz7_3 : w6.cell? ⟨gb689, 3, none⟩ = some (.int .i64 a0_3) := (blk_cell BK689.out 3).trans rfl; have hcz7_4 : w6.cell? ⟨gb689, 4, none⟩ = some (.bool a0_4) := (blk_cell BK689.out 4).trans rfl; have hcz7_5 : w6.cell? ⟨gb689, 5, none⟩ = some (.int .i64 a0_5) := (blk_cell BK689.out 5).trans rfl; have hcz7_6 : w6.cell? ⟨gb689, 6, none⟩ = some (.int .i64 a0_6) := (blk_cell BK689.out 6).trans rfl; have hfz7_0 := blk_frozen BK689.out 0; have hfz7_1 := blk_frozen BK689.out 1; have hfz7_2 := blk_frozen BK689.out 2; have hfz7_3 := blk_frozen BK689.out 3; have hfz7_4 := blk_frozen BK689.out 4; have hfz7_5 := blk_frozen BK689.out 5; have hfz7_6 := blk_frozen BK689.out 6))
    go_ret
    exact ⟨by first | rfl | (simp [errW_none, errW_some] <;> rfl) | (simp [*, errW_none, errW_some] <;> rfl), by repeat (first | (with_reducible first | exact HB.out | apply below_alloc | apply pw_below_drewN | apply below_drew1 | refine below_set ?_ GE689.out) | exact HB.out)⟩

end Go.Proofs.Ytpbboooeahmgpaa.P


/- HeldAt: what both sides come to. -/
namespace Go.Proofs.Ytpbboooeahmgpaa.P
open Go.RowKit Go.Proofs.YtpbboooeahmgpaaW.PrintWords Go.Proofs.YtpbboooeahmgpaaW.Mine
set_option linter.unusedVariables false
def heldL (t : Int) (x : SimplLoan) : Bool := decide (x.f2 ≤ t ∧ t < x.f3)
theorem loanHeld_f (x : SimplLoan) (t : Int) : impl_Loan_held.f x.f0.f0 x.f0.f1 x.f0.f2 x.f0.f3 x.f1 x.f2 x.f3 t = some (heldL t x) := by
  unfold impl_Loan_held.f heldL
  by_cases h : x.f2 ≤ t
  · rw [if_pos h]; simp [h]
  · rw [if_neg h]; simp [h]
theorem l10Held_f (x : SimplLoan) (t : Int) : spec_l10Held.f x.f0.f0 x.f0.f1 x.f0.f2 x.f0.f3 x.f1 x.f2 x.f3 t = some (heldL t x) := by
  unfold spec_l10Held.f heldL
  by_cases h : x.f2 ≤ t
  · rw [if_pos h]; simp [h]
  · rw [if_neg (by omega)]; simp [h]
theorem loansB_len {m : List (List Int)} {l : List SimplLoan} (h : loansB m l = true) : l.length ≤ 8 := by
  unfold loansB at h
  simp only [Bool.and_eq_true, decide_eq_true_eq] at h
  exact h.2
theorem markLs (l : List SimplLoan) (a : Int) (h0 : 0 ≤ a) (h : a + 7 * l.length ≤ 4611686018427387904) : laws_markLoanS.f l a = some (a + 7 * (l.length : Int), marksG markL 7 a l.length) := if_pos ⟨h0, h⟩
end Go.Proofs.Ytpbboooeahmgpaa.P


namespace Go.Proofs.Ytpbboooeahmgpaa.P
open Go.RowKit Go.Proofs.YtpbboooeahmgpaaW.PrintWords Go.Proofs.YtpbboooeahmgpaaW.PrintLast Go.Proofs.YtpbboooeahmgpaaW.PrintMore
attribute [local go_sem] max2_int min2_int max_two min_two max_three min_three max_four min_four   -- for this text's walks alone
set_option linter.unusedVariables false
set_option linter.unusedSimpArgs false

/-! ### laws_heldIntSS: function 51 -/
def laws_heldIntSS.l0 : Nat → List (List Int) → Int → Int → Option (Int)
  | 0, _, _, _ => none
  | k + 1, x0, x1, x5 => if x5 < (x0.length : Int) then (if 0 ≤ x5 then ((laws_heldIntS.f k (rd_Lsi64 x0 x5) x1).bind fun t942 => (if t942 < 0 then (some (-1)) else (laws_heldIntSS.l0 k x0 t942 (wrap64 (x5 + 1))))) else (none)) else (some x1)
def laws_heldIntSS.f (k : Nat) (l0 : List (List Int)) (a1 : Int) : Option (Int) := laws_heldIntSS.l0 k l0 a1 0
set_option maxHeartbeats 8000000 in
set_option maxRecDepth 100000 in
theorem laws_heldIntSS.calls (k : Nat) (A0 : Option Addr) (c0 : Nat) (l0 : List (List Int)) (a1 : Int) (r : Int) (w : World) (hr0 : Kd.C (Kd.slice 3 (Kd.int .i64)) w A0 l0.length l0) (hc0 : l0.length ≤ c0) (h : laws_heldIntSS.f k l0 a1 = some r) :
    Calls Try.prog 51 #[.slice A0 l0.length c0, .int .i64 a1] w fun e w' => e = .returned (.int .i64 r) ∧ Drawn0 w w' := by
  have HR0 := Aside0.mk hr0
  have HC0 := Aside0.mk hc0
  clear hr0 hc0
  have H : (laws_heldIntSS.l0 k l0 a1 0) = some r := h
  clear h
  have H' := Aside0.mk H
  clear H
  go_enter Try.func51, Try.ntmps51
  go_wp2
  go_loopg [1, 5] k (fun kq v1 v5 w' => ∃ (x1_1 : Int) (x5_1 : Int), v1 = .int .i64 x1_1 ∧ v5 = .int .i64 x5_1 ∧ Aside0 (laws_heldIntSS.l0 kq l0 x1_1 x5_1 = some r) ∧ Aside0 (kq ≤ k) ∧ Drawn0 w w')
  case atStart => exact ⟨(a1), (0), (by first | rfl | (simp; done) | (simp [*]; done)), (by first | rfl | (simp; done) | (simp [*]; done)), H', ⟨Nat.le_refl _⟩, by repeat (first | exact Drawn0.refl _ | apply Drawn0.step)⟩
  case round =>
    clear H'
    try clear p2
    obtain ⟨x1_1, x5_1, rfl, rfl, HA, HK1, ⟨m1, rfl⟩⟩ := hrel
    cases gk with
    | zero => exact absurd HA.out (by simp [laws_heldIntSS.l0])
    | succ k1 =>
      have H := HA.out
      clear HA
      simp only [laws_heldIntSS.l0] at H
      by_cases c3 : x5_1 < (l0.length : Int)
      · rw [if_pos c3] at H
        have c3b0 : decide (x5_1 < (l0.length : Int)) = true := decide_eq_true c3
        clear c3
        by_cases c4 : 0 ≤ x5_1
        · rw [if_pos c4] at H
          have c4b0 : decide (0 ≤ x5_1) = true := decide_eq_true c4
          clear c4
          replace H := Option.bind_eq_some_iff.mp H
          obtain ⟨t942, A50, H⟩ := H
          replace H : (if t942 < 0 then (some (-1)) else (laws_heldIntSS.l0 k1 l0 t942 (wrap64 (x5_1 + 1)))) = some r := H
          have A5 := Aside0.mk A50
          clear A50
          by_cases c6 : t942 < 0
          · rw [if_pos c6] at H
            have c6b0 : decide (t942 < 0) = true := decide_eq_true c6
            clear c6
            obtain rfl := Option.some.inj H
            have p941 : 0 ≤ (x5_1 : Int) := of_decide_eq_true (by first | (with_reducible assumption) | assumption)
            have q941 : x5_1 < (l0.length : Int) := of_decide_eq_true (by first | (with_reducible assumption) | assumption)
            obtain ⟨ad941, A941_0, c941_0, e941, hx941_0, hl941_0, hi941_0⟩ := at_Lsi64 HR0.out x5_1 p941 q941
            cases e941
            have HR941_0 := Aside0.mk hi941_0
            have HC941_0 := Aside0.mk hl941_0
            clear hi941_0 hl941_0
            replace p941 := eq_true p941
            replace q941 := eq_true q941
            go_wp2_with (first | ((with_reducible refine gate_callee (f := 41) rfl ?_); refine goesL_ (some 17) rfl rfl Try.func41 (by kernel_rfl) rfl #[.slice A941_0 (rd_Lsi64 l0 x5_1).length c941_0, .int .i64 x1_1] rfl (by (try simp only [List.map_toArray, List.map_cons, List.map_nil]); first | done | rfl | (simp only [List.length_drop, List.length_take]; rfl)) ?_; (with_reducible refine (laws_heldIntS.calls k1 _ _ (rd_Lsi64 l0 x5_1) x1_1 t942 _ ?side1 ?side2 A5.out).mono ?_); (case side1 => repeat (first | exact HR941_0.out | (with_reducible refine Kd.C_alloc ?_ _) | (with_reducible refine Kd.C_drewN ?_ _) | (with_reducible refine Kd.C_drew ?_))); (case side2 => exact HC941_0.out); rintro e w' ⟨rfl, ⟨nd, rfl⟩⟩; refine ⟨_, rfl, ?_⟩))
            go_ret
            exact ⟨by first | rfl | (simp; done) | (simp [*]; done), by repeat (first | exact Drawn0.refl _ | apply Drawn0.step)⟩
          · rw [if_neg c6] at H
            have c6b0 : decide (t942 < 0) = false := decide_eq_false c6
            clear c6
            have H' := Aside0.mk H
            clear H
            have p941 : 0 ≤ (x5_1 : Int) := of_decide_eq_true (by first | (with_reducible assumption) | assumption)
            have q941 : x5_1 < (l0.length : Int) := of_decide_eq_true (by first | (with_reducible assumption) | assumption)
            obtain ⟨ad941, A941_0, c941_0, e941, hx941_0, hl941_0, hi941_0⟩ := at_Lsi64 HR0.out x5_1 p941 q941
            cases e941
            have HR941_0 := Aside0.mk hi941_0
            have HC941_0 := Aside0.mk hl941_0
            clear hi941_0 hl941_0
            replace p941 := eq_true p941
            replace q941 := eq_true q941
            go_wp2_with (first | ((with_reducible refine gate_callee (f := 41) rfl ?_); refine goesL_ (some 17) rfl rfl Try.func41 (by kernel_rfl) rfl #[.slice A941_0 (rd_Lsi64 l0 x5_1).length c941_0, .int .i64 x1_1] rfl (by (try simp only [List.map_toArray, List.map_cons, List.map_nil]); first | done | rfl | (simp only [List.length_drop, List.length_take]; rfl)) ?_; (with_reducible refine (laws_heldIntS.calls k1 _ _ (rd_Lsi64 l0 x5_1) x1_1 t942 _ ?side1 ?side2 A5.out).mono ?_); (case side1 => repeat (first | exact HR941_0.out | (with_reducible refine Kd.C_alloc ?_ _) | (with_reducible refine Kd.C_drewN ?_ _) | (with_reducible refine Kd.C_drew ?_))); (case side2 => exact HC941_0.out); rintro e w' ⟨rfl, ⟨nd, rfl⟩⟩; refine ⟨_, rfl, ?_⟩))
            go_roundg k1
            case measure => have := HK1.out; omega
            case rel => exact ⟨(t942), (wrap64 (x5_1 + 1)), (by first | rfl | (simp; done) | (simp [*]; done)), (by first | rfl | (simp; done) | (simp [*]; done)), H', ⟨by have := HK1.out; omega⟩, by repeat (first | exact Drawn0.refl _ | apply Drawn0.step)⟩
        · rw [if_neg c4] at H
          exact absurd H (by simp)
      · rw [if_neg c3] at H
        have c3b0 : decide (x5_1 < (l0.length : Int)) = false := decide_eq_false c3
        clear c3
        obtain rfl := Option.some.inj H
        go_wp2
        go_ret
        exact ⟨by first | rfl | (simp; done) | (simp [*]; done), by repeat (first | exact Drawn0.refl _ | apply Drawn0.step)⟩

end Go.Proofs.Ytpbboooeahmgpaa.P


namespace Go.Proofs.Ytpbboooeahmgpaa.P
open Go.RowKit Go.Proofs.YtpbboooeahmgpaaW.PrintWords Go.Proofs.YtpbboooeahmgpaaW.PrintLast Go.Proofs.YtpbboooeahmgpaaW.PrintMore
attribute [local go_sem] max2_int min2_int max_two min_two max_three min_three max_four min_four   -- for this text's walks alone
set_option linter.unusedVariables false
set_option linter.unusedSimpArgs false

/-! ### laws_eqIntSS: function 49 -/
def laws_eqIntSS.l0 : Nat → List (List Int) → List (List Int) → Int → Option (Bool)
  | 0, _, _, _ => none
  | k + 1, x0, x1, x5 => if x5 < (x0.length : Int) then (if 0 ≤ x5 then (if x5 < (x1.length : Int) then ((laws_eqIntS.f k (rd_Lsi64 x0 x5) (rd_Lsi64 x1 x5)).bind fun t940 => (if t940 = true then (laws_eqIntSS.l0 k x0 x1 (wrap64 (x5 + 1))) else (some false))) else (none)) else (none)) else (some true)
def laws_eqIntSS.f (k : Nat) (l0 : List (List Int)) (l1 : List (List Int)) : Option (Bool) := if (l0.length : Int) = (l1.length : Int) then (laws_eqIntSS.l0 k l0 l1 0) else (some false)
set_option maxHeartbeats 8000000 in
set_option maxRecDepth 100000 in
theorem laws_eqIntSS.calls (k : Nat) (A0 : Option Addr) (c0 : Nat) (l0 : List (List Int)) (A1 : Option Addr) (c1 : Nat) (l1 : List (List Int)) (r : Bool) (w : World) (hr0 : Kd.C (Kd.slice 3 (Kd.int .i64)) w A0 l0.length l0) (hc0 : l0.length ≤ c0) (hr1 : Kd.C (Kd.slice 3 (Kd.int .i64)) w A1 l1.length l1) (hc1 : l1.length ≤ c1) (h : laws_eqIntSS.f k l0 l1 = some r) :
    Calls Try.prog 49 #[.slice A0 l0.length c0, .slice A1 l1.length c1] w fun e w' => e = .returned (.bool r) ∧ Drawn0 w w' := by
  have HR0 := Aside0.mk hr0
  have HC0 := Aside0.mk hc0
  clear hr0 hc0
  have HR1 := Aside0.mk hr1
  have HC1 := Aside0.mk hc1
  clear hr1 hc1
  have H : (if (l0.length : Int) = (l1.length : Int) then (laws_eqIntSS.l0 k l0 l1 0) else (some false)) = some r := h
  clear h
  by_cases c3 : (l0.length : Int) = (l1.length : Int)
  · rw [if_pos c3] at H
    have c3b0 : ((l0.length : Int) == (l1.length : Int)) = true := beq_iff_eq.mpr c3
    have c3b1 : ((l0.length : Int) != (l1.length : Int)) = false := bne_eq_false_iff_eq.mpr c3
    have c3b2 : (l0.length == l1.length) = true := by first | simpa using c3 | (simp at c3 ⊢; omega)
    clear c3
    have H' := Aside0.mk H
    clear H
    go_enter Try.func49, Try.ntmps49
    go_wp2
    repeat (go_quiet (fail); try go_wp2)
    go_loopg [5] k (fun kq v5 w' => ∃ (x5_1 : Int), v5 = .int .i64 x5_1 ∧ Aside0 (laws_eqIntSS.l0 kq l0 l1 x5_1 = some r) ∧ Aside0 (kq ≤ k) ∧ Drawn0 w w')
    case atStart => exact ⟨(0), (by first | rfl | (simp; done) | (simp [*]; done)), H', ⟨Nat.le_refl _⟩, by repeat (first | exact Drawn0.refl _ | apply Drawn0.step)⟩
    case round =>
      clear H'
      try clear c1
      try clear p2
      try clear c3
      try clear c3b0
      try clear c3b1
      try clear c3b2
      obtain ⟨x5_1, rfl, HA, HK1, ⟨m1, rfl⟩⟩ := hrel
      cases gk with
      | zero => exact absurd HA.out (by simp [laws_eqIntSS.l0])
      | succ k1 =>
        have H := HA.out
        clear HA
        simp only [laws_eqIntSS.l0] at H
        by_cases c4 : x5_1 < (l0.length : Int)
        · rw [if_pos c4] at H
          have c4b0 : decide (x5_1 < (l0.length : Int)) = true := decide_eq_true c4
          clear c4
          by_cases c5 : 0 ≤ x5_1
          · rw [if_pos c5] at H
            have c5b0 : decide (0 ≤ x5_1) = true := decide_eq_true c5
            clear c5
            by_cases c6 : x5_1 < (l1.length : Int)
            · rw [if_pos c6] at H
              have c6b0 : decide (x5_1 < (l1.length : Int)) = true := decide_eq_true c6
              clear c6
              replace H := Option.bind_eq_some_iff.mp H
              obtain ⟨t940, A70, H⟩ := H
              replace H : (if t940 = true then (laws_eqIntSS.l0 k1 l0 l1 (wrap64 (x5_1 + 1))) else (some false)) = some r := H
              have A7 := Aside0.mk A70
              clear A70
              by_cases c8 : t940 = true
              · subst c8
                have H1 : (laws_eqIntSS.l0 k1 l0 l1 (wrap64 (x5_1 + 1))) = some r := by rw [if_pos rfl] at H; exact H
                clear H
                have H := H1
                clear H1
                have H' := Aside0.mk H
                clear H
                have p938 : 0 ≤ (x5_1 : Int) := of_decide_eq_true (by first | (with_reducible assumption) | assumption)
                have q938 : x5_1 < (l0.length : Int) := of_decide_eq_true (by first | (with_reducible assumption) | assumption)
                obtain ⟨ad938, A938_0, c938_0, e938, hx938_0, hl938_0, hi938_0⟩ := at_Lsi64 HR0.out x5_1 p938 q938
                cases e938
                have HR938_0 := Aside0.mk hi938_0
                have HC938_0 := Aside0.mk hl938_0
                clear hi938_0 hl938_0
                replace p938 := eq_true p938
                replace q938 := eq_true q938
                have p939 : 0 ≤ (x5_1 : Int) := of_decide_eq_true (by first | (with_reducible assumption) | assumption)
                have q939 : x5_1 < (l1.length : Int) := of_decide_eq_true (by first | (with_reducible assumption) | assumption)
                obtain ⟨ad939, A939_0, c939_0, e939, hx939_0, hl939_0, hi939_0⟩ := at_Lsi64 HR1.out x5_1 p939 q939
                cases e939
                have HR939_0 := Aside0.mk hi939_0
                have HC939_0 := Aside0.mk hl939_0
                clear hi939_0 hl939_0
                replace p939 := eq_true p939
                replace q939 := eq_true q939
                go_wp2_with (first | (go_at_call 37; (with_reducible refine (laws_eqIntS.calls k1 _ _ (rd_Lsi64 l0 x5_1) _ _ (rd_Lsi64 l1 x5_1) true _ ?side1 ?side2 ?side3 ?side4 A7.out).mono ?_); (case side1 => repeat (first | exact HR938_0.out | (with_reducible refine Kd.C_alloc ?_ _) | (with_reducible refine Kd.C_drewN ?_ _) | (with_reducible refine Kd.C_drew ?_))); (case side2 => exact HC938_0.out); (case side3 => repeat (first | exact HR939_0.out | (with_reducible refine Kd.C_alloc ?_ _) | (with_reducible refine Kd.C_drewN ?_ _) | (with_reducible refine Kd.C_drew ?_))); (case side4 => exact HC939_0.out); rintro e w' ⟨rfl, ⟨nd, rfl⟩⟩; (try first | exact ⟨rfl, _, World.drewN_drewN _ _ _⟩ | exact ⟨rfl, _, Eq.trans (World.drewN_drewN _ _ _) (congrArg (World.drewN _) (Nat.add_assoc _ _ _))⟩)))
                repeat (go_quiet (first | (go_at_call 37; (with_reducible refine (laws_eqIntS.calls k1 _ _ (rd_Lsi64 l0 x5_1) _ _ (rd_Lsi64 l1 x5_1) true _ ?side1 ?side2 ?side3 ?side4 A7.out).mono ?_); (case side1 => repeat (first | exact HR938_0.out | (with_reducible refine Kd.C_alloc ?_ _) | (with_reducible refine Kd.C_drewN ?_ _) | (with_reducible refine Kd.C_drew ?_))); (case side2 => exact HC938_0.out); (case side3 => repeat (first | exact HR939_0.out | (with_reducible refine Kd.C_alloc ?_ _) | (with_reducible refine Kd.C_drewN ?_ _) | (with_reducible refine Kd.C_drew ?_))); (case side4 => exact HC939_0.out); rintro e w' ⟨rfl, ⟨nd, rfl⟩⟩; (try first | exact ⟨rfl, _, World.drewN_drewN _ _ _⟩ | exact ⟨rfl, _, Eq.trans (World.drewN_drewN _ _ _) (congrArg (World.drewN _) (Nat.add_assoc _ _ _))⟩))); try go_wp2_with (first | (go_at_call 37; (with_reducible refine (laws_eqIntS.calls k1 _ _ (rd_Lsi64 l0 x5_1) _ _ (rd_Lsi64 l1 x5_1) true _ ?side1 ?side2 ?side3 ?side4 A7.out).mono ?_); (case side1 => repeat (first | exact HR938_0.out | (with_reducible refine Kd.C_alloc ?_ _) | (with_reducible refine Kd.C_drewN ?_ _) | (with_reducible refine Kd.C_drew ?_))); (case side2 => exact HC938_0.out); (case side3 => repeat (first | exact HR939_0.out | (with_reducible refine Kd.C_alloc ?_ _) | (with_reducible refine Kd.C_drewN ?_ _) | (with_reducible refine Kd.C_drew ?_))); (case side4 => exact HC939_0.out); rintro e w' ⟨rfl, ⟨nd, rfl⟩⟩; (try first | exact ⟨rfl, _, World.drewN_drewN _ _ _⟩ | exact ⟨rfl, _, Eq.trans (World.drewN_drewN _ _ _) (congrArg (World.drewN _) (Nat.add_assoc _ _ _))⟩))))
                go_roundg k1
                case measure => have := HK1.out; omega
                case rel => exact ⟨(wrap64 (x5_1 + 1)), (by first | rfl | (simp; done) | (simp [*]; done)), H', ⟨by have := HK1.out; omega⟩, by repeat (first | exact Drawn0.refl _ | apply Drawn0.step)⟩
              · replace c8 := Bool.eq_false_iff.mpr c8
                subst c8
                have H1 : (some false) = some r := by rw [if_neg (show ¬ (false = true) by decide)] at H; exact H
                clear H
                have H := H1
                clear H1
                obtain rfl := Option.some.inj H
                have p938 : 0 ≤ (x5_1 : Int) := of_decide_eq_true (by first | (with_reducible assumption) | assumption)
                have q938 : x5_1 < (l0.length : Int) := of_decide_eq_true (by first | (with_reducible assumption) | assumption)
                obtain ⟨ad938, A938_0, c938_0, e938, hx938_0, hl938_0, hi938_0⟩ := at_Lsi64 HR0.out x5_1 p938 q938
                cases e938
                have HR938_0 := Aside0.mk hi938_0
                have HC938_0 := Aside0.mk hl938_0
                clear hi938_0 hl938_0
                replace p938 := eq_true p938
                replace q938 := eq_true q938
                have p939 : 0 ≤ (x5_1 : Int) := of_decide_eq_true (by first | (with_reducible assumption) | assumption)
                have q939 : x5_1 < (l1.length : Int) := of_decide_eq_true (by first | (with_reducible assumption) | assumption)
                obtain ⟨ad939, A939_0, c939_0, e939, hx939_0, hl939_0, hi939_0⟩ := at_Lsi64 HR1.out x5_1 p939 q939
                cases e939
                have HR939_0 := Aside0.mk hi939_0
                have HC939_0 := Aside0.mk hl939_0
                clear hi939_0 hl939_0
                replace p939 := eq_true p939
                replace q939 := eq_true q939
                go_wp2_with (first | (go_at_call 37; (with_reducible refine (laws_eqIntS.calls k1 _ _ (rd_Lsi64 l0 x5_1) _ _ (rd_Lsi64 l1 x5_1) false _ ?side1 ?side2 ?side3 ?side4 A7.out).mono ?_); (case side1 => repeat (first | exact HR938_0.out | (with_reducible refine Kd.C_alloc ?_ _) | (with_reducible refine Kd.C_drewN ?_ _) | (with_reducible refine Kd.C_drew ?_))); (case side2 => exact HC938_0.out); (case side3 => repeat (first | exact HR939_0.out | (with_reducible refine Kd.C_alloc ?_ _) | (with_reducible refine Kd.C_drewN ?_ _) | (with_reducible refine Kd.C_drew ?_))); (case side4 => exact HC939_0.out); rintro e w' ⟨rfl, ⟨nd, rfl⟩⟩; (try first | exact ⟨rfl, _, World.drewN_drewN _ _ _⟩ | exact ⟨rfl, _, Eq.trans (World.drewN_drewN _ _ _) (congrArg (World.drewN _) (Nat.add_assoc _ _ _))⟩)))
                repeat (go_quiet (first | (go_at_call 37; (with_reducible refine (laws_eqIntS.calls k1 _ _ (rd_Lsi64 l0 x5_1) _ _ (rd_Lsi64 l1 x5_1) false _ ?side1 ?side2 ?side3 ?side4 A7.out).mono ?_); (case side1 => repeat (first | exact HR938_0.out | (with_reducible refine Kd.C_alloc ?_ _) | (with_reducible refine Kd.C_drewN ?_ _) | (with_reducible refine Kd.C_drew ?_))); (case side2 => exact HC938_0.out); (case side3 => repeat (first | exact HR939_0.out | (with_reducible refine Kd.C_alloc ?_ _) | (with_reducible refine Kd.C_drewN ?_ _) | (with_reducible refine Kd.C_drew ?_))); (case side4 => exact HC939_0.out); rintro e w' ⟨rfl, ⟨nd, rfl⟩⟩; (try first | exact ⟨rfl, _, World.drewN_drewN _ _ _⟩ | exact ⟨rfl, _, Eq.trans (World.drewN_drewN _ _ _) (congrArg (World.drewN _) (Nat.add_assoc _ _ _))⟩))); try go_wp2_with (first | (go_at_call 37; (with_reducible refine (laws_eqIntS.calls k1 _ _ (rd_Lsi64 l0 x5_1) _ _ (rd_Lsi64 l1 x5_1) false _ ?side1 ?side2 ?side3 ?side4 A7.out).mono ?_); (case side1 => repeat (first | exact HR938_0.out | (with_reducible refine Kd.C_alloc ?_ _) | (with_reducible refine Kd.C_drewN ?_ _) | (with_reducible refine Kd.C_drew ?_))); (case side2 => exact HC938_0.out); (case side3 => repeat (first | exact HR939_0.out | (with_reducible refine Kd.C_alloc ?_ _) | (with_reducible refine Kd.C_drewN ?_ _) | (with_reducible refine Kd.C_drew ?_))); (case side4 => exact HC939_0.out); rintro e w' ⟨rfl, ⟨nd, rfl⟩⟩; (try first | exact ⟨rfl, _, World.drewN_drewN _ _ _⟩ | exact ⟨rfl, _, Eq.trans (World.drewN_drewN _ _ _) (congrArg (World.drewN _) (Nat.add_assoc _ _ _))⟩))))
                go_ret
                exact ⟨by first | rfl | (simp; done) | (simp [*]; done), by repeat (first | exact Drawn0.refl _ | apply Drawn0.step)⟩
            · rw [if_neg c6] at H
              exact absurd H (by simp)
          · rw [if_neg c5] at H
            exact absurd H (by simp)
        · rw [if_neg c4] at H
          have c4b0 : decide (x5_1 < (l0.length : Int)) = false := decide_eq_false c4
          clear c4
          obtain rfl := Option.some.inj H
          go_wp2
          repeat (go_quiet (fail); try go_wp2)
          go_ret
          exact ⟨by first | rfl | (simp; done) | (simp [*]; done), by repeat (first | exact Drawn0.refl _ | apply Drawn0.step)⟩
  · rw [if_neg c3] at H
    have c3b0 : ((l0.length : Int) == (l1.length : Int)) = false := beq_eq_false_iff_ne.mpr c3
    have c3b1 : ((l0.length : Int) != (l1.length : Int)) = true := bne_iff_ne.mpr c3
    have c3b2 : (l0.length == l1.length) = false := by first | simpa using c3 | (simp at c3 ⊢; omega)
    obtain rfl := Option.some.inj H
    go_enter Try.func49, Try.ntmps49
    go_wp2
    repeat (go_quiet (fail); try go_wp2)
    go_ret
    exact ⟨by first | rfl | (simp; done) | (simp [*]; done), by repeat (first | exact Drawn0.refl _ | apply Drawn0.step)⟩

end Go.Proofs.Ytpbboooeahmgpaa.P


/- Marks of a row of rows of numbers: each inner row is written in place; what holds of them. -/
namespace Go.Proofs.Ytpbboooeahmgpaa.P
open Go.RowKit Go.Proofs.YtpbboooeahmgpaaW.PrintWords Go.Proofs.YtpbboooeahmgpaaW.PrintLast Go.Proofs.YtpbboooeahmgpaaW.PrintMore Go.Proofs.YtpbboooeahmgpaaW.Mine
set_option linter.unusedVariables false
set_option linter.unusedSimpArgs false
def mkI (a : Int) (x : List Int) : List Int := marksG (fun k => k) 1 a x.length
def marksII : Int → List (List Int) → List (List Int)
  | _, [] => []
  | k, x :: xs => mkI k x :: marksII (k + x.length) xs
theorem marksII_length (xs : List (List Int)) : ∀ k, (marksII k xs).length = xs.length := by
  induction xs with
  | nil => intro k; rfl
  | cons x xs ih => intro k; simp [marksII, ih]
/-- The rows when the first i are marked. -/
def curII (a : Int) (l : List (List Int)) (i : Nat) : List (List Int) := marksII a (l.take i) ++ l.drop i
theorem marksII_append (xs ys : List (List Int)) : ∀ a, marksII a (xs ++ ys) = marksII a xs ++ marksII (a + sizeBB xs) ys := by
  induction xs with
  | nil => intro a; simp [marksII, sizeBB]
  | cons x xs ih =>
    intro a
    simp only [List.cons_append, marksII, sizeBB, ih]
    rw [show a + ((x.length + sizeBB xs : Nat) : Int) = a + x.length + sizeBB xs from by omega]
theorem curII_length (a : Int) (l : List (List Int)) (i : Nat) : (curII a l i).length = l.length := by
  simp [curII, marksII_length]
  omega
theorem curII_get (a : Int) (l : List (List Int)) (i : Nat) (h : i < l.length) : (curII a l i).getD i [] = l.getD i [] := by
  have h1 : (marksII a (l.take i)).length = i := by simp [marksII_length]; omega
  simp [curII, List.getD_eq_getElem?_getD, List.getElem?_append_right, h1]
theorem curII_set (a : Int) (l : List (List Int)) (i : Nat) (h : i < l.length) : (curII a l i).set i (mkI (a + sizeBB (l.take i)) (l.getD i [])) = curII a l (i + 1) := by
  have h1 : (marksII a (l.take i)).length = i := by simp [marksII_length]; omega
  unfold curII
  rw [List.take_succ_eq_append_getElem h, marksII_append, List.drop_eq_getElem_cons h]
  have := set_mid (marksII a (l.take i)) l[i] (mkI (a + sizeBB (l.take i)) (l.getD i [])) (l.drop (i + 1))
  rw [h1] at this
  rw [this]
  simp [marksII, h]
theorem curII_zero (a : Int) (l : List (List Int)) : curII a l 0 = l := by simp [curII, marksII]
theorem curII_all (a : Int) (l : List (List Int)) : curII a l l.length = marksII a l := by simp [curII]
set_option maxHeartbeats 1600000 in
set_option maxRecDepth 100000 in
theorem markIntSS_c (P_ : Nat → Prop) (u : Value) (l : List (List Int)) (a : Int) (w0 w : World) (hB : Below w0.heap.size w0 w) (ho : Kd.S (Kd.slice 3 (Kd.int .i64)) 66 w w0.heap.size P_ u l)
    (ha0 : 0 ≤ a) (ha : a + sizeBB l ≤ 4611686018427387904) (hl : l.length ≤ 4611686018427387904) :
    Calls Try.prog 50 #[u, .int .i64 a] w fun e w' => e = .returned (.int .i64 (a + sizeBB l)) ∧ Kd.S (Kd.slice 3 (Kd.int .i64)) 66 w' w0.heap.size P_ u (marksII a l) ∧ Below w0.heap.size w0 w' ∧ Kept w w' P_ := by
  obtain ⟨A, c, rfl⟩ := Kd.S_slice ho
  have HO := Aside0.mk ho
  have HB := Aside0.mk hB
  have HL := Aside0.mk hl
  have HA := Aside0.mk ha
  clear ho hB
  go_enter Try.func50, Try.ntmps50
  go_wp2
  go_loopw [1, 5] (fun v1 v5 wr => ∃ i : Nat, i ≤ l.length ∧ v5 = .int .i64 (i : Int) ∧ v1 = .int .i64 (a + sizeBB (l.take i)) ∧ Aside0 (Kd.S (Kd.slice 3 (Kd.int .i64)) 66 wr w0.heap.size P_ (.slice A l.length c) (curII a l i)) ∧ Aside0 (Below w0.heap.size w0 wr) ∧ Aside0 (Kept w wr P_)) (fun _ v5 _ => l.length - (intOf v5).toNat)
  case atStart => exact ⟨0, Nat.zero_le _, rfl, by simp [sizeBB], ⟨by rw [curII_zero]; exact HO.out⟩, HB, ⟨Kept.refl _ _⟩⟩
  case round =>
    clear HO HB
    obtain ⟨i, hi, rfl, rfl, HO, HB, HK⟩ := hrel
    by_cases hlt : i < l.length
    · obtain ⟨g, cap, hv, hb1, hb2, hb3⟩ := Kd.S_form HO.out (by rw [curII_length]; omega)
      injection hv with hv1 hv2 hv3
      subst hv1
      subst hv3
      clear hb1 hb2 hb3 hv2
      have HT := Aside0.mk (sizeBB_take_le l i)
      have HT2 := Aside0.mk (sizeBB_take_le l (i + 1))
      have HT3 := Aside0.mk (sizeBB_take_succ l i hlt)
      have HT4 := Aside0.mk (show (l.getD i []).length = (l[i]'hlt).length from by simp [hlt])
      obtain ⟨v, hcell, hR, hok, hback⟩ := S_inner rfl HO.out (i : Int) (by omega) (by omega)
      rw [Int.toNat_natCast, curII_get a l i hlt] at hR
      rw [Int.toNat_natCast] at hcell
      have HR := Aside0.mk hR
      have HOK := Aside0.mk hok
      have HBK := Aside0.mk (@hback)
      clear hR hok hback
      have hlt' : (i : Int) < (l.length : Int) := by omega
      have hi0 : (0 : Int) ≤ (i : Int) := by omega
      have hk : laws_markIntS.f (l.getD i []) (a + sizeBB (l.take i)) = some (a + sizeBB (l.take i) + (l.getD i []).length, mkI (a + sizeBB (l.take i)) (l.getD i [])) := by
        have h_ := markI (l.getD i []) (a + sizeBB (l.take i)) (by omega) (by have := HA.out; have := HT.out; have := HT2.out; have := HT3.out; omega)
        rw [Int.one_mul] at h_
        exact h_
      have HC := Aside0.mk (laws_markIntS.calls _ _ _ _ _ _ w0 wr HB.out HR.out hk)
      clear hk
      go_wp2_with (go_at_call 40; refine HC.out.mono ?_; rintro e w1 ⟨rfl, hR1, hB1, hK1⟩)
      have HR1 := Aside0.mk hR1
      have HB1 := Aside0.mk hB1
      have HK1 := Aside0.mk hK1
      clear hR1 hB1 hK1 hcell
      go_roundw
      case rel => exact ⟨i + 1, by omega, by go_num, congrArg (Value.int .i64) (by have := HT3.out; have := HT4.out; omega), ⟨by
          have h3 := HBK.out (w1 := w1) (HK1.out.mono (fun k hk => hk.symm)) HR1.out
          rw [Int.toNat_natCast, curII_set a l i hlt] at h3
          exact h3⟩, HB1, ⟨HK.out.then_ HK1.out (fun k hk => .inl (HOK.out k hk.symm).1)⟩⟩
      case measure => simp [intOf]; omega
    · obtain rfl : i = l.length := by omega
      go_wp2
      go_ret
      exact ⟨by rw [List.take_length]; rfl, by rw [← curII_all]; exact HO.out, HB.out, HK.out⟩
/-- As the printer wants it. -/
def laws_markIntSS.f (l : List (List Int)) (a : Int) : Option (Int × List (List Int)) := if 0 ≤ a ∧ a + sizeBB l ≤ 4611686018427387904 ∧ l.length ≤ 4611686018427387904 then some (a + sizeBB l, marksII a l) else none
theorem laws_markIntSS.calls (P_ : Nat → Prop) (u : Value) (l : List (List Int)) (a : Int) (r1 : Int) (r2 : List (List Int)) (w0 w : World) (hB : Below w0.heap.size w0 w) (ho : Kd.S (Kd.slice 3 (Kd.int .i64)) 66 w w0.heap.size P_ u l) (h : laws_markIntSS.f l a = some (r1, r2)) :
    Calls Try.prog 50 #[u, .int .i64 a] w fun e w' => e = .returned (.int .i64 r1) ∧ Kd.S (Kd.slice 3 (Kd.int .i64)) 66 w' w0.heap.size P_ u r2 ∧ Below w0.heap.size w0 w' ∧ Kept w w' P_ := by
  unfold laws_markIntSS.f at h
  split at h
  next hh =>
    obtain ⟨rfl, rfl⟩ : a + sizeBB l = r1 ∧ marksII a l = r2 := by simpa using h
    exact markIntSS_c P_ u l a w0 w hB ho hh.1 hh.2.1 hh.2.2
  next => cases h
theorem rdI_mid (pre : List (List Int)) (x : List Int) (suf : List (List Int)) : rd_Lsi64 (pre ++ x :: suf) (pre.length : Int) = x := by
  unfold rd_Lsi64
  simp
theorem heldIntSS_ev (suf : List (List Int)) : ∀ (pre : List (List Int)) (a : Int), 0 ≤ a → a + sizeBB suf ≤ 4611686018427387904 → pre.length + suf.length ≤ 4611686018427387904 →
    Ev (fun k => laws_heldIntSS.l0 k (pre ++ marksII a suf) a (pre.length : Int)) (a + sizeBB suf) := by
  induction suf with
  | nil =>
    intro pre a h0 h1 h2
    refine Ev.step (fun k => ?_) (Ev.now _)
    simp [laws_heldIntSS.l0, marksII, sizeBB]
  | cons x suf ih =>
    intro pre a h0 h1 h2
    simp only [List.length_cons, sizeBB] at h1 h2
    rw [show marksII a (x :: suf) = mkI a x :: marksII (a + x.length) suf from rfl]
    refine Ev.step (f := fun k => (laws_heldIntS.f k (mkI a x) a).bind fun t => if t < 0 then some (-1) else laws_heldIntSS.l0 k ((pre ++ [mkI a x]) ++ marksII (a + x.length) suf) t ((pre ++ [mkI a x]).length : Int)) (fun k => ?_) ?_
    · simp only [laws_heldIntSS.l0]
      rw [if_pos (by simp; omega), if_pos (by omega), rdI_mid, wrap_len (by omega)]
      simp
    · refine Ev.bind (heldIntS_f x.length a h0 (by omega)) ?_
      simp only [if_neg (show ¬ a + 1 * (x.length : Int) < 0 by omega)]
      have := ih (pre ++ [mkI a x]) (a + x.length) (by omega) (by omega) (by simp; omega)
      simp only [sizeBB]
      rw [show a + ((x.length + sizeBB suf : Nat) : Int) = a + x.length + (sizeBB suf : Int) from by omega, Int.one_mul]
      exact this
theorem heldIntSS_f (l : List (List Int)) (a : Int) (h0 : 0 ≤ a) (h1 : a + sizeBB l ≤ 4611686018427387904) (h2 : l.length ≤ 4611686018427387904) : Ev (fun k => laws_heldIntSS.f k (marksII a l) a) (a + sizeBB l) := by
  have := heldIntSS_ev l [] a h0 h1 (by simp; omega)
  simpa [laws_heldIntSS.f] using this
theorem eqIntSS_ev (suf : List (List Int)) : ∀ (pre : List (List Int)), pre.length + suf.length ≤ 9223372036854775807 → (∀ x ∈ suf, x.length ≤ 9223372036854775807) → Ev (fun k => laws_eqIntSS.l0 k (pre ++ suf) (pre ++ suf) (pre.length : Int)) true := by
  induction suf with
  | nil =>
    intro pre h2 h3
    refine Ev.step (fun k => ?_) (Ev.now _)
    simp [laws_eqIntSS.l0]
  | cons x suf ih =>
    intro pre h2 h3
    simp only [List.length_cons] at h2
    refine Ev.step (f := fun k => (laws_eqIntS.f k x x).bind fun t => if t = true then laws_eqIntSS.l0 k ((pre ++ [x]) ++ suf) ((pre ++ [x]) ++ suf) ((pre ++ [x]).length : Int) else some false) (fun k => ?_) ?_
    · simp only [laws_eqIntSS.l0]
      rw [if_pos (by simp; omega), if_pos (by omega), if_pos (by simp; omega), rdI_mid, wrap_len (by omega)]
      simp
    · refine Ev.bind (eqIntS_f x (h3 x (by simp))) ?_
      simp only [if_true]
      exact ih (pre ++ [x]) (by simp; omega) (fun y hy => h3 y (by simp [hy]))
theorem eqIntSS_f (l : List (List Int)) (h : l.length ≤ 9223372036854775807) (h3 : ∀ x ∈ l, x.length ≤ 9223372036854775807) : Ev (fun k => laws_eqIntSS.f k l l) true := by
  refine Ev.congr (fun k => ?_) (eqIntSS_ev l [] (by simpa using h) h3)
  unfold laws_eqIntSS.f
  rw [if_pos rfl]
  rfl
end Go.Proofs.Ytpbboooeahmgpaa.P


namespace Go.Proofs.Ytpbboooeahmgpaa.P
open Go.RowKit Go.Proofs.YtpbboooeahmgpaaW.PrintWords Go.Proofs.YtpbboooeahmgpaaW.PrintLast Go.Proofs.YtpbboooeahmgpaaW.PrintMore
attribute [local go_sem] max2_int min2_int max_two min_two max_three min_three max_four min_four   -- for this text's walks alone
set_option linter.unusedVariables false
set_option linter.unusedSimpArgs false

/-! ### impl_Window_sees: function 101 -/
def impl_Window_sees.f (a0_0 : Int) (a0_1 : Int) (a0_2 : Int) (a0_3 : Int) (a1 : Int) (a2 : Int) : Option (Bool) := if a0_0 = a1 then ((impl_within.f a2 a0_1 (wrap64 ((wrap64 (a0_1 + a0_2)) - 1))).bind fun t917 => (some t917)) else (some false)
set_option maxHeartbeats 8000000 in
set_option maxRecDepth 100000 in
theorem impl_Window_sees.calls (a0_0 : Int) (a0_1 : Int) (a0_2 : Int) (a0_3 : Int) (a1 : Int) (a2 : Int) (r : Bool) (w : World) (h : impl_Window_sees.f a0_0 a0_1 a0_2 a0_3 a1 a2 = some r) :
    Calls Try.prog 101 #[.agg #[.int .i64 a0_0, .int .i64 a0_1, .int .i64 a0_2, .int .i64 a0_3], .int .i64 a1, .int .i64 a2] w fun e w' => e = .returned (.bool r) ∧ Below w.heap.size w w' := by
  have hu28 := Try.underlying28
  have HB := Aside0.mk (Below.refl w.heap.size w)
  have H : (if a0_0 = a1 then ((impl_within.f a2 a0_1 (wrap64 ((wrap64 (a0_1 + a0_2)) - 1))).bind fun t917 => (some t917)) else (some false)) = some r := h
  clear h
  by_cases c4 : a0_0 = a1
  · rw [if_pos c4] at H
    have c4b0 : (a0_0 == a1) = true := beq_iff_eq.mpr c4
    have c4b1 : (a0_0 != a1) = false := bne_eq_false_iff_eq.mpr c4
    clear c4
    replace H := Option.bind_eq_some_iff.mp H
    obtain ⟨t917, A50, H⟩ := H
    replace H : (some t917) = some r := H
    have A5 := Aside0.mk A50
    clear A50
    obtain rfl := Option.some.inj H
    go_enter Try.func101, Try.ntmps101
    go_wp2_with (first | ((with_reducible refine gate_dst (N := 3) rfl ?_); refine box_event ?hg (N := 3) ?hd (cs := #[.int .i64 a0_0, .int .i64 a0_1, .int .i64 a0_2, .int .i64 a0_3]) (t := 28) ?hr ?_; (case hd => rfl); (case hg => rfl); (case hr => first | (go_simp; done) | (go_simp; rfl)); intro gb916 hg w6 hbox hb; have n0_ := Aside0.mk (below_step (by repeat (first | (with_reducible first | exact HB.out | apply below_alloc | apply pw_below_drewN | apply below_drew1) | exact HB.out)) hb); have n1_ := Aside0.mk (hbox); have n2_ := Aside0.mk ((by rw [hg]; exact (below_size (by repeat (first | (with_reducible first | exact HB.out | apply below_alloc | apply pw_below_drewN | apply below_drew1) | exact HB.out))) : w.heap.size ≤ gb916)); have n3_ := Aside0.mk ((by rw [hg]; exact (below_size (by repeat (first | (with_reducible first | exact HB.out | apply below_alloc | apply pw_below_drewN | apply below_drew1) | exact HB.out))) : w.heap.size ≤ gb916)); clear HB; have HB := n0_; have BK916 := n1_; have GW916 := n2_; have GE916 := n3_; clear n0_ n1_ n2_ n3_; clear hb hbox hg; have hcz7_0 : w6.cell? ⟨gb916, 0, none⟩ = some (.int .i64 a0_0) := (blk_cell BK916.out 0).trans rfl; have hcz7_1 : w6.cell? ⟨gb916, 1, none⟩ = some (.int .i64 a0_1) := (blk_cell BK916.out 1).trans rfl; have hcz7_2 : w6.cell? ⟨gb916, 2, none⟩ = some (.int .i64 a0_2) := (blk_cell BK916.out 2).trans rfl; have hcz7_3 : w6.cell? ⟨gb916, 3, none⟩ = some (.int .i64 a0_3) := (blk_cell BK916.out 3).trans rfl; have hfz7_0 := blk_frozen BK916.out 0; have hfz7_1 := blk_frozen BK916.out 1; have hfz7_2 := blk_frozen BK916.out 2; have hfz7_3 := blk_frozen BK916.out 3) | (go_at_call 68; (with_reducible refine (impl_within.calls a2 a0_1 (wrap64 ((wrap64 (a0_1 + a0_2)) - 1)) t917 _ A5.out).mono ?_); rintro e w' ⟨rfl, ⟨nd, rfl⟩⟩))
    go_ret
    exact ⟨by first | rfl | (simp [errW_none, errW_some] <;> rfl) | (simp [*, errW_none, errW_some] <;> rfl), by repeat (first | (with_reducible first | exact HB.out | apply below_alloc | apply pw_below_drewN | apply below_drew1 | refine below_set ?_ GE916.out) | exact HB.out)⟩
  · rw [if_neg c4] at H
    have c4b0 : (a0_0 == a1) = false := beq_eq_false_iff_ne.mpr c4
    have c4b1 : (a0_0 != a1) = true := bne_iff_ne.mpr c4
    obtain rfl := Option.some.inj H
    go_enter Try.func101, Try.ntmps101
    go_wp2_with (first | ((with_reducible refine gate_dst (N := 3) rfl ?_); refine box_event ?hg (N := 3) ?hd (cs := #[.int .i64 a0_0, .int .i64 a0_1, .int .i64 a0_2, .int .i64 a0_3]) (t := 28) ?hr ?_; (case hd => rfl); (case hg => rfl); (case hr => first | (go_simp; done) | (go_simp; rfl)); intro gb916 hg w8 hbox hb; have n0_ := Aside0.mk (below_step (by repeat (first | (with_reducible first | exact HB.out | apply below_alloc | apply pw_below_drewN | apply below_drew1) | exact HB.out)) hb); have n1_ := Aside0.mk (hbox); have n2_ := Aside0.mk ((by rw [hg]; exact (below_size (by repeat (first | (with_reducible first | exact HB.out | apply below_alloc | apply pw_below_drewN | apply below_drew1) | exact HB.out))) : w.heap.size ≤ gb916)); have n3_ := Aside0.mk ((by rw [hg]; exact (below_size (by repeat (first | (with_reducible first | exact HB.out | apply below_alloc | apply pw_below_drewN | apply below_drew1) | exact HB.out))) : w.heap.size ≤ gb916)); clear HB; have HB := n0_; have BK916 := n1_; have GW916 := n2_; have GE916 := n3_; clear n0_ n1_ n2_ n3_; clear hb hbox hg; have hcz9_0 : w8.cell? ⟨gb916, 0, none⟩ = some (.int .i64 a0_0) := (blk_cell BK916.out 0).trans rfl; have hcz9_1 : w8.cell? ⟨gb916, 1, none⟩ = some (.int .i64 a0_1) := (blk_cell BK916.out 1).trans rfl; have hcz9_2 : w8.cell? ⟨gb916, 2, none⟩ = some (.int .i64 a0_2) := (blk_cell BK916.out 2).trans rfl; have hcz9_3 : w8.cell? ⟨gb916, 3, none⟩ = some (.int .i64 a0_3) := (blk_cell BK916.out 3).trans rfl; have hfz9_0 := blk_frozen BK916.out 0; have hfz9_1 := blk_frozen BK916.out 1; have hfz9_2 := blk_frozen BK916.out 2; have hfz9_3 := blk_frozen BK916.out 3))
    go_ret
    exact ⟨by first | rfl | (simp [errW_none, errW_some] <;> rfl) | (simp [*, errW_none, errW_some] <;> rfl), by repeat (first | (with_reducible first | exact HB.out | apply below_alloc | apply pw_below_drewN | apply below_drew1 | refine below_set ?_ GE916.out) | exact HB.out)⟩

end Go.Proofs.Ytpbboooeahmgpaa.P


namespace Go.Proofs.Ytpbboooeahmgpaa.P
open Go.RowKit Go.Proofs.YtpbboooeahmgpaaW.PrintWords Go.Proofs.YtpbboooeahmgpaaW.PrintLast Go.Proofs.YtpbboooeahmgpaaW.PrintMore
attribute [local go_sem] max2_int min2_int max_two min_two max_three min_three max_four min_four   -- for this text's walks alone
set_option linter.unusedVariables false
set_option linter.unusedSimpArgs false

/-! ### impl_LendersOf: function 48 -/
mutual
def impl_LendersOf.j0 : Nat → List (SimplLoan) → Int → Bool → List (List Int) → Option ((List (List Int)) × Bool)
  | 0, _, _, _, _ => none
  | k + 1, x1, x2, x25, x919000 => if x25 = true then (some (([] : List (List Int)), false)) else (impl_LendersOf.l0 k x1 x2 (([] : List (List Int))) x919000 (x919000.length : Int) 0)
def impl_LendersOf.l0 : Nat → List (SimplLoan) → Int → List (List Int) → List (List Int) → Int → Int → Option ((List (List Int)) × Bool)
  | 0, _, _, _, _, _, _ => none
  | k + 1, x1, x2, x8, x28, x29, x30 => if x30 < x29 then (if 0 ≤ x30 then (if x30 < (x28.length : Int) then (impl_LendersOf.l1 k x1 x2 x8 x30 (([] : List Int)) x28 x29 x30 ((rd_Lsu8 x28 x30).length : Int) 0) else (none)) else (none)) else (some (x8, true))
def impl_LendersOf.l1 : Nat → List (SimplLoan) → Int → List (List Int) → Int → List Int → List (List Int) → Int → Int → Int → Int → Option ((List (List Int)) × Bool)
  | 0, _, _, _, _, _, _, _, _, _, _ => none
  | k + 1, x1, x2, x8, x9, x11, x28, x29, x30, x37, x38 => if x38 < x37 then (impl_LendersOf.l2 k x1 x2 x8 x9 x11 x38 0 1 x28 x29 x30 x37 x38 x1 (x1.length : Int) 0) else (if x8.length < 5864062014805 then (impl_LendersOf.l0 k x1 x2 (x8 ++ [x11]) x28 x29 (wrap64 (x30 + 1))) else (none))
def impl_LendersOf.l2 : Nat → List (SimplLoan) → Int → List (List Int) → Int → List Int → Int → Int → Int → List (List Int) → Int → Int → Int → Int → List (SimplLoan) → Int → Int → Option ((List (List Int)) × Bool)
  | 0, _, _, _, _, _, _, _, _, _, _, _, _, _, _, _, _ => none
  | k + 1, x1, x2, x8, x9, x11, x12, x13, x14, x28, x29, x30, x37, x38, x41, x42, x43 => if x43 < x42 then (if 0 ≤ x43 then (if x43 < (x41.length : Int) then ((impl_Loan_held.f ((rd_TimplLoan x41 x43).f0.f0) ((rd_TimplLoan x41 x43).f0.f1) ((rd_TimplLoan x41 x43).f0.f2) ((rd_TimplLoan x41 x43).f0.f3) ((rd_TimplLoan x41 x43).f1) ((rd_TimplLoan x41 x43).f2) ((rd_TimplLoan x41 x43).f3) x2).bind fun t936 => (if t936 = true then ((impl_Window_sees.f ((rd_TimplLoan x41 x43).f0.f0) ((rd_TimplLoan x41 x43).f0.f1) ((rd_TimplLoan x41 x43).f0.f2) ((rd_TimplLoan x41 x43).f0.f3) x9 x12).bind fun t937 => (impl_LendersOf.j4 k x1 x2 x8 x9 x11 x12 x13 x14 x28 x29 x30 x37 x38 x41 x42 x43 (!t937) ((rd_TimplLoan x41 x43).f0.f0) ((rd_TimplLoan x41 x43).f0.f1) ((rd_TimplLoan x41 x43).f0.f2) ((rd_TimplLoan x41 x43).f0.f3) ((rd_TimplLoan x41 x43).f1) ((rd_TimplLoan x41 x43).f2) ((rd_TimplLoan x41 x43).f3))) else (impl_LendersOf.j4 k x1 x2 x8 x9 x11 x12 x13 x14 x28 x29 x30 x37 x38 x41 x42 x43 true ((rd_TimplLoan x41 x43).f0.f0) ((rd_TimplLoan x41 x43).f0.f1) ((rd_TimplLoan x41 x43).f0.f2) ((rd_TimplLoan x41 x43).f0.f3) ((rd_TimplLoan x41 x43).f1) ((rd_TimplLoan x41 x43).f2) ((rd_TimplLoan x41 x43).f3)))) else (none)) else (none)) else (if x11.length < 17592186044416 then (impl_LendersOf.l1 k x1 x2 x8 x9 (x11 ++ [wrap64 (x13 * x14)]) x28 x29 x30 x37 (wrap64 (x38 + 1))) else (none))
def impl_LendersOf.j4 : Nat → List (SimplLoan) → Int → List (List Int) → Int → List Int → Int → Int → Int → List (List Int) → Int → Int → Int → Int → List (SimplLoan) → Int → Int → Bool → Int → Int → Int → Int → Bool → Int → Int → Option ((List (List Int)) × Bool)
  | 0, _, _, _, _, _, _, _, _, _, _, _, _, _, _, _, _, _, _, _, _, _, _, _, _ => none
  | k + 1, x1, x2, x8, x9, x11, x12, x13, x14, x28, x29, x30, x37, x38, x41, x42, x43, x58, x936000, x936001, x936002, x936003, x936004, x936005, x936006 => if x58 = true then (impl_LendersOf.l2 k x1 x2 x8 x9 x11 x12 x13 x14 x28 x29 x30 x37 x38 x41 x42 (wrap64 (x43 + 1))) else (if x936004 = true then (impl_LendersOf.l2 k x1 x2 x8 x9 x11 x12 (wrap64 (x13 + 1)) (-1) x28 x29 x30 x37 x38 x41 x42 (wrap64 (x43 + 1))) else (impl_LendersOf.l2 k x1 x2 x8 x9 x11 x12 (wrap64 (x13 + 1)) x14 x28 x29 x30 x37 x38 x41 x42 (wrap64 (x43 + 1))))
end
def impl_LendersOf.f (k : Nat) (l0_0 : List (List Int)) (l1 : List (SimplLoan)) (a2 : Int) : Option ((List (List Int)) × Bool) := (impl_areLoans.f l0_0 l1).bind fun t919 => (if t919 = true then ((impl_isTime.f a2).bind fun t920 => (impl_LendersOf.j0 k l1 a2 (!t920) l0_0)) else (impl_LendersOf.j0 k l1 a2 true l0_0))
set_option maxHeartbeats 8000000 in
set_option maxRecDepth 100000 in
theorem impl_LendersOf.calls (k : Nat) (A0_0 : Option Addr) (c0_0 : Nat) (l0_0 : List (List Int)) (A1 : Option Addr) (c1 : Nat) (l1 : List (SimplLoan)) (a2 : Int) (r1 : List (List Int)) (r2 : Bool) (w : World) (hr0_0 : Kd.C (Kd.slice 5 (Kd.int .u8)) w A0_0 l0_0.length l0_0) (hc0_0 : l0_0.length ≤ c0_0) (hr1 : Kd.C kimplLoan w A1 l1.length l1) (hc1 : l1.length ≤ c1) (h : impl_LendersOf.f k l0_0 l1 a2 = some (r1, r2)) :
    Calls Try.prog 48 #[.agg #[.slice A0_0 l0_0.length c0_0], .slice A1 l1.length c1, .int .i64 a2] w fun e w' => ∃ v0_ : Value, e = .returned (.tuple #[v0_, .bool r2]) ∧ Kd.S (Kd.slice 3 (Kd.int .i64)) 66 w' w.heap.size (fun _ => True) v0_ r1 ∧ Below w.heap.size w w' := by
  have hu26 := Try.underlying26
  have hu30 := Try.underlying30
  have hu28 := Try.underlying28
  have HR0_0 := Aside0.mk hr0_0
  have HC0_0 := Aside0.mk hc0_0
  clear hr0_0 hc0_0
  have HR1 := Aside0.mk hr1
  have HC1 := Aside0.mk hc1
  clear hr1 hc1
  have HB := Aside0.mk (Below.refl w.heap.size w)
  have H : ((impl_areLoans.f l0_0 l1).bind fun t919 => (if t919 = true then ((impl_isTime.f a2).bind fun t920 => (impl_LendersOf.j0 k l1 a2 (!t920) l0_0)) else (impl_LendersOf.j0 k l1 a2 true l0_0))) = some (r1, r2) := h
  clear h
  have HC4 := Aside0.mk H
  clear H
  go_enter Try.func48, Try.ntmps48
  go_upto_region 1 with (first | ((with_reducible refine gate_dst (N := 3) rfl ?_); refine box_event ?hg (N := 3) ?hd (cs := #[.slice A0_0 l0_0.length c0_0]) (t := 26) ?hr ?_; (case hd => rfl); (case hg => rfl); (case hr => first | (go_simp; done) | (go_simp; rfl)); intro gb918 hg w5 hbox hb; have n0_ := Aside0.mk (below_step (by repeat (first | (with_reducible first | exact HB.out | apply below_alloc | apply pw_below_drewN | apply below_drew1) | exact HB.out)) hb); have n1_ := Aside0.mk (hbox); have n2_ := Aside0.mk ((by rw [hg]; exact (below_size (by repeat (first | (with_reducible first | exact HB.out | apply below_alloc | apply pw_below_drewN | apply below_drew1) | exact HB.out))) : w.heap.size ≤ gb918)); have n3_ := Aside0.mk ((by rw [hg]; exact (below_size (by repeat (first | (with_reducible first | exact HB.out | apply below_alloc | apply pw_below_drewN | apply below_drew1) | exact HB.out))) : w.heap.size ≤ gb918)); clear HB; have HB := n0_; have BK918 := n1_; have GW918 := n2_; have GE918 := n3_; clear n0_ n1_ n2_ n3_; clear hb hbox hg))
  (try simp only [Act.put, List.setIfInBounds_toArray, List.set_cons_zero, List.set_cons_succ])
  go_cut [25] (fun v25 wc => ∃ (kq : Nat) (x25_3 : Bool), v25 = .bool x25_3 ∧ Aside0 (impl_LendersOf.j0 kq l1 a2 x25_3 l0_0 = some (r1, r2)) ∧ Aside0 (kq ≤ k) ∧ Aside0 (wc.heap[gb918]? = some (.cells #[(.slice A0_0 l0_0.length c0_0)] 26 (0, 0))) ∧ Aside0 (Below w.heap.size w wc))
  case first =>
    have H := HC4.out
    clear HC4
    replace H := Option.bind_eq_some_iff.mp H
    obtain ⟨t919, A60, H⟩ := H
    replace H : (if t919 = true then ((impl_isTime.f a2).bind fun t920 => (impl_LendersOf.j0 k l1 a2 (!t920) l0_0)) else (impl_LendersOf.j0 k l1 a2 true l0_0)) = some (r1, r2) := H
    have A6 := Aside0.mk A60
    clear A60
    by_cases c7 : t919 = true
    · subst c7
      have H1 : ((impl_isTime.f a2).bind fun t920 => (impl_LendersOf.j0 k l1 a2 (!t920) l0_0)) = some (r1, r2) := by rw [if_pos rfl] at H; exact H
      clear H
      have H := H1
      clear H1
      replace H := Option.bind_eq_some_iff.mp H
      obtain ⟨t920, A80, H⟩ := H
      replace H : (impl_LendersOf.j0 k l1 a2 (!t920) l0_0) = some (r1, r2) := H
      have A8 := Aside0.mk A80
      clear A80
      have H' := Aside0.mk H
      clear H
      have hcz9_0 : w5.cell? ⟨gb918, 0, none⟩ = some (.slice A0_0 l0_0.length c0_0) := (blk_cell BK918.out 0).trans rfl
      have hfz9_0 := blk_frozen BK918.out 0
      go_wp2_with (first | ((with_reducible refine gate_callee (f := 76) rfl ?_); refine goesL_ (some 19) rfl rfl Try.func76 (by kernel_rfl) rfl #[.agg #[.slice A0_0 l0_0.length c0_0], .slice A1 l1.length c1] rfl (by (try simp only [List.map_toArray, List.map_cons, List.map_nil]); first | done | rfl | (simp only [List.length_drop, List.length_take]; rfl)) ?_; (with_reducible refine (impl_areLoans.calls _ _ l0_0 _ _ l1 true _ ?side1 ?side2 ?side3 ?side4 A6.out).mono ?_); (case side1 => repeat (first | exact (Kd.C_below HR0_0.out HB.out) | (with_reducible refine Kd.C_alloc ?_ _) | (with_reducible refine Kd.C_drewN ?_ _) | (with_reducible refine Kd.C_drew ?_))); (case side2 => exact HC0_0.out); (case side3 => repeat (first | exact (Kd.C_below HR1.out HB.out) | (with_reducible refine Kd.C_alloc ?_ _) | (with_reducible refine Kd.C_drewN ?_ _) | (with_reducible refine Kd.C_drew ?_))); (case side4 => exact HC1.out); rintro e w10 ⟨rfl, hb⟩; refine ⟨_, rfl, ?_⟩; have n0_ := Aside0.mk (blk_below (g := gb918) (o := .cells #[.slice A0_0 l0_0.length c0_0] 26 (0, 0)) (by (with_reducible repeat (first | refine blk_drewN ?_ _ | refine blk_drew ?_ | refine blk_alloc ?_ _)); exact BK918.out) hb); have n1_ := Aside0.mk (below_step (by repeat (first | (with_reducible first | exact HB.out | apply below_alloc | apply pw_below_drewN | apply below_drew1 | refine below_set ?_ GE918.out) | exact HB.out)) hb); clear BK918; clear HB; have BK918 := n0_; have HB := n1_; clear n0_ n1_; (try clear hb); (try clear hb2); (try clear hk); (try clear hi)) | (go_at_call 93; (with_reducible refine (impl_isTime.calls a2 t920 _ A8.out).mono ?_); rintro e w' ⟨rfl, ⟨nd, rfl⟩⟩))
      go_meet
      case rel => exact ⟨_, (!t920), (by first | rfl | (simp; done) | (simp [*]; done)), H', ⟨by first | omega | exact Nat.le_refl _⟩, ⟨by (with_reducible repeat (first | refine blk_drewN ?_ _ | refine blk_drew ?_ | refine blk_alloc ?_ _)); exact BK918.out⟩, ⟨by repeat (first | (with_reducible first | exact HB.out | apply below_alloc | apply pw_below_drewN | apply below_drew1 | refine below_set ?_ GE918.out) | exact HB.out)⟩⟩
    · replace c7 := Bool.eq_false_iff.mpr c7
      subst c7
      have H1 : (impl_LendersOf.j0 k l1 a2 true l0_0) = some (r1, r2) := by rw [if_neg (show ¬ (false = true) by decide)] at H; exact H
      clear H
      have H := H1
      clear H1
      have H' := Aside0.mk H
      clear H
      have hcz11_0 : w5.cell? ⟨gb918, 0, none⟩ = some (.slice A0_0 l0_0.length c0_0) := (blk_cell BK918.out 0).trans rfl
      have hfz11_0 := blk_frozen BK918.out 0
      go_wp2_with (first | ((with_reducible refine gate_callee (f := 76) rfl ?_); refine goesL_ (some 19) rfl rfl Try.func76 (by kernel_rfl) rfl #[.agg #[.slice A0_0 l0_0.length c0_0], .slice A1 l1.length c1] rfl (by (try simp only [List.map_toArray, List.map_cons, List.map_nil]); first | done | rfl | (simp only [List.length_drop, List.length_take]; rfl)) ?_; (with_reducible refine (impl_areLoans.calls _ _ l0_0 _ _ l1 false _ ?side1 ?side2 ?side3 ?side4 A6.out).mono ?_); (case side1 => repeat (first | exact (Kd.C_below HR0_0.out HB.out) | (with_reducible refine Kd.C_alloc ?_ _) | (with_reducible refine Kd.C_drewN ?_ _) | (with_reducible refine Kd.C_drew ?_))); (case side2 => exact HC0_0.out); (case side3 => repeat (first | exact (Kd.C_below HR1.out HB.out) | (with_reducible refine Kd.C_alloc ?_ _) | (with_reducible refine Kd.C_drewN ?_ _) | (with_reducible refine Kd.C_drew ?_))); (case side4 => exact HC1.out); rintro e w12 ⟨rfl, hb⟩; refine ⟨_, rfl, ?_⟩; have n0_ := Aside0.mk (blk_below (g := gb918) (o := .cells #[.slice A0_0 l0_0.length c0_0] 26 (0, 0)) (by (with_reducible repeat (first | refine blk_drewN ?_ _ | refine blk_drew ?_ | refine blk_alloc ?_ _)); exact BK918.out) hb); have n1_ := Aside0.mk (below_step (by repeat (first | (with_reducible first | exact HB.out | apply below_alloc | apply pw_below_drewN | apply below_drew1 | refine below_set ?_ GE918.out) | exact HB.out)) hb); clear BK918; clear HB; have BK918 := n0_; have HB := n1_; clear n0_ n1_; (try clear hb); (try clear hb2); (try clear hk); (try clear hi)))
      go_meet
      case rel => exact ⟨_, (true), (by first | rfl | (simp; done) | (simp [*]; done)), H', ⟨by first | omega | exact Nat.le_refl _⟩, ⟨by (with_reducible repeat (first | refine blk_drewN ?_ _ | refine blk_drew ?_ | refine blk_alloc ?_ _)); exact BK918.out⟩, ⟨by repeat (first | (with_reducible first | exact HB.out | apply below_alloc | apply pw_below_drewN | apply below_drew1 | refine below_set ?_ GE918.out) | exact HB.out)⟩⟩
  case rest =>
    clear HC4
    try clear c1
    try clear p2
    try clear c4
    try clear c7
    try clear hcz11_0
    try clear hcz9_0
    try clear hfz11_0
    try clear hfz9_0
    obtain ⟨kq, x25_3, rfl, HA, HJ3, BK918, HB⟩ := hcut
    cases kq with
    | zero => exact absurd HA.out (by simp [impl_LendersOf.j0])
    | succ kj3 =>
      have H := HA.out
      clear HA
      simp only [impl_LendersOf.j0] at H
      by_cases c13 : x25_3 = true
      · subst c13
        have H1 : (some (([] : List (List Int)), false)) = some (r1, r2) := by rw [if_pos rfl] at H; exact H
        clear H
        have H := H1
        clear H1
        simp only [Option.some.injEq, Prod.mk.injEq] at H
        obtain ⟨rfl, rfl⟩ := H
        go_wp2
        go_ret2
        exact ⟨_, by first | rfl | (simp [errW_none, errW_some] <;> rfl) | (simp [*, errW_none, errW_some] <;> rfl), by first | exact Kd.S_nil _ _ _ _ _ | exact Kd.N_nil _ _ _ _ _ | exact Kd.V_nil _ _ _ _ _ | exact Kd.Q_nil _ _ _ _ _ | exact Kd.R_nil _ _ _ _ _, by repeat (first | (with_reducible first | exact HB.out | apply below_alloc | apply pw_below_drewN | apply below_drew1 | refine below_set ?_ GE918.out) | exact HB.out)⟩
      · replace c13 := Bool.eq_false_iff.mpr c13
        subst c13
        have H1 : (impl_LendersOf.l0 kj3 l1 a2 (([] : List (List Int))) l0_0 (l0_0.length : Int) 0) = some (r1, r2) := by rw [if_neg (show ¬ (false = true) by decide)] at H; exact H
        clear H
        have H := H1
        clear H1
        obtain ⟨y921, hy921⟩ : ∃ y_ : List (List Int), y_ = (([] : List (List Int))) := ⟨_, rfl⟩
        replace H : (impl_LendersOf.l0 kj3 l1 a2 y921 l0_0 (l0_0.length : Int) 0) = some (r1, r2) := by first | (rw [hy921]; with_reducible exact H) | (have H2_ := (Option.bind_some _ _).symm.trans H; rw [hy921]; with_reducible exact H2_) | (have H2_ := (Option.bind_some _ _).symm.trans H; with_reducible exact H2_) | with_reducible exact H | (rw [hy921]; exact H) | exact H
        have Ny921 := Aside0.mk hy921
        clear hy921
        have H' := Aside0.mk H
        clear H
        go_wp2_with (first | ((with_reducible refine gate_dst (N := 26) rfl ?_); refine Kd.S_lit (Kd.slice 3 (Kd.int .i64)) _ 66 ?hg (N := 26) ?hd (xs := ([] : List (List Int))) (inner := []) (ok := fun _ => True) (okp := fun _ => True) ?hr ?hp (fun _ hk => hk) trivial (Below.refl _ _) (Nat.le_refl _) (by simp) ?_; (case hd => rfl); (case hg => rfl); (case hr => first | (go_simp; done) | (go_simp; rfl)); (case hp => exact (Reps.none _ _)); intro v922 w14 ho15 hb hg_ hnew_; clear hg_ hnew_; (first | rw [← Ny921.out] at ho15 | (simp only [Int.reduceToNat] at ho15; rw [← Ny921.out] at ho15)); have n0_ := Aside0.mk (Kd.S_lower ho15 (below_size (by repeat (first | (with_reducible first | exact HB.out | apply below_alloc | apply pw_below_drewN | apply below_drew1 | refine below_set ?_ GE918.out) | exact HB.out)))); have n1_ := Aside0.mk (blk_below (g := gb918) (o := .cells #[.slice A0_0 l0_0.length c0_0] 26 (0, 0)) (by (with_reducible repeat (first | refine blk_drewN ?_ _ | refine blk_drew ?_ | refine blk_alloc ?_ _)); exact BK918.out) hb); have n2_ := Aside0.mk (below_step (by repeat (first | (with_reducible first | exact HB.out | apply below_alloc | apply pw_below_drewN | apply below_drew1 | refine below_set ?_ GE918.out) | exact HB.out)) hb); clear BK918; clear HB; have HO923 := n0_; have BK918 := n1_; have HB := n2_; clear n0_ n1_ n2_; clear hb ho15; have hcz16_0 : w14.cell? ⟨gb918, 0, none⟩ = some (.slice A0_0 l0_0.length c0_0) := (blk_cell BK918.out 0).trans rfl; have hfz16_0 := blk_frozen BK918.out 0))
        go_loopg [8, 30] kj3 (fun kq v8 v30 w' => ∃ (x8_2 : List (List Int)) (x30_2 : Int), v30 = .int .i64 x30_2 ∧ Aside0 (impl_LendersOf.l0 kq l1 a2 x8_2 l0_0 (l0_0.length : Int) x30_2 = some (r1, r2)) ∧ Aside0 (kq ≤ kj3) ∧ Aside0 (Kd.S (Kd.slice 3 (Kd.int .i64)) 66 w' w.heap.size (fun _ => True) v8 x8_2) ∧ Aside0 (w'.heap[gb918]? = some (.cells #[(.slice A0_0 l0_0.length c0_0)] 26 (0, 0))) ∧ Aside0 (Below w.heap.size w w'))
        case atStart => exact ⟨(y921), (0), (by first | rfl | (simp; done) | (simp [*]; done)), H', ⟨Nat.le_refl _⟩, ⟨by (with_reducible repeat (first | apply Kd.S_alloc | apply Kd.S_drewN | apply Kd.S_drew)); exact HO923.out⟩, ⟨by (with_reducible repeat (first | refine blk_drewN ?_ _ | refine blk_drew ?_ | refine blk_alloc ?_ _)); exact BK918.out⟩, ⟨by repeat (first | (with_reducible first | exact HB.out | apply below_alloc | apply pw_below_drewN | apply below_drew1 | refine below_set ?_ GE918.out) | exact HB.out)⟩⟩
        case round =>
          clear H'
          try clear c1
          try clear p2
          try clear c4
          try clear c7
          try clear c13
          try clear hcz11_0
          try clear hcz16_0
          try clear hcz9_0
          try clear hfz11_0
          try clear hfz16_0
          try clear hfz9_0
          try clear p2
          obtain ⟨x8_2, x30_2, rfl, HA, HK2, HO_8, BK918, HB⟩ := hrel
          cases gk with
          | zero => exact absurd HA.out (by simp [impl_LendersOf.l0])
          | succ k2 =>
            have H := HA.out
            clear HA
            simp only [impl_LendersOf.l0] at H
            by_cases c17 : x30_2 < (l0_0.length : Int)
            · rw [if_pos c17] at H
              have c17b0 : decide (x30_2 < (l0_0.length : Int)) = true := decide_eq_true c17
              clear c17
              by_cases c18 : 0 ≤ x30_2
              · rw [if_pos c18] at H
                have c18b0 : decide (0 ≤ x30_2) = true := decide_eq_true c18
                clear c18
                by_cases c19 : x30_2 < (l0_0.length : Int)
                · rw [if_pos c19] at H
                  have c19b0 : decide (x30_2 < (l0_0.length : Int)) = true := decide_eq_true c19
                  clear c19
                  obtain ⟨y925, hy925⟩ : ∃ y_ : List Int, y_ = (([] : List Int)) := ⟨_, rfl⟩
                  replace H : (impl_LendersOf.l1 k2 l1 a2 x8_2 x30_2 y925 l0_0 (l0_0.length : Int) x30_2 ((rd_Lsu8 l0_0 x30_2).length : Int) 0) = some (r1, r2) := by first | (rw [hy925]; with_reducible exact H) | (have H2_ := (Option.bind_some _ _).symm.trans H; rw [hy925]; with_reducible exact H2_) | (have H2_ := (Option.bind_some _ _).symm.trans H; with_reducible exact H2_) | with_reducible exact H | (rw [hy925]; exact H) | exact H
                  have Ny925 := Aside0.mk hy925
                  clear hy925
                  have H' := Aside0.mk H
                  clear H
                  have p924 : 0 ≤ (x30_2 : Int) := of_decide_eq_true (by first | (with_reducible assumption) | assumption)
                  have q924 : x30_2 < (l0_0.length : Int) := of_decide_eq_true (by first | (with_reducible assumption) | assumption)
                  obtain ⟨ad924, A924_0, c924_0, e924, hx924_0, hl924_0, hi924_0⟩ := at_Lsu8 HR0_0.out x30_2 p924 q924
                  cases e924
                  replace hx924_0 := (HB.out.cell (World.block_lt_of_cell? w _ hx924_0)).trans hx924_0
                  have HR924_0 := Aside0.mk hi924_0
                  have HC924_0 := Aside0.mk hl924_0
                  clear hi924_0 hl924_0
                  replace p924 := eq_true p924
                  replace q924 := eq_true q924
                  go_wp2_with (first | ((with_reducible refine gate_dst (N := 35) rfl ?_); refine Kd.R_lit (Kd.int .i64) _ 3 ?hg (N := 35) ?hd (xs := ([] : List Int)) (inner := []) (ok := fun _ => True) (okp := fun _ => True) ?hr ?hp (fun _ hk => hk) trivial (Below.refl _ _) (Nat.le_refl _) (by simp) ?_; (case hd => rfl); (case hg => rfl); (case hr => first | (go_simp; done) | (go_simp; rfl)); (case hp => exact (Reps.none _ _)); intro v926 w20 ho21 hb hg_ hnew_; clear hg_ hnew_; (first | rw [← Ny925.out] at ho21 | (simp only [Int.reduceToNat] at ho21; rw [← Ny925.out] at ho21)); have n0_ := Aside0.mk (Kd.S_elder' (by (with_reducible repeat (first | apply Kd.S_alloc | apply Kd.S_drewN | apply Kd.S_drew)); exact HO_8.out) (Kd.R_base ho21) hb); have n1_ := Aside0.mk (Kd.R_lower ho21 (below_size (by repeat (first | (with_reducible first | exact HB.out | apply below_alloc | apply pw_below_drewN | apply below_drew1 | refine below_set ?_ GE918.out) | exact HB.out)))); have n2_ := Aside0.mk (blk_below (g := gb918) (o := .cells #[.slice (some ad924) l0_0.length c0_0] 26 (0, 0)) (by (with_reducible repeat (first | refine blk_drewN ?_ _ | refine blk_drew ?_ | refine blk_alloc ?_ _)); exact BK918.out) hb); have n3_ := Aside0.mk (below_step (by repeat (first | (with_reducible first | exact HB.out | apply below_alloc | apply pw_below_drewN | apply below_drew1 | refine below_set ?_ GE918.out) | exact HB.out)) hb); clear HO_8; clear BK918; clear HB; have HO_8 := n0_; have HO927 := n1_; have BK918 := n2_; have HB := n3_; clear n0_ n1_ n2_ n3_; clear hb ho21))
                  go_loopg [11, 38] k2 (fun kq v11 v38 w' => ∃ (x11_3 : List Int) (x38_3 : Int), v38 = .int .i64 x38_3 ∧ Aside0 (impl_LendersOf.l1 kq l1 a2 x8_2 x30_2 x11_3 l0_0 (l0_0.length : Int) x30_2 ((rd_Lsu8 l0_0 x30_2).length : Int) x38_3 = some (r1, r2)) ∧ Aside0 (kq ≤ k2) ∧ Aside0 (Kd.S (Kd.slice 3 (Kd.int .i64)) 66 w' w.heap.size (fun k_ => some k_ ≠ (v11 : Value).ownBlock) u8 x8_2) ∧ Aside0 (Kd.R (Kd.int .i64) 3 w' w.heap.size (fun _ => True) v11 x11_3) ∧ Aside0 (w'.heap[gb918]? = some (.cells #[(.slice (some ad924) l0_0.length c0_0)] 26 (0, 0))) ∧ Aside0 (Below w.heap.size w w'))
                  case atStart => exact ⟨(y925), (0), (by first | rfl | (simp; done) | (simp [*]; done)), H', ⟨Nat.le_refl _⟩, ⟨by (with_reducible repeat (first | apply Kd.S_alloc | apply Kd.S_drewN | apply Kd.S_drew)); exact Kd.S_mono HO_8.out (fun _ hk => hk.2)⟩, ⟨by (with_reducible repeat (first | apply Kd.R_alloc | apply Kd.R_drewN | apply Kd.R_drew)); exact HO927.out⟩, ⟨by (with_reducible repeat (first | refine blk_drewN ?_ _ | refine blk_drew ?_ | refine blk_alloc ?_ _)); exact BK918.out⟩, ⟨by repeat (first | (with_reducible first | exact HB.out | apply below_alloc | apply pw_below_drewN | apply below_drew1 | refine below_set ?_ GE918.out) | exact HB.out)⟩⟩
                  case round =>
                    clear H'
                    try clear c1
                    try clear p2
                    try clear c4
                    try clear c7
                    try clear c9
                    try clear p9
                    try clear q9
                    try clear hx9
                    try clear c13
                    try clear c17
                    try clear c17b0
                    try clear c18
                    try clear c18b0
                    try clear c19
                    try clear c19b0
                    try clear hcz11_0
                    try clear hcz16_0
                    try clear hcz9_0
                    try clear hfz11_0
                    try clear hfz16_0
                    try clear hfz9_0
                    try clear hx924_0
                    try clear p2
                    try clear p924
                    try clear q924
                    obtain ⟨x11_3, x38_3, rfl, HA, HK3, HO_8, HO_11, BK918, HB⟩ := hrel
                    cases gk with
                    | zero => exact absurd HA.out (by simp [impl_LendersOf.l1])
                    | succ k3 =>
                      have H := HA.out
                      clear HA
                      simp only [impl_LendersOf.l1] at H
                      by_cases c22 : x38_3 < ((rd_Lsu8 l0_0 x30_2).length : Int)
                      · rw [if_pos c22] at H
                        have c22b0 : decide (x38_3 < ((rd_Lsu8 l0_0 x30_2).length : Int)) = true := decide_eq_true c22
                        clear c22
                        have H' := Aside0.mk H
                        clear H
                        go_wp2
                        go_loopg [13, 14, 43] k3 (fun kq v13 v14 v43 w' => ∃ (x13_4 : Int) (x14_4 : Int) (x43_4 : Int), v13 = .int .i64 x13_4 ∧ v14 = .int .i64 x14_4 ∧ v43 = .int .i64 x43_4 ∧ Aside0 (impl_LendersOf.l2 kq l1 a2 x8_2 x30_2 x11_3 x38_3 x13_4 x14_4 l0_0 (l0_0.length : Int) x30_2 ((rd_Lsu8 l0_0 x30_2).length : Int) x38_3 l1 (l1.length : Int) x43_4 = some (r1, r2)) ∧ Aside0 (kq ≤ k3) ∧ Aside0 (Kd.S (Kd.slice 3 (Kd.int .i64)) 66 w' w.heap.size (fun k_ => some k_ ≠ (u11 : Value).ownBlock) u8 x8_2) ∧ Aside0 (Kd.R (Kd.int .i64) 3 w' w.heap.size (fun _ => True) u11 x11_3) ∧ Aside0 (w'.heap[gb918]? = some (.cells #[(.slice (some ad924) l0_0.length c0_0)] 26 (0, 0))) ∧ Aside0 (Below w.heap.size w w'))
                        case atStart => exact ⟨(0), (1), (0), (by first | rfl | (simp; done) | (simp [*]; done)), (by first | rfl | (simp; done) | (simp [*]; done)), (by first | rfl | (simp; done) | (simp [*]; done)), H', ⟨Nat.le_refl _⟩, ⟨by (with_reducible repeat (first | apply Kd.S_alloc | apply Kd.S_drewN | apply Kd.S_drew)); exact HO_8.out⟩, ⟨by (with_reducible repeat (first | apply Kd.R_alloc | apply Kd.R_drewN | apply Kd.R_drew)); exact HO_11.out⟩, ⟨by (with_reducible repeat (first | refine blk_drewN ?_ _ | refine blk_drew ?_ | refine blk_alloc ?_ _)); exact BK918.out⟩, ⟨by repeat (first | (with_reducible first | exact HB.out | apply below_alloc | apply pw_below_drewN | apply below_drew1 | refine below_set ?_ GE918.out) | exact HB.out)⟩⟩
                        case round =>
                          clear H'
                          try clear c1
                          try clear c2
                          try clear p2
                          try clear c4
                          try clear c7
                          try clear c9
                          try clear p9
                          try clear q9
                          try clear hx9
                          try clear c13
                          try clear c17
                          try clear c17b0
                          try clear c18
                          try clear c18b0
                          try clear c19
                          try clear c19b0
                          try clear c22
                          try clear c22b0
                          try clear hcz11_0
                          try clear hcz16_0
                          try clear hcz9_0
                          try clear hfz11_0
                          try clear hfz16_0
                          try clear hfz9_0
                          try clear hx924_0
                          try clear p2
                          try clear p9
                          try clear p924
                          try clear q9
                          try clear q924
                          obtain ⟨x13_4, x14_4, x43_4, rfl, rfl, rfl, HA, HK4, HO_8, HO_11, BK918, HB⟩ := hrel
                          cases gk with
                          | zero => exact absurd HA.out (by simp [impl_LendersOf.l2])
                          | succ k4 =>
                            have H := HA.out
                            clear HA
                            simp only [impl_LendersOf.l2] at H
                            by_cases c23 : x43_4 < (l1.length : Int)
                            · rw [if_pos c23] at H
                              have c23b0 : decide (x43_4 < (l1.length : Int)) = true := decide_eq_true c23
                              clear c23
                              by_cases c24 : 0 ≤ x43_4
                              · rw [if_pos c24] at H
                                have c24b0 : decide (0 ≤ x43_4) = true := decide_eq_true c24
                                clear c24
                                by_cases c25 : x43_4 < (l1.length : Int)
                                · rw [if_pos c25] at H
                                  have c25b0 : decide (x43_4 < (l1.length : Int)) = true := decide_eq_true c25
                                  clear c25
                                  have HC26 := Aside0.mk H
                                  clear H
                                  have p934 : 0 ≤ (x43_4 : Int) := of_decide_eq_true (by first | (with_reducible assumption) | assumption)
                                  have q934 : x43_4 < (l1.length : Int) := of_decide_eq_true (by first | (with_reducible assumption) | assumption)
                                  obtain ⟨ad934, e934, hx934_0, hx934_1, hx934_2, hx934_3, hx934_4, hx934_5, hx934_6⟩ := at_TimplLoan HR1.out x43_4 p934 q934
                                  cases e934
                                  replace hx934_0 := (HB.out.cell (World.block_lt_of_cell? w _ hx934_0)).trans hx934_0
                                  replace hx934_1 := (HB.out.cell (World.block_lt_of_cell? w _ hx934_1)).trans hx934_1
                                  replace hx934_2 := (HB.out.cell (World.block_lt_of_cell? w _ hx934_2)).trans hx934_2
                                  replace hx934_3 := (HB.out.cell (World.block_lt_of_cell? w _ hx934_3)).trans hx934_3
                                  replace hx934_4 := (HB.out.cell (World.block_lt_of_cell? w _ hx934_4)).trans hx934_4
                                  replace hx934_5 := (HB.out.cell (World.block_lt_of_cell? w _ hx934_5)).trans hx934_5
                                  replace hx934_6 := (HB.out.cell (World.block_lt_of_cell? w _ hx934_6)).trans hx934_6
                                  replace p934 := eq_true p934
                                  replace q934 := eq_true q934
                                  go_upto_region 15 with (first | ((with_reducible refine gate_dst (N := 16) rfl ?_); refine box_event ?hg (N := 16) ?hd (cs := #[.int .i64 0, .int .i64 0, .int .i64 0, .int .i64 0, .bool false, .int .i64 0, .int .i64 0]) (t := 30) ?hr ?_; (case hd => rfl); (case hg => rfl); (case hr => first | (go_simp; done) | (go_simp; rfl)); intro gb935 hg w27 hbox hb; have n0_ := Aside0.mk (Kd.S_below (by (with_reducible repeat (first | apply Kd.S_alloc | apply Kd.S_drewN | apply Kd.S_drew)); exact HO_8.out) hb); have n1_ := Aside0.mk (Kd.R_below (by (with_reducible repeat (first | apply Kd.R_alloc | apply Kd.R_drewN | apply Kd.R_drew)); exact HO_11.out) hb); have n2_ := Aside0.mk (blk_below (g := gb918) (o := .cells #[.slice (some ad924) l0_0.length c0_0] 26 (0, 0)) (by (with_reducible repeat (first | refine blk_drewN ?_ _ | refine blk_drew ?_ | refine blk_alloc ?_ _)); exact BK918.out) hb); have n3_ := Aside0.mk (below_step (by repeat (first | (with_reducible first | exact HB.out | apply below_alloc | apply pw_below_drewN | apply below_drew1 | refine below_set ?_ GE918.out) | exact HB.out)) hb); have n4_ := Aside0.mk (hbox); have n5_ := Aside0.mk ((by rw [hg]; exact (below_size (by repeat (first | (with_reducible first | exact HB.out | apply below_alloc | apply pw_below_drewN | apply below_drew1 | refine below_set ?_ GE918.out) | exact HB.out))) : w.heap.size ≤ gb935)); have n6_ := Aside0.mk ((by rw [hg]; exact (below_size (by repeat (first | (with_reducible first | exact HB.out | apply below_alloc | apply pw_below_drewN | apply below_drew1 | refine below_set ?_ GE918.out) | exact HB.out))) : w.heap.size ≤ gb935)); have n7_ := Aside0.mk ((by rw [hg]; exact Nat.ne_of_lt (blk_lt (g := gb918) (o := .cells #[.slice (some ad924) l0_0.length c0_0] 26 (0, 0)) (by (with_reducible repeat (first | refine blk_drewN ?_ _ | refine blk_drew ?_ | refine blk_alloc ?_ _)); exact BK918.out)) : gb918 ≠ gb935)); have n8_ := Aside0.mk ((by rw [hg]; exact Nat.ne_of_gt (blk_lt (g := gb918) (o := .cells #[.slice (some ad924) l0_0.length c0_0] 26 (0, 0)) (by (with_reducible repeat (first | refine blk_drewN ?_ _ | refine blk_drew ?_ | refine blk_alloc ?_ _)); exact BK918.out)) : gb935 ≠ gb918)); clear HO_8; clear HO_11; clear BK918; clear HB; have HO_8 := n0_; have HO_11 := n1_; have BK918 := n2_; have HB := n3_; have BK935 := n4_; have GW935 := n5_; have GE935 := n6_; have NB918_935 := n7_; have NB935_918 := n8_; clear n0_ n1_ n2_ n3_ n4_ n5_ n6_ n7_ n8_; clear hb hbox hg; have hnb28 := NB935_918.out; have hnc28 := NB918_935.out; have hcz29_0 : w27.cell? ⟨gb935, 0, none⟩ = some (.int .i64 0) := (blk_cell BK935.out 0).trans rfl; have hcz29_1 : w27.cell? ⟨gb935, 1, none⟩ = some (.int .i64 0) := (blk_cell BK935.out 1).trans rfl; have hcz29_2 : w27.cell? ⟨gb935, 2, none⟩ = some (.int .i64 0) := (blk_cell BK935.out 2).trans rfl; have hcz29_3 : w27.cell? ⟨gb935, 3, none⟩ = some (.int .i64 0) := (blk_cell BK935.out 3).trans rfl; have hcz29_4 : w27.cell? ⟨gb935, 4, none⟩ = some (.bool false) := (blk_cell BK935.out 4).trans rfl; have hcz29_5 : w27.cell? ⟨gb935, 5, none⟩ = some (.int .i64 0) := (blk_cell BK935.out 5).trans rfl; have hcz29_6 : w27.cell? ⟨gb935, 6, none⟩ = some (.int .i64 0) := (blk_cell BK935.out 6).trans rfl; have hfz29_0 := blk_frozen BK935.out 0; have hfz29_1 := blk_frozen BK935.out 1; have hfz29_2 := blk_frozen BK935.out 2; have hfz29_3 := blk_frozen BK935.out 3; have hfz29_4 := blk_frozen BK935.out 4; have hfz29_5 := blk_frozen BK935.out 5; have hfz29_6 := blk_frozen BK935.out 6))
                                  (try simp only [Act.put, List.setIfInBounds_toArray, List.set_cons_zero, List.set_cons_succ])
                                  go_cut [58] (fun v58 wc => ∃ (kq : Nat) (x58_25 : Bool), v58 = .bool x58_25 ∧ Aside0 (impl_LendersOf.j4 kq l1 a2 x8_2 x30_2 x11_3 x38_3 x13_4 x14_4 l0_0 (l0_0.length : Int) x30_2 ((rd_Lsu8 l0_0 x30_2).length : Int) x38_3 l1 (l1.length : Int) x43_4 x58_25 ((rd_TimplLoan l1 x43_4).f0.f0) ((rd_TimplLoan l1 x43_4).f0.f1) ((rd_TimplLoan l1 x43_4).f0.f2) ((rd_TimplLoan l1 x43_4).f0.f3) ((rd_TimplLoan l1 x43_4).f1) ((rd_TimplLoan l1 x43_4).f2) ((rd_TimplLoan l1 x43_4).f3) = some (r1, r2)) ∧ Aside0 (kq ≤ k4) ∧ Aside0 (Kd.S (Kd.slice 3 (Kd.int .i64)) 66 wc w.heap.size (fun k_ => some k_ ≠ (u11 : Value).ownBlock) u8 x8_2) ∧ Aside0 (Kd.R (Kd.int .i64) 3 wc w.heap.size (fun _ => True) u11 x11_3) ∧ Aside0 (wc.heap[gb918]? = some (.cells #[(.slice (some ad924) l0_0.length c0_0)] 26 (0, 0))) ∧ Aside0 (wc.heap[gb935]? = some (.cells #[.int .i64 ((rd_TimplLoan l1 x43_4).f0.f0), .int .i64 ((rd_TimplLoan l1 x43_4).f0.f1), .int .i64 ((rd_TimplLoan l1 x43_4).f0.f2), .int .i64 ((rd_TimplLoan l1 x43_4).f0.f3), .bool ((rd_TimplLoan l1 x43_4).f1), .int .i64 ((rd_TimplLoan l1 x43_4).f2), .int .i64 ((rd_TimplLoan l1 x43_4).f3)] 30 (0, 0))) ∧ Aside0 (Below w.heap.size w wc))
                                  case first =>
                                    have H := HC26.out
                                    clear HC26
                                    replace H := Option.bind_eq_some_iff.mp H
                                    obtain ⟨t936, A300, H⟩ := H
                                    replace H : (if t936 = true then ((impl_Window_sees.f ((rd_TimplLoan l1 x43_4).f0.f0) ((rd_TimplLoan l1 x43_4).f0.f1) ((rd_TimplLoan l1 x43_4).f0.f2) ((rd_TimplLoan l1 x43_4).f0.f3) x30_2 x38_3).bind fun t937 => (impl_LendersOf.j4 k4 l1 a2 x8_2 x30_2 x11_3 x38_3 x13_4 x14_4 l0_0 (l0_0.length : Int) x30_2 ((rd_Lsu8 l0_0 x30_2).length : Int) x38_3 l1 (l1.length : Int) x43_4 (!t937) ((rd_TimplLoan l1 x43_4).f0.f0) ((rd_TimplLoan l1 x43_4).f0.f1) ((rd_TimplLoan l1 x43_4).f0.f2) ((rd_TimplLoan l1 x43_4).f0.f3) ((rd_TimplLoan l1 x43_4).f1) ((rd_TimplLoan l1 x43_4).f2) ((rd_TimplLoan l1 x43_4).f3))) else (impl_LendersOf.j4 k4 l1 a2 x8_2 x30_2 x11_3 x38_3 x13_4 x14_4 l0_0 (l0_0.length : Int) x30_2 ((rd_Lsu8 l0_0 x30_2).length : Int) x38_3 l1 (l1.length : Int) x43_4 true ((rd_TimplLoan l1 x43_4).f0.f0) ((rd_TimplLoan l1 x43_4).f0.f1) ((rd_TimplLoan l1 x43_4).f0.f2) ((rd_TimplLoan l1 x43_4).f0.f3) ((rd_TimplLoan l1 x43_4).f1) ((rd_TimplLoan l1 x43_4).f2) ((rd_TimplLoan l1 x43_4).f3))) = some (r1, r2) := H
                                    have A30 := Aside0.mk A300
                                    clear A300
                                    by_cases c31 : t936 = true
                                    · subst c31
                                      have H1 : ((impl_Window_sees.f ((rd_TimplLoan l1 x43_4).f0.f0) ((rd_TimplLoan l1 x43_4).f0.f1) ((rd_TimplLoan l1 x43_4).f0.f2) ((rd_TimplLoan l1 x43_4).f0.f3) x30_2 x38_3).bind fun t937 => (impl_LendersOf.j4 k4 l1 a2 x8_2 x30_2 x11_3 x38_3 x13_4 x14_4 l0_0 (l0_0.length : Int) x30_2 ((rd_Lsu8 l0_0 x30_2).length : Int) x38_3 l1 (l1.length : Int) x43_4 (!t937) ((rd_TimplLoan l1 x43_4).f0.f0) ((rd_TimplLoan l1 x43_4).f0.f1) ((rd_TimplLoan l1 x43_4).f0.f2) ((rd_TimplLoan l1 x43_4).f0.f3) ((rd_TimplLoan l1 x43_4).f1) ((rd_TimplLoan l1 x43_4).f2) ((rd_TimplLoan l1 x43_4).f3))) = some (r1, r2) := by rw [if_pos rfl] at H; exact H
                                      clear H
                                      have H := H1
                                      clear H1
                                      replace H := Option.bind_eq_some_iff.mp H
                                      obtain ⟨t937, A320, H⟩ := H
                                      replace H : (impl_LendersOf.j4 k4 l1 a2 x8_2 x30_2 x11_3 x38_3 x13_4 x14_4 l0_0 (l0_0.length : Int) x30_2 ((rd_Lsu8 l0_0 x30_2).length : Int) x38_3 l1 (l1.length : Int) x43_4 (!t937) ((rd_TimplLoan l1 x43_4).f0.f0) ((rd_TimplLoan l1 x43_4).f0.f1) ((rd_TimplLoan l1 x43_4).f0.f2) ((rd_TimplLoan l1 x43_4).f0.f3) ((rd_TimplLoan l1 x43_4).f1) ((rd_TimplLoan l1 x43_4).f2) ((rd_TimplLoan l1 x43_4).f3)) = some (r1, r2) := H
                                      have A32 := Aside0.mk A320
                                      clear A320
                                      have H' := Aside0.mk H
                                      clear H
                                      have hnb33 := NB935_918.out
                                      have hnc33 := NB918_935.out
                                      have hcz34_0 : w27.cell? ⟨gb935, 0, none⟩ = some (.int .i64 0) := (blk_cell BK935.out 0).trans rfl
                                      have hcz34_1 : w27.cell? ⟨gb935, 1, none⟩ = some (.int .i64 0) := (blk_cell BK935.out 1).trans rfl
                                      have hcz34_2 : w27.cell? ⟨gb935, 2, none⟩ = some (.int .i64 0) := (blk_cell BK935.out 2).trans rfl
                                      have hcz34_3 : w27.cell? ⟨gb935, 3, none⟩ = some (.int .i64 0) := (blk_cell BK935.out 3).trans rfl
                                      have hcz34_4 : w27.cell? ⟨gb935, 4, none⟩ = some (.bool false) := (blk_cell BK935.out 4).trans rfl
                                      have hcz34_5 : w27.cell? ⟨gb935, 5, none⟩ = some (.int .i64 0) := (blk_cell BK935.out 5).trans rfl
                                      have hcz34_6 : w27.cell? ⟨gb935, 6, none⟩ = some (.int .i64 0) := (blk_cell BK935.out 6).trans rfl
                                      have hfz34_0 := blk_frozen BK935.out 0
                                      have hfz34_1 := blk_frozen BK935.out 1
                                      have hfz34_2 := blk_frozen BK935.out 2
                                      have hfz34_3 := blk_frozen BK935.out 3
                                      have hfz34_4 := blk_frozen BK935.out 4
                                      have hfz34_5 := blk_frozen BK935.out 5
                                      have hfz34_6 := blk_frozen BK935.out 6
                                      go_wp2_with (first | ((with_reducible refine gate_callee (f := 94) rfl ?_); refine goesL_ (some 49) rfl rfl Try.func94 (by kernel_rfl) rfl #[.agg #[.int .i64 ((rd_TimplLoan l1 x43_4).f0.f0), .int .i64 ((rd_TimplLoan l1 x43_4).f0.f1), .int .i64 ((rd_TimplLoan l1 x43_4).f0.f2), .int .i64 ((rd_TimplLoan l1 x43_4).f0.f3), .bool ((rd_TimplLoan l1 x43_4).f1), .int .i64 ((rd_TimplLoan l1 x43_4).f2), .int .i64 ((rd_TimplLoan l1 x43_4).f3)], .int .i64 a2] rfl (by (try simp only [List.map_toArray, List.map_cons, List.map_nil]); first | done | rfl | (simp only [List.length_drop, List.length_take]; rfl)) ?_; (with_reducible refine (impl_Loan_held.calls ((rd_TimplLoan l1 x43_4).f0.f0) ((rd_TimplLoan l1 x43_4).f0.f1) ((rd_TimplLoan l1 x43_4).f0.f2) ((rd_TimplLoan l1 x43_4).f0.f3) ((rd_TimplLoan l1 x43_4).f1) ((rd_TimplLoan l1 x43_4).f2) ((rd_TimplLoan l1 x43_4).f3) a2 true _ A30.out).mono ?_); rintro e w35 ⟨rfl, hb⟩; refine ⟨_, rfl, ?_⟩; have n0_ := Aside0.mk (Kd.S_below (by (with_reducible repeat (first | apply Kd.S_alloc | apply Kd.S_drewN | apply Kd.S_drew)); exact (Kd.S_mono (Kd.S_far (p := ⟨gb935, 6, none⟩) (Kd.S_far (p := ⟨gb935, 5, none⟩) (Kd.S_far (p := ⟨gb935, 4, none⟩) (Kd.S_far (p := ⟨gb935, 3, none⟩) (Kd.S_far (p := ⟨gb935, 2, none⟩) (Kd.S_far (p := ⟨gb935, 1, none⟩) (Kd.S_far (p := ⟨gb935, 0, none⟩) (Kd.S_types HO_8.out BK935.out (by decide)) (fun _ hk => hk.2) (.int .i64 ((rd_TimplLoan l1 x43_4).f0.f0))) (fun _ hk => hk.2) (.int .i64 ((rd_TimplLoan l1 x43_4).f0.f1))) (fun _ hk => hk.2) (.int .i64 ((rd_TimplLoan l1 x43_4).f0.f2))) (fun _ hk => hk.2) (.int .i64 ((rd_TimplLoan l1 x43_4).f0.f3))) (fun _ hk => hk.2) (.bool ((rd_TimplLoan l1 x43_4).f1))) (fun _ hk => hk.2) (.int .i64 ((rd_TimplLoan l1 x43_4).f2))) (fun _ hk => hk.2) (.int .i64 ((rd_TimplLoan l1 x43_4).f3))) (fun _ h_ => h_.1))) hb); have n1_ := Aside0.mk (Kd.R_below (by (with_reducible repeat (first | apply Kd.R_alloc | apply Kd.R_drewN | apply Kd.R_drew)); exact (Kd.R_mono (Kd.R_far (p := ⟨gb935, 6, none⟩) (Kd.R_far (p := ⟨gb935, 5, none⟩) (Kd.R_far (p := ⟨gb935, 4, none⟩) (Kd.R_far (p := ⟨gb935, 3, none⟩) (Kd.R_far (p := ⟨gb935, 2, none⟩) (Kd.R_far (p := ⟨gb935, 1, none⟩) (Kd.R_far (p := ⟨gb935, 0, none⟩) (Kd.R_types HO_11.out BK935.out (by decide)) (fun _ hk => hk.2) (.int .i64 ((rd_TimplLoan l1 x43_4).f0.f0))) (fun _ hk => hk.2) (.int .i64 ((rd_TimplLoan l1 x43_4).f0.f1))) (fun _ hk => hk.2) (.int .i64 ((rd_TimplLoan l1 x43_4).f0.f2))) (fun _ hk => hk.2) (.int .i64 ((rd_TimplLoan l1 x43_4).f0.f3))) (fun _ hk => hk.2) (.bool ((rd_TimplLoan l1 x43_4).f1))) (fun _ hk => hk.2) (.int .i64 ((rd_TimplLoan l1 x43_4).f2))) (fun _ hk => hk.2) (.int .i64 ((rd_TimplLoan l1 x43_4).f3))) (fun _ h_ => h_.1))) hb); have n2_ := Aside0.mk (blk_below (g := gb918) (o := .cells #[.slice (some ad924) l0_0.length c0_0] 26 (0, 0)) (by (with_reducible repeat (first | refine blk_drewN ?_ _ | refine blk_drew ?_ | refine blk_alloc ?_ _)); refine blk_far ?_ NB918_935.out _; (with_reducible repeat (first | refine blk_drewN ?_ _ | refine blk_drew ?_ | refine blk_alloc ?_ _)); refine blk_far ?_ NB918_935.out _; (with_reducible repeat (first | refine blk_drewN ?_ _ | refine blk_drew ?_ | refine blk_alloc ?_ _)); refine blk_far ?_ NB918_935.out _; (with_reducible repeat (first | refine blk_drewN ?_ _ | refine blk_drew ?_ | refine blk_alloc ?_ _)); refine blk_far ?_ NB918_935.out _; (with_reducible repeat (first | refine blk_drewN ?_ _ | refine blk_drew ?_ | refine blk_alloc ?_ _)); refine blk_far ?_ NB918_935.out _; (with_reducible repeat (first | refine blk_drewN ?_ _ | refine blk_drew ?_ | refine blk_alloc ?_ _)); refine blk_far ?_ NB918_935.out _; (with_reducible repeat (first | refine blk_drewN ?_ _ | refine blk_drew ?_ | refine blk_alloc ?_ _)); refine blk_far ?_ NB918_935.out _; (with_reducible repeat (first | refine blk_drewN ?_ _ | refine blk_drew ?_ | refine blk_alloc ?_ _)); exact BK918.out) hb); have n3_ := Aside0.mk (blk_below (g := gb935) (o := .cells #[.int .i64 ((rd_TimplLoan l1 x43_4).f0.f0), .int .i64 ((rd_TimplLoan l1 x43_4).f0.f1), .int .i64 ((rd_TimplLoan l1 x43_4).f0.f2), .int .i64 ((rd_TimplLoan l1 x43_4).f0.f3), .bool ((rd_TimplLoan l1 x43_4).f1), .int .i64 ((rd_TimplLoan l1 x43_4).f2), .int .i64 ((rd_TimplLoan l1 x43_4).f3)] 30 (0, 0)) (by (with_reducible repeat (first | refine blk_drewN ?_ _ | refine blk_drew ?_ | refine blk_alloc ?_ _)); refine blk_put (cs := #[.int .i64 ((rd_TimplLoan l1 x43_4).f0.f0), .int .i64 ((rd_TimplLoan l1 x43_4).f0.f1), .int .i64 ((rd_TimplLoan l1 x43_4).f0.f2), .int .i64 ((rd_TimplLoan l1 x43_4).f0.f3), .bool ((rd_TimplLoan l1 x43_4).f1), .int .i64 ((rd_TimplLoan l1 x43_4).f2), .int .i64 0]) ?_ 6 _ rfl; (with_reducible repeat (first | refine blk_drewN ?_ _ | refine blk_drew ?_ | refine blk_alloc ?_ _)); refine blk_put (cs := #[.int .i64 ((rd_TimplLoan l1 x43_4).f0.f0), .int .i64 ((rd_TimplLoan l1 x43_4).f0.f1), .int .i64 ((rd_TimplLoan l1 x43_4).f0.f2), .int .i64 ((rd_TimplLoan l1 x43_4).f0.f3), .bool ((rd_TimplLoan l1 x43_4).f1), .int .i64 0, .int .i64 0]) ?_ 5 _ rfl; (with_reducible repeat (first | refine blk_drewN ?_ _ | refine blk_drew ?_ | refine blk_alloc ?_ _)); refine blk_put (cs := #[.int .i64 ((rd_TimplLoan l1 x43_4).f0.f0), .int .i64 ((rd_TimplLoan l1 x43_4).f0.f1), .int .i64 ((rd_TimplLoan l1 x43_4).f0.f2), .int .i64 ((rd_TimplLoan l1 x43_4).f0.f3), .bool false, .int .i64 0, .int .i64 0]) ?_ 4 _ rfl; (with_reducible repeat (first | refine blk_drewN ?_ _ | refine blk_drew ?_ | refine blk_alloc ?_ _)); refine blk_put (cs := #[.int .i64 ((rd_TimplLoan l1 x43_4).f0.f0), .int .i64 ((rd_TimplLoan l1 x43_4).f0.f1), .int .i64 ((rd_TimplLoan l1 x43_4).f0.f2), .int .i64 0, .bool false, .int .i64 0, .int .i64 0]) ?_ 3 _ rfl; (with_reducible repeat (first | refine blk_drewN ?_ _ | refine blk_drew ?_ | refine blk_alloc ?_ _)); refine blk_put (cs := #[.int .i64 ((rd_TimplLoan l1 x43_4).f0.f0), .int .i64 ((rd_TimplLoan l1 x43_4).f0.f1), .int .i64 0, .int .i64 0, .bool false, .int .i64 0, .int .i64 0]) ?_ 2 _ rfl; (with_reducible repeat (first | refine blk_drewN ?_ _ | refine blk_drew ?_ | refine blk_alloc ?_ _)); refine blk_put (cs := #[.int .i64 ((rd_TimplLoan l1 x43_4).f0.f0), .int .i64 0, .int .i64 0, .int .i64 0, .bool false, .int .i64 0, .int .i64 0]) ?_ 1 _ rfl; (with_reducible repeat (first | refine blk_drewN ?_ _ | refine blk_drew ?_ | refine blk_alloc ?_ _)); refine blk_put (cs := #[.int .i64 0, .int .i64 0, .int .i64 0, .int .i64 0, .bool false, .int .i64 0, .int .i64 0]) ?_ 0 _ rfl; (with_reducible repeat (first | refine blk_drewN ?_ _ | refine blk_drew ?_ | refine blk_alloc ?_ _)); exact BK935.out) hb); have n4_ := Aside0.mk (below_step (by repeat (first | (with_reducible first | exact HB.out | apply below_alloc | apply pw_below_drewN | apply below_drew1 | refine below_set ?_ GE918.out | refine below_set ?_ GE935.out) | exact HB.out)) hb); clear HO_8; clear HO_11; clear BK918; clear BK935; clear HB; have HO_8 := n0_; have HO_11 := n1_; have BK918 := n2_; have BK935 := n3_; have HB := n4_; clear n0_ n1_ n2_ n3_ n4_; (try clear hb); (try clear hb2); (try clear hk); (try clear hi); have hcz36_0 : w35.cell? ⟨gb935, 0, none⟩ = some (.int .i64 ((rd_TimplLoan l1 x43_4).f0.f0)) := (blk_cell BK935.out 0).trans rfl; have hcz36_1 : w35.cell? ⟨gb935, 1, none⟩ = some (.int .i64 ((rd_TimplLoan l1 x43_4).f0.f1)) := (blk_cell BK935.out 1).trans rfl; have hcz36_2 : w35.cell? ⟨gb935, 2, none⟩ = some (.int .i64 ((rd_TimplLoan l1 x43_4).f0.f2)) := (blk_cell BK935.out 2).trans rfl; have hcz36_3 : w35.cell? ⟨gb935, 3, none⟩ = some (.int .i64 ((rd_TimplLoan l1 x43_4).f0.f3)) := (blk_cell BK935.out 3).trans rfl; have hcz36_4 : w35.cell? ⟨gb935, 4, none⟩ = some (.bool ((rd_TimplLoan l1 x43_4).f1)) := (blk_cell BK935.out 4).trans rfl; have hcz36_5 : w35.cell? ⟨gb935, 5, none⟩ = some (.int .i64 ((rd_TimplLoan l1 x43_4).f2)) := (blk_cell BK935.out 5).trans rfl; have hcz36_6 : w35.cell? ⟨gb935, 6, none⟩ = some (.int .i64 ((rd_TimplLoan l1 x43_4).f3)) := (blk_cell BK935.out 6).trans rfl; have hfz36_0 := blk_frozen BK935.out 0; have hfz36_1 := blk_frozen BK935.out 1; have hfz36_2 := blk_frozen BK935.out 2; have hfz36_3 := blk_frozen BK935.out 3; have hfz36_4 := blk_frozen BK935.out 4; have hfz36_5 := blk_frozen BK935.out 5; have hfz36_6 := blk_frozen BK935.out 6) | (go_at_call 101; (with_reducible refine (impl_Window_sees.calls ((rd_TimplLoan l1 x43_4).f0.f0) ((rd_TimplLoan l1 x43_4).f0.f1) ((rd_TimplLoan l1 x43_4).f0.f2) ((rd_TimplLoan l1 x43_4).f0.f3) x30_2 x38_3 t937 _ A32.out).mono ?_); rintro e w37 ⟨rfl, hb⟩; have n0_ := Aside0.mk (Kd.S_below (by (with_reducible repeat (first | apply Kd.S_alloc | apply Kd.S_drewN | apply Kd.S_drew)); exact HO_8.out) hb); have n1_ := Aside0.mk (Kd.R_below (by (with_reducible repeat (first | apply Kd.R_alloc | apply Kd.R_drewN | apply Kd.R_drew)); exact HO_11.out) hb); have n2_ := Aside0.mk (blk_below (g := gb918) (o := .cells #[.slice (some ad924) l0_0.length c0_0] 26 (0, 0)) (by (with_reducible repeat (first | refine blk_drewN ?_ _ | refine blk_drew ?_ | refine blk_alloc ?_ _)); exact BK918.out) hb); have n3_ := Aside0.mk (blk_below (g := gb935) (o := .cells #[.int .i64 ((rd_TimplLoan l1 x43_4).f0.f0), .int .i64 ((rd_TimplLoan l1 x43_4).f0.f1), .int .i64 ((rd_TimplLoan l1 x43_4).f0.f2), .int .i64 ((rd_TimplLoan l1 x43_4).f0.f3), .bool ((rd_TimplLoan l1 x43_4).f1), .int .i64 ((rd_TimplLoan l1 x43_4).f2), .int .i64 ((rd_TimplLoan l1 x43_4).f3)] 30 (0, 0)) (by (with_reducible repeat (first | refine blk_drewN ?_ _ | refine blk_drew ?_ | refine blk_alloc ?_ _)); exact BK935.out) hb); have n4_ := Aside0.mk (below_step (by repeat (first | (with_reducible first | exact HB.out | apply below_alloc | apply pw_below_drewN | apply below_drew1 | refine below_set ?_ GE918.out | refine below_set ?_ GE935.out) | exact HB.out)) hb); clear HO_8; clear HO_11; clear BK918; clear BK935; clear HB; have HO_8 := n0_; have HO_11 := n1_; have BK918 := n2_; have BK935 := n3_; have HB := n4_; clear n0_ n1_ n2_ n3_ n4_; (try clear hb); (try clear hb2); (try clear hk); (try clear hi)))
                                      go_meet
                                      case rel => exact ⟨_, (!t937), (by first | rfl | (simp; done) | (simp [*]; done)), H', ⟨by have := HJ3.out; have := HK2.out; have := HK3.out; have := HK4.out; first | omega | exact Nat.le_refl _⟩, ⟨by (with_reducible repeat (first | apply Kd.S_alloc | apply Kd.S_drewN | apply Kd.S_drew)); exact HO_8.out⟩, ⟨by (with_reducible repeat (first | apply Kd.R_alloc | apply Kd.R_drewN | apply Kd.R_drew)); exact HO_11.out⟩, ⟨by (with_reducible repeat (first | refine blk_drewN ?_ _ | refine blk_drew ?_ | refine blk_alloc ?_ _)); exact BK918.out⟩, ⟨by (with_reducible repeat (first | refine blk_drewN ?_ _ | refine blk_drew ?_ | refine blk_alloc ?_ _)); exact BK935.out⟩, ⟨by repeat (first | (with_reducible first | exact HB.out | apply below_alloc | apply pw_below_drewN | apply below_drew1 | refine below_set ?_ GE918.out | refine below_set ?_ GE935.out) | exact HB.out)⟩⟩
                                    · replace c31 := Bool.eq_false_iff.mpr c31
                                      subst c31
                                      have H1 : (impl_LendersOf.j4 k4 l1 a2 x8_2 x30_2 x11_3 x38_3 x13_4 x14_4 l0_0 (l0_0.length : Int) x30_2 ((rd_Lsu8 l0_0 x30_2).length : Int) x38_3 l1 (l1.length : Int) x43_4 true ((rd_TimplLoan l1 x43_4).f0.f0) ((rd_TimplLoan l1 x43_4).f0.f1) ((rd_TimplLoan l1 x43_4).f0.f2) ((rd_TimplLoan l1 x43_4).f0.f3) ((rd_TimplLoan l1 x43_4).f1) ((rd_TimplLoan l1 x43_4).f2) ((rd_TimplLoan l1 x43_4).f3)) = some (r1, r2) := by rw [if_neg (show ¬ (false = true) by decide)] at H; exact H
                                      clear H
                                      have H := H1
                                      clear H1
                                      have H' := Aside0.mk H
                                      clear H
                                      have hnb38 := NB935_918.out
                                      have hnc38 := NB918_935.out
                                      have hcz39_0 : w27.cell? ⟨gb935, 0, none⟩ = some (.int .i64 0) := (blk_cell BK935.out 0).trans rfl
                                      have hcz39_1 : w27.cell? ⟨gb935, 1, none⟩ = some (.int .i64 0) := (blk_cell BK935.out 1).trans rfl
                                      have hcz39_2 : w27.cell? ⟨gb935, 2, none⟩ = some (.int .i64 0) := (blk_cell BK935.out 2).trans rfl
                                      have hcz39_3 : w27.cell? ⟨gb935, 3, none⟩ = some (.int .i64 0) := (blk_cell BK935.out 3).trans rfl
                                      have hcz39_4 : w27.cell? ⟨gb935, 4, none⟩ = some (.bool false) := (blk_cell BK935.out 4).trans rfl
                                      have hcz39_5 : w27.cell? ⟨gb935, 5, none⟩ = some (.int .i64 0) := (blk_cell BK935.out 5).trans rfl
                                      have hcz39_6 : w27.cell? ⟨gb935, 6, none⟩ = some (.int .i64 0) := (blk_cell BK935.out 6).trans rfl
                                      have hfz39_0 := blk_frozen BK935.out 0
                                      have hfz39_1 := blk_frozen BK935.out 1
                                      have hfz39_2 := blk_frozen BK935.out 2
                                      have hfz39_3 := blk_frozen BK935.out 3
                                      have hfz39_4 := blk_frozen BK935.out 4
                                      have hfz39_5 := blk_frozen BK935.out 5
                                      have hfz39_6 := blk_frozen BK935.out 6
                                      go_wp2_with (first | ((with_reducible refine gate_callee (f := 94) rfl ?_); refine goesL_ (some 49) rfl rfl Try.func94 (by kernel_rfl) rfl #[.agg #[.int .i64 ((rd_TimplLoan l1 x43_4).f0.f0), .int .i64 ((rd_TimplLoan l1 x43_4).f0.f1), .int .i64 ((rd_TimplLoan l1 x43_4).f0.f2), .int .i64 ((rd_TimplLoan l1 x43_4).f0.f3), .bool ((rd_TimplLoan l1 x43_4).f1), .int .i64 ((rd_TimplLoan l1 x43_4).f2), .int .i64 ((rd_TimplLoan l1 x43_4).f3)], .int .i64 a2] rfl (by (try simp only [List.map_toArray, List.map_cons, List.map_nil]); first | done | rfl | (simp only [List.length_drop, List.length_take]; rfl)) ?_; (with_reducible refine (impl_Loan_held.calls ((rd_TimplLoan l1 x43_4).f0.f0) ((rd_TimplLoan l1 x43_4).f0.f1) ((rd_TimplLoan l1 x43_4).f0.f2) ((rd_TimplLoan l1 x43_4).f0.f3) ((rd_TimplLoan l1 x43_4).f1) ((rd_TimplLoan l1 x43_4).f2) ((rd_TimplLoan l1 x43_4).f3) a2 false _ A30.out).mono ?_); rintro e w40 ⟨rfl, hb⟩; refine ⟨_, rfl, ?_⟩; have n0_ := Aside0.mk (Kd.S_below (by (with_reducible repeat (first | apply Kd.S_alloc | apply Kd.S_drewN | apply Kd.S_drew)); exact (Kd.S_mono (Kd.S_far (p := ⟨gb935, 6, none⟩) (Kd.S_far (p := ⟨gb935, 5, none⟩) (Kd.S_far (p := ⟨gb935, 4, none⟩) (Kd.S_far (p := ⟨gb935, 3, none⟩) (Kd.S_far (p := ⟨gb935, 2, none⟩) (Kd.S_far (p := ⟨gb935, 1, none⟩) (Kd.S_far (p := ⟨gb935, 0, none⟩) (Kd.S_types HO_8.out BK935.out (by decide)) (fun _ hk => hk.2) (.int .i64 ((rd_TimplLoan l1 x43_4).f0.f0))) (fun _ hk => hk.2) (.int .i64 ((rd_TimplLoan l1 x43_4).f0.f1))) (fun _ hk => hk.2) (.int .i64 ((rd_TimplLoan l1 x43_4).f0.f2))) (fun _ hk => hk.2) (.int .i64 ((rd_TimplLoan l1 x43_4).f0.f3))) (fun _ hk => hk.2) (.bool ((rd_TimplLoan l1 x43_4).f1))) (fun _ hk => hk.2) (.int .i64 ((rd_TimplLoan l1 x43_4).f2))) (fun _ hk => hk.2) (.int .i64 ((rd_TimplLoan l1 x43_4).f3))) (fun _ h_ => h_.1))) hb); have n1_ := Aside0.mk (Kd.R_below (by (with_reducible repeat (first | apply Kd.R_alloc | apply Kd.R_drewN | apply Kd.R_drew)); exact (Kd.R_mono (Kd.R_far (p := ⟨gb935, 6, none⟩) (Kd.R_far (p := ⟨gb935, 5, none⟩) (Kd.R_far (p := ⟨gb935, 4, none⟩) (Kd.R_far (p := ⟨gb935, 3, none⟩) (Kd.R_far (p := ⟨gb935, 2, none⟩) (Kd.R_far (p := ⟨gb935, 1, none⟩) (Kd.R_far (p := ⟨gb935, 0, none⟩) (Kd.R_types HO_11.out BK935.out (by decide)) (fun _ hk => hk.2) (.int .i64 ((rd_TimplLoan l1 x43_4).f0.f0))) (fun _ hk => hk.2) (.int .i64 ((rd_TimplLoan l1 x43_4).f0.f1))) (fun _ hk => hk.2) (.int .i64 ((rd_TimplLoan l1 x43_4).f0.f2))) (fun _ hk => hk.2) (.int .i64 ((rd_TimplLoan l1 x43_4).f0.f3))) (fun _ hk => hk.2) (.bool ((rd_TimplLoan l1 x43_4).f1))) (fun _ hk => hk.2) (.int .i64 ((rd_TimplLoan l1 x43_4).f2))) (fun _ hk => hk.2) (.int .i64 ((rd_TimplLoan l1 x43_4).f3))) (fun _ h_ => h_.1))) hb); have n2_ := Aside0.mk (blk_below (g := gb918) (o := .cells #[.slice (some ad924) l0_0.length c0_0] 26 (0, 0)) (by (with_reducible repeat (first | refine blk_drewN ?_ _ | refine blk_drew ?_ | refine blk_alloc ?_ _)); refine blk_far ?_ NB918_935.out _; (with_reducible repeat (first | refine blk_drewN ?_ _ | refine blk_drew ?_ | refine blk_alloc ?_ _)); refine blk_far ?_ NB918_935.out _; (with_reducible repeat (first | refine blk_drewN ?_ _ | refine blk_drew ?_ | refine blk_alloc ?_ _)); refine blk_far ?_ NB918_935.out _; (with_reducible repeat (first | refine blk_drewN ?_ _ | refine blk_drew ?_ | refine blk_alloc ?_ _)); refine blk_far ?_ NB918_935.out _; (with_reducible repeat (first | refine blk_drewN ?_ _ | refine blk_drew ?_ | refine blk_alloc ?_ _)); refine blk_far ?_ NB918_935.out _; (with_reducible repeat (first | refine blk_drewN ?_ _ | refine blk_drew ?_ | refine blk_alloc ?_ _)); refine blk_far ?_ NB918_935.out _; (with_reducible repeat (first | refine blk_drewN ?_ _ | refine blk_drew ?_ | refine blk_alloc ?_ _)); refine blk_far ?_ NB918_935.out _; (with_reducible repeat (first | refine blk_drewN ?_ _ | refine blk_drew ?_ | refine blk_alloc ?_ _)); exact BK918.out) hb); have n3_ := Aside0.mk (blk_below (g := gb935) (o := .cells #[.int .i64 ((rd_TimplLoan l1 x43_4).f0.f0), .int .i64 ((rd_TimplLoan l1 x43_4).f0.f1), .int .i64 ((rd_TimplLoan l1 x43_4).f0.f2), .int .i64 ((rd_TimplLoan l1 x43_4).f0.f3), .bool ((rd_TimplLoan l1 x43_4).f1), .int .i64 ((rd_TimplLoan l1 x43_4).f2), .int .i64 ((rd_TimplLoan l1 x43_4).f3)] 30 (0, 0)) (by (with_reducible repeat (first | refine blk_drewN ?_ _ | refine blk_drew ?_ | refine blk_alloc ?_ _)); refine blk_put (cs := #[.int .i64 ((rd_TimplLoan l1 x43_4).f0.f0), .int .i64 ((rd_TimplLoan l1 x43_4).f0.f1), .int .i64 ((rd_TimplLoan l1 x43_4).f0.f2), .int .i64 ((rd_TimplLoan l1 x43_4).f0.f3), .bool ((rd_TimplLoan l1 x43_4).f1), .int .i64 ((rd_TimplLoan l1 x43_4).f2), .int .i64 0]) ?_ 6 _ rfl; (with_reducible repeat (first | refine blk_drewN ?_ _ | refine blk_drew ?_ | refine blk_alloc ?_ _)); refine blk_put (cs := #[.int .i64 ((rd_TimplLoan l1 x43_4).f0.f0), .int .i64 ((rd_TimplLoan l1 x43_4).f0.f1), .int .i64 ((rd_TimplLoan l1 x43_4).f0.f2), .int .i64 ((rd_TimplLoan l1 x43_4).f0.f3), .bool ((rd_TimplLoan l1 x43_4).f1), .int .i64 0, .int .i64 0]) ?_ 5 _ rfl; (with_reducible repeat (first | refine blk_drewN ?_ _ | refine blk_drew ?_ | refine blk_alloc ?_ _)); refine blk_put (cs := #[.int .i64 ((rd_TimplLoan l1 x43_4).f0.f0), .int .i64 ((rd_TimplLoan l1 x43_4).f0.f1), .int .i64 ((rd_TimplLoan l1 x43_4).f0.f2), .int .i64 ((rd_TimplLoan l1 x43_4).f0.f3), .bool false, .int .i64 0, .int .i64 0]) ?_ 4 _ rfl; (with_reducible repeat (first | refine blk_drewN ?_ _ | refine blk_drew ?_ | refine blk_alloc ?_ _)); refine blk_put (cs := #[.int .i64 ((rd_TimplLoan l1 x43_4).f0.f0), .int .i64 ((rd_TimplLoan l1 x43_4).f0.f1), .int .i64 ((rd_TimplLoan l1 x43_4).f0.f2), .int .i64 0, .bool false, .int .i64 0, .int .i64 0]) ?_ 3 _ rfl; (with_reducible repeat (first | refine blk_drewN ?_ _ | refine blk_drew ?_ | refine blk_alloc ?_ _)); refine blk_put (cs := #[.int .i64 ((rd_TimplLoan l1 x43_4).f0.f0), .int .i64 ((rd_TimplLoan l1 x43_4).f0.f1), .int .i64 0, .int .i64 0, .bool false, .int .i64 0, .int .i64 0]) ?_ 2 _ rfl; (with_reducible repeat (first | refine blk_drewN ?_ _ | refine blk_drew ?_ | refine blk_alloc ?_ _)); refine blk_put (cs := #[.int .i64 ((rd_TimplLoan l1 x43_4).f0.f0), .int .i64 0, .int .i64 0, .int .i64 0, .bool false, .int .i64 0, .int .i64 0]) ?_ 1 _ rfl; (with_reducible repeat (first | refine blk_drewN ?_ _ | refine blk_drew ?_ | refine blk_alloc ?_ _)); refine blk_put (cs := #[.int .i64 0, .int .i64 0, .int .i64 0, .int .i64 0, .bool false, .int .i64 0, .int .i64 0]) ?_ 0 _ rfl; (with_reducible repeat (first | refine blk_drewN ?_ _ | refine blk_drew ?_ | refine blk_alloc ?_ _)); exact BK935.out) hb); have n4_ := Aside0.mk (below_step (by repeat (first | (with_reducible first | exact HB.out | apply below_alloc | apply pw_below_drewN | apply below_drew1 | refine below_set ?_ GE918.out | refine below_set ?_ GE935.out) | exact HB.out)) hb); clear HO_8; clear HO_11; clear BK918; clear BK935; clear HB; have HO_8 := n0_; have HO_11 := n1_; have BK918 := n2_; have BK935 := n3_; have HB := n4_; clear n0_ n1_ n2_ n3_ n4_; (try clear hb); (try clear hb2); (try clear hk); (try clear hi)))
                                      go_meet
                                      case rel => exact ⟨_, (true), (by first | rfl | (simp; done) | (simp [*]; done)), H', ⟨by have := HJ3.out; have := HK2.out; have := HK3.out; have := HK4.out; first | omega | exact Nat.le_refl _⟩, ⟨by (with_reducible repeat (first | apply Kd.S_alloc | apply Kd.S_drewN | apply Kd.S_drew)); exact HO_8.out⟩, ⟨by (with_reducible repeat (first | apply Kd.R_alloc | apply Kd.R_drewN | apply Kd.R_drew)); exact HO_11.out⟩, ⟨by (with_reducible repeat (first | refine blk_drewN ?_ _ | refine blk_drew ?_ | refine blk_alloc ?_ _)); exact BK918.out⟩, ⟨by (with_reducible repeat (first | refine blk_drewN ?_ _ | refine blk_drew ?_ | refine blk_alloc ?_ _)); exact BK935.out⟩, ⟨by repeat (first | (with_reducible first | exact HB.out | apply below_alloc | apply pw_below_drewN | apply below_drew1 | refine below_set ?_ GE918.out | refine below_set ?_ GE935.out) | exact HB.out)⟩⟩
                                  case rest =>
                                    clear HC26
                                    try clear c1
                                    try clear c2
                                    try clear p2
                                    try clear c3
                                    try clear c4
                                    try clear c7
                                    try clear c9
                                    try clear p9
                                    try clear q9
                                    try clear hx9
                                    try clear c13
                                    try clear c17
                                    try clear c17b0
                                    try clear c18
                                    try clear c18b0
                                    try clear c19
                                    try clear c19b0
                                    try clear c22
                                    try clear c22b0
                                    try clear c23
                                    try clear c23b0
                                    try clear c24
                                    try clear c24b0
                                    try clear c25
                                    try clear c25b0
                                    try clear c28
                                    try clear c31
                                    try clear c33
                                    try clear c38
                                    try clear hcz11_0
                                    try clear hcz16_0
                                    try clear hcz29_0
                                    try clear hcz29_1
                                    try clear hcz29_2
                                    try clear hcz29_3
                                    try clear hcz29_4
                                    try clear hcz29_5
                                    try clear hcz29_6
                                    try clear hcz34_0
                                    try clear hcz34_1
                                    try clear hcz34_2
                                    try clear hcz34_3
                                    try clear hcz34_4
                                    try clear hcz34_5
                                    try clear hcz34_6
                                    try clear hcz36_0
                                    try clear hcz36_1
                                    try clear hcz36_2
                                    try clear hcz36_3
                                    try clear hcz36_4
                                    try clear hcz36_5
                                    try clear hcz36_6
                                    try clear hcz39_0
                                    try clear hcz39_1
                                    try clear hcz39_2
                                    try clear hcz39_3
                                    try clear hcz39_4
                                    try clear hcz39_5
                                    try clear hcz39_6
                                    try clear hcz9_0
                                    try clear hfz11_0
                                    try clear hfz16_0
                                    try clear hfz29_0
                                    try clear hfz29_1
                                    try clear hfz29_2
                                    try clear hfz29_3
                                    try clear hfz29_4
                                    try clear hfz29_5
                                    try clear hfz29_6
                                    try clear hfz34_0
                                    try clear hfz34_1
                                    try clear hfz34_2
                                    try clear hfz34_3
                                    try clear hfz34_4
                                    try clear hfz34_5
                                    try clear hfz34_6
                                    try clear hfz36_0
                                    try clear hfz36_1
                                    try clear hfz36_2
                                    try clear hfz36_3
                                    try clear hfz36_4
                                    try clear hfz36_5
                                    try clear hfz36_6
                                    try clear hfz39_0
                                    try clear hfz39_1
                                    try clear hfz39_2
                                    try clear hfz39_3
                                    try clear hfz39_4
                                    try clear hfz39_5
                                    try clear hfz39_6
                                    try clear hfz9_0
                                    try clear hx924_0
                                    try clear hx934_0
                                    try clear hx934_1
                                    try clear hx934_2
                                    try clear hx934_3
                                    try clear hx934_4
                                    try clear hx934_5
                                    try clear hx934_6
                                    try clear p2
                                    try clear p9
                                    try clear p924
                                    try clear p934
                                    try clear q9
                                    try clear q924
                                    try clear q934
                                    obtain ⟨kq, x58_25, rfl, HA, HJ25, HO_8, HO_11, BK918, BK935, HB⟩ := hcut
                                    cases kq with
                                    | zero => exact absurd HA.out (by simp [impl_LendersOf.j4])
                                    | succ kj25 =>
                                      have H := HA.out
                                      clear HA
                                      simp only [impl_LendersOf.j4] at H
                                      by_cases c41 : x58_25 = true
                                      · subst c41
                                        have H1 : (impl_LendersOf.l2 kj25 l1 a2 x8_2 x30_2 x11_3 x38_3 x13_4 x14_4 l0_0 (l0_0.length : Int) x30_2 ((rd_Lsu8 l0_0 x30_2).length : Int) x38_3 l1 (l1.length : Int) (wrap64 (x43_4 + 1))) = some (r1, r2) := by rw [if_pos rfl] at H; exact H
                                        clear H
                                        have H := H1
                                        clear H1
                                        have H' := Aside0.mk H
                                        clear H
                                        go_wp2
                                        go_roundg kj25
                                        case measure => have := HJ3.out; have := HK2.out; have := HK3.out; have := HK4.out; have := HJ25.out; omega
                                        case rel => exact ⟨(x13_4), (x14_4), (wrap64 (x43_4 + 1)), (by first | rfl | (simp; done) | (simp [*]; done)), (by first | rfl | (simp; done) | (simp [*]; done)), (by first | rfl | (simp; done) | (simp [*]; done)), H', ⟨by have := HJ3.out; have := HK2.out; have := HK3.out; have := HK4.out; have := HJ25.out; omega⟩, ⟨by (with_reducible repeat (first | apply Kd.S_alloc | apply Kd.S_drewN | apply Kd.S_drew)); exact HO_8.out⟩, ⟨by (with_reducible repeat (first | apply Kd.R_alloc | apply Kd.R_drewN | apply Kd.R_drew)); exact HO_11.out⟩, ⟨by (with_reducible repeat (first | refine blk_drewN ?_ _ | refine blk_drew ?_ | refine blk_alloc ?_ _)); exact BK918.out⟩, ⟨by repeat (first | (with_reducible first | exact HB.out | apply below_alloc | apply pw_below_drewN | apply below_drew1 | refine below_set ?_ GE918.out | refine below_set ?_ GE935.out) | exact HB.out)⟩⟩
                                      · replace c41 := Bool.eq_false_iff.mpr c41
                                        subst c41
                                        have H1 : (if ((rd_TimplLoan l1 x43_4).f1) = true then (impl_LendersOf.l2 kj25 l1 a2 x8_2 x30_2 x11_3 x38_3 (wrap64 (x13_4 + 1)) (-1) l0_0 (l0_0.length : Int) x30_2 ((rd_Lsu8 l0_0 x30_2).length : Int) x38_3 l1 (l1.length : Int) (wrap64 (x43_4 + 1))) else (impl_LendersOf.l2 kj25 l1 a2 x8_2 x30_2 x11_3 x38_3 (wrap64 (x13_4 + 1)) x14_4 l0_0 (l0_0.length : Int) x30_2 ((rd_Lsu8 l0_0 x30_2).length : Int) x38_3 l1 (l1.length : Int) (wrap64 (x43_4 + 1)))) = some (r1, r2) := by rw [if_neg (show ¬ (false = true) by decide)] at H; exact H
                                        clear H
                                        have H := H1
                                        clear H1
                                        by_cases c42 : ((rd_TimplLoan l1 x43_4).f1) = true
                                        · rw [if_pos c42] at H
                                          have c42b0 : ((rd_TimplLoan l1 x43_4).f1) = true := c42
                                          clear c42
                                          have H' := Aside0.mk H
                                          clear H
                                          have hnb43 := NB935_918.out
                                          have hnc43 := NB918_935.out
                                          have hcz44_0 : wc.cell? ⟨gb935, 0, none⟩ = some (.int .i64 ((rd_TimplLoan l1 x43_4).f0.f0)) := (blk_cell BK935.out 0).trans rfl
                                          have hcz44_1 : wc.cell? ⟨gb935, 1, none⟩ = some (.int .i64 ((rd_TimplLoan l1 x43_4).f0.f1)) := (blk_cell BK935.out 1).trans rfl
                                          have hcz44_2 : wc.cell? ⟨gb935, 2, none⟩ = some (.int .i64 ((rd_TimplLoan l1 x43_4).f0.f2)) := (blk_cell BK935.out 2).trans rfl
                                          have hcz44_3 : wc.cell? ⟨gb935, 3, none⟩ = some (.int .i64 ((rd_TimplLoan l1 x43_4).f0.f3)) := (blk_cell BK935.out 3).trans rfl
                                          have hcz44_4 : wc.cell? ⟨gb935, 4, none⟩ = some (.bool ((rd_TimplLoan l1 x43_4).f1)) := (blk_cell BK935.out 4).trans rfl
                                          have hcz44_5 : wc.cell? ⟨gb935, 5, none⟩ = some (.int .i64 ((rd_TimplLoan l1 x43_4).f2)) := (blk_cell BK935.out 5).trans rfl
                                          have hcz44_6 : wc.cell? ⟨gb935, 6, none⟩ = some (.int .i64 ((rd_TimplLoan l1 x43_4).f3)) := (blk_cell BK935.out 6).trans rfl
                                          have hfz44_0 := blk_frozen BK935.out 0
                                          have hfz44_1 := blk_frozen BK935.out 1
                                          have hfz44_2 := blk_frozen BK935.out 2
                                          have hfz44_3 := blk_frozen BK935.out 3
                                          have hfz44_4 := blk_frozen BK935.out 4
                                          have hfz44_5 := blk_frozen BK935.out 5
                                          have hfz44_6 := blk_frozen BK935.out 6
                                          go_wp2
                                          go_roundg kj25
                                          case measure => have := HJ3.out; have := HK2.out; have := HK3.out; have := HK4.out; have := HJ25.out; omega
                                          case rel => exact ⟨(wrap64 (x13_4 + 1)), ((-1)), (wrap64 (x43_4 + 1)), (by first | rfl | (simp; done) | (simp [*]; done)), (by first | rfl | (simp; done) | (simp [*]; done)), (by first | rfl | (simp; done) | (simp [*]; done)), H', ⟨by have := HJ3.out; have := HK2.out; have := HK3.out; have := HK4.out; have := HJ25.out; omega⟩, ⟨by (with_reducible repeat (first | apply Kd.S_alloc | apply Kd.S_drewN | apply Kd.S_drew)); exact HO_8.out⟩, ⟨by (with_reducible repeat (first | apply Kd.R_alloc | apply Kd.R_drewN | apply Kd.R_drew)); exact HO_11.out⟩, ⟨by (with_reducible repeat (first | refine blk_drewN ?_ _ | refine blk_drew ?_ | refine blk_alloc ?_ _)); exact BK918.out⟩, ⟨by repeat (first | (with_reducible first | exact HB.out | apply below_alloc | apply pw_below_drewN | apply below_drew1 | refine below_set ?_ GE918.out | refine below_set ?_ GE935.out) | exact HB.out)⟩⟩
                                        · rw [if_neg c42] at H
                                          have c42b0 : ((rd_TimplLoan l1 x43_4).f1) = false := by simpa using c42
                                          clear c42
                                          have H' := Aside0.mk H
                                          clear H
                                          have hnb45 := NB935_918.out
                                          have hnc45 := NB918_935.out
                                          have hcz46_0 : wc.cell? ⟨gb935, 0, none⟩ = some (.int .i64 ((rd_TimplLoan l1 x43_4).f0.f0)) := (blk_cell BK935.out 0).trans rfl
                                          have hcz46_1 : wc.cell? ⟨gb935, 1, none⟩ = some (.int .i64 ((rd_TimplLoan l1 x43_4).f0.f1)) := (blk_cell BK935.out 1).trans rfl
                                          have hcz46_2 : wc.cell? ⟨gb935, 2, none⟩ = some (.int .i64 ((rd_TimplLoan l1 x43_4).f0.f2)) := (blk_cell BK935.out 2).trans rfl
                                          have hcz46_3 : wc.cell? ⟨gb935, 3, none⟩ = some (.int .i64 ((rd_TimplLoan l1 x43_4).f0.f3)) := (blk_cell BK935.out 3).trans rfl
                                          have hcz46_4 : wc.cell? ⟨gb935, 4, none⟩ = some (.bool ((rd_TimplLoan l1 x43_4).f1)) := (blk_cell BK935.out 4).trans rfl
                                          have hcz46_5 : wc.cell? ⟨gb935, 5, none⟩ = some (.int .i64 ((rd_TimplLoan l1 x43_4).f2)) := (blk_cell BK935.out 5).trans rfl
                                          have hcz46_6 : wc.cell? ⟨gb935, 6, none⟩ = some (.int .i64 ((rd_TimplLoan l1 x43_4).f3)) := (blk_cell BK935.out 6).trans rfl
                                          have hfz46_0 := blk_frozen BK935.out 0
                                          have hfz46_1 := blk_frozen BK935.out 1
                                          have hfz46_2 := blk_frozen BK935.out 2
                                          have hfz46_3 := blk_frozen BK935.out 3
                                          have hfz46_4 := blk_frozen BK935.out 4
                                          have hfz46_5 := blk_frozen BK935.out 5
                                          have hfz46_6 := blk_frozen BK935.out 6
                                          go_wp2
                                          go_roundg kj25
                                          case measure => have := HJ3.out; have := HK2.out; have := HK3.out; have := HK4.out; have := HJ25.out; omega
                                          case rel => exact ⟨(wrap64 (x13_4 + 1)), (x14_4), (wrap64 (x43_4 + 1)), (by first | rfl | (simp; done) | (simp [*]; done)), (by first | rfl | (simp; done) | (simp [*]; done)), (by first | rfl | (simp; done) | (simp [*]; done)), H', ⟨by have := HJ3.out; have := HK2.out; have := HK3.out; have := HK4.out; have := HJ25.out; omega⟩, ⟨by (with_reducible repeat (first | apply Kd.S_alloc | apply Kd.S_drewN | apply Kd.S_drew)); exact HO_8.out⟩, ⟨by (with_reducible repeat (first | apply Kd.R_alloc | apply Kd.R_drewN | apply Kd.R_drew)); exact HO_11.out⟩, ⟨by (with_reducible repeat (first | refine blk_drewN ?_ _ | refine blk_drew ?_ | refine blk_alloc ?_ _)); exact BK918.out⟩, ⟨by repeat (first | (with_reducible first | exact HB.out | apply below_alloc | apply pw_below_drewN | apply below_drew1 | refine below_set ?_ GE918.out | refine below_set ?_ GE935.out) | exact HB.out)⟩⟩
                                · rw [if_neg c25] at H
                                  exact absurd H (by simp)
                              · rw [if_neg c24] at H
                                exact absurd H (by simp)
                            · rw [if_neg c23] at H
                              have c23b0 : decide (x43_4 < (l1.length : Int)) = false := decide_eq_false c23
                              clear c23
                              by_cases c47 : x11_3.length < 17592186044416
                              · rw [if_pos c47] at H
                                have LMc47 := Aside0.mk c47
                                clear c47
                                obtain ⟨y931, hy931⟩ : ∃ y_ : List Int, y_ = (x11_3 ++ [wrap64 (x13_4 * x14_4)]) := ⟨_, rfl⟩
                                replace H : (impl_LendersOf.l1 k4 l1 a2 x8_2 x30_2 y931 l0_0 (l0_0.length : Int) x30_2 ((rd_Lsu8 l0_0 x30_2).length : Int) (wrap64 (x38_3 + 1))) = some (r1, r2) := by first | (rw [hy931]; with_reducible exact H) | (have H2_ := (Option.bind_some _ _).symm.trans H; rw [hy931]; with_reducible exact H2_) | (have H2_ := (Option.bind_some _ _).symm.trans H; with_reducible exact H2_) | with_reducible exact H | (rw [hy931]; exact H) | exact H
                                have Ny931 := Aside0.mk hy931
                                clear hy931
                                have H' := Aside0.mk H
                                clear H
                                go_wp2_with (first | ((with_reducible refine gate_builtin (b := .append) (xs := #[.tmp 64, .tmp 68]) rfl ?_); at_builtin; refine Kd.R_append (Kd.int .i64) (w0 := w) w.heap.size rfl (.tmp 64) (.tmp 68) 66 3 (.int .i64 0) 8 rfl Try.underlying66 info3 rfl (by decide) (by omega) u11 x11_3 (wrap64 (x13_4 * x14_4)) [.int .i64 (wrap64 (x13_4 * x14_4))] (fun _ => True) (fun _ => False) rfl rfl ?aP (fun _ hk => hk.elim) ?aF ?aO ?aB ?aS ?aL ?_; (case aP => exact rfl); (case aB => exact (by repeat (first | (with_reducible first | exact HB.out | apply below_alloc | apply pw_below_drewN | apply below_drew1 | refine below_set ?_ GE918.out) | exact HB.out))); (case aF => exact (fun _ _ => trivial)); (case aO => exact (by (with_reducible repeat (first | apply Kd.R_alloc | apply Kd.R_drewN | apply Kd.R_drew)); exact HO_11.out)); (case aS => exact (below_size (by repeat (first | (with_reducible first | exact HB.out | apply below_alloc | apply pw_below_drewN | apply below_drew1 | refine below_set ?_ GE918.out) | exact HB.out)))); (case aL => have := LMc47.out; omega); intro v932 w48 ho hb hg hat; rw [← Ny931.out] at ho; have n0_ := Aside0.mk (Kd.S_after (ok := (fun _ => True)) (by (with_reducible repeat (first | apply Kd.S_alloc | apply Kd.S_drewN | apply Kd.S_drew)); exact Kd.S_mono HO_8.out (fun _ hk => ⟨trivial, hk⟩)) hg hat); have n1_ := Aside0.mk (blk_grown (g := gb918) (o := .cells #[.slice (some ad924) l0_0.length c0_0] 26 (0, 0)) (by (with_reducible repeat (first | refine blk_drewN ?_ _ | refine blk_drew ?_ | refine blk_alloc ?_ _)); exact BK918.out) hg (Kd.R_ne HO_11.out BK918.out (by decide))); have n2_ := Aside0.mk (hb); have n3_ := Aside0.mk (ho); clear HO_8; clear BK918; clear HB; clear HO_11; have HO_8 := n0_; have BK918 := n1_; have HB := n2_; have HO933 := n3_; clear n0_ n1_ n2_ n3_; clear ho hb hg hat))
                                go_roundg k4
                                case measure => have := HJ3.out; have := HK2.out; have := HK3.out; have := HK4.out; omega
                                case rel => exact ⟨(y931), (wrap64 (x38_3 + 1)), (by first | rfl | (simp; done) | (simp [*]; done)), H', ⟨by have := HJ3.out; have := HK2.out; have := HK3.out; have := HK4.out; omega⟩, ⟨by (with_reducible repeat (first | apply Kd.S_alloc | apply Kd.S_drewN | apply Kd.S_drew)); exact Kd.S_mono HO_8.out (fun _ hk => hk.2)⟩, ⟨by (with_reducible repeat (first | apply Kd.R_alloc | apply Kd.R_drewN | apply Kd.R_drew)); exact HO933.out⟩, ⟨by (with_reducible repeat (first | refine blk_drewN ?_ _ | refine blk_drew ?_ | refine blk_alloc ?_ _)); exact BK918.out⟩, ⟨by repeat (first | (with_reducible first | exact HB.out | apply below_alloc | apply pw_below_drewN | apply below_drew1 | refine below_set ?_ GE918.out) | exact HB.out)⟩⟩
                              · rw [if_neg c47] at H
                                exact absurd H (by simp)
                      · rw [if_neg c22] at H
                        have c22b0 : decide (x38_3 < ((rd_Lsu8 l0_0 x30_2).length : Int)) = false := decide_eq_false c22
                        clear c22
                        by_cases c49 : x8_2.length < 5864062014805
                        · rw [if_pos c49] at H
                          have LMc49 := Aside0.mk c49
                          clear c49
                          obtain ⟨y928, hy928⟩ : ∃ y_ : List (List Int), y_ = (x8_2 ++ [x11_3]) := ⟨_, rfl⟩
                          replace H : (impl_LendersOf.l0 k3 l1 a2 y928 l0_0 (l0_0.length : Int) (wrap64 (x30_2 + 1))) = some (r1, r2) := by first | (rw [hy928]; with_reducible exact H) | (have H2_ := (Option.bind_some _ _).symm.trans H; rw [hy928]; with_reducible exact H2_) | (have H2_ := (Option.bind_some _ _).symm.trans H; with_reducible exact H2_) | with_reducible exact H | (rw [hy928]; exact H) | exact H
                          have Ny928 := Aside0.mk hy928
                          clear hy928
                          have H' := Aside0.mk H
                          clear H
                          obtain ⟨Ao51, co51, eo51⟩ := Kd.R_slice HO_11.out
                          subst eo51
                          go_wp2_with (first | ((with_reducible refine gate_builtin (b := .append) (xs := #[.tmp 71, .tmp 73]) rfl ?_); at_builtin; refine Kd.S_append (Kd.slice 3 (Kd.int .i64)) (w0 := w) w.heap.size rfl (.tmp 71) (.tmp 73) 79 66 (.slice none 0 0) 24 rfl Try.underlying79 info66 rfl (by decide) (by omega) u8 x8_2 x11_3 [.slice Ao51 x11_3.length co51] (fun _ => True) (fun k_ => some k_ = (.slice Ao51 x11_3.length co51 : Value).ownBlock) rfl rfl ?aP (fun k_ hk_ => ((Kd.R_mono (ok' := fun k_ => ((fun _ => True)) k_ ∧ some k_ ≠ (u8 : Value).ownBlock) (Kd.R_apart' (HO_11.out) (Kd.S_typed HO_8.out) (by decide)) (fun k_ hk => ⟨trivial, hk.2⟩))).1 k_ hk_.symm) ?aF ?aO ?aB ?aS ?aL ?_; (case aP => exact Kd.M_row (Kd.R_mono (Kd.R_tight rfl (Kd.R_mono (ok' := fun k_ => ((fun _ => True)) k_ ∧ some k_ ≠ (u8 : Value).ownBlock) (Kd.R_apart' (HO_11.out) (Kd.S_typed HO_8.out) (by decide)) (fun k_ hk => ⟨trivial, hk.2⟩))) (fun _ h_ => h_))); (case aB => exact (by repeat (first | (with_reducible first | exact HB.out | apply below_alloc | apply pw_below_drewN | apply below_drew1 | refine below_set ?_ GE918.out) | exact HB.out))); (case aF => exact (fun _ _ => trivial)); (case aO => exact (by (with_reducible repeat (first | apply Kd.S_alloc | apply Kd.S_drewN | apply Kd.S_drew)); exact Kd.S_mono HO_8.out (fun k_ hk => ⟨trivial, fun e_ => hk e_⟩))); (case aS => exact (below_size (by repeat (first | (with_reducible first | exact HB.out | apply below_alloc | apply pw_below_drewN | apply below_drew1 | refine below_set ?_ GE918.out) | exact HB.out)))); (case aL => have := LMc49.out; omega); intro v929 w50 ho hb hg hat; rw [← Ny928.out] at ho; have n0_ := Aside0.mk (blk_grown (g := gb918) (o := .cells #[.slice (some ad924) l0_0.length c0_0] 26 (0, 0)) (by (with_reducible repeat (first | refine blk_drewN ?_ _ | refine blk_drew ?_ | refine blk_alloc ?_ _)); exact BK918.out) hg (Kd.S_ne HO_8.out BK918.out (by decide))); have n1_ := Aside0.mk (hb); have n2_ := Aside0.mk (ho); clear BK918; clear HB; clear HO_8; clear HO_11; have BK918 := n0_; have HB := n1_; have HO930 := n2_; clear n0_ n1_ n2_; clear ho hb hg hat))
                          go_roundg k3
                          case measure => have := HJ3.out; have := HK2.out; have := HK3.out; omega
                          case rel => exact ⟨(y928), (wrap64 (x30_2 + 1)), (by first | rfl | (simp; done) | (simp [*]; done)), H', ⟨by have := HJ3.out; have := HK2.out; have := HK3.out; omega⟩, ⟨by (with_reducible repeat (first | apply Kd.S_alloc | apply Kd.S_drewN | apply Kd.S_drew)); exact HO930.out⟩, ⟨by (with_reducible repeat (first | refine blk_drewN ?_ _ | refine blk_drew ?_ | refine blk_alloc ?_ _)); exact BK918.out⟩, ⟨by repeat (first | (with_reducible first | exact HB.out | apply below_alloc | apply pw_below_drewN | apply below_drew1 | refine below_set ?_ GE918.out) | exact HB.out)⟩⟩
                        · rw [if_neg c49] at H
                          exact absurd H (by simp)
                · rw [if_neg c19] at H
                  exact absurd H (by simp)
              · rw [if_neg c18] at H
                exact absurd H (by simp)
            · rw [if_neg c17] at H
              have c17b0 : decide (x30_2 < (l0_0.length : Int)) = false := decide_eq_false c17
              clear c17
              simp only [Option.some.injEq, Prod.mk.injEq] at H
              obtain ⟨rfl, rfl⟩ := H
              go_wp2
              go_ret2
              exact ⟨_, by first | rfl | (simp [errW_none, errW_some] <;> rfl) | (simp [*, errW_none, errW_some] <;> rfl), by (with_reducible repeat (first | apply Kd.S_alloc | apply Kd.S_drewN | apply Kd.S_drew)); exact HO_8.out, by repeat (first | (with_reducible first | exact HB.out | apply below_alloc | apply pw_below_drewN | apply below_drew1 | refine below_set ?_ GE918.out) | exact HB.out)⟩

end Go.Proofs.Ytpbboooeahmgpaa.P


namespace Go.Proofs.Ytpbboooeahmgpaa.P
open Go.RowKit Go.Proofs.YtpbboooeahmgpaaW.PrintWords Go.Proofs.YtpbboooeahmgpaaW.PrintLast Go.Proofs.YtpbboooeahmgpaaW.PrintMore
attribute [local go_sem] max2_int min2_int max_two min_two max_three min_three max_four min_four   -- for this text's walks alone
set_option linter.unusedVariables false
set_option linter.unusedSimpArgs false

/-! ### spec_l10Sees: function 100 -/
def spec_l10Sees.f (a0_0 : Int) (a0_1 : Int) (a0_2 : Int) (a0_3 : Int) (a1 : Int) : Option (Bool) := (spec_l1In.f a1 a0_1 (wrap64 ((wrap64 (a0_1 + a0_2)) - 1))).bind fun t893 => (some t893)
set_option maxHeartbeats 8000000 in
set_option maxRecDepth 100000 in
theorem spec_l10Sees.calls (a0_0 : Int) (a0_1 : Int) (a0_2 : Int) (a0_3 : Int) (a1 : Int) (r : Bool) (w : World) (h : spec_l10Sees.f a0_0 a0_1 a0_2 a0_3 a1 = some r) :
    Calls Try.prog 100 #[.agg #[.int .i64 a0_0, .int .i64 a0_1, .int .i64 a0_2, .int .i64 a0_3], .int .i64 a1] w fun e w' => e = .returned (.bool r) ∧ Below w.heap.size w w' := by
  have hu28 := Try.underlying28
  have HB := Aside0.mk (Below.refl w.heap.size w)
  have H : ((spec_l1In.f a1 a0_1 (wrap64 ((wrap64 (a0_1 + a0_2)) - 1))).bind fun t893 => (some t893)) = some r := h
  clear h
  replace H := Option.bind_eq_some_iff.mp H
  obtain ⟨t893, A30, H⟩ := H
  replace H : (some t893) = some r := H
  have A3 := Aside0.mk A30
  clear A30
  obtain rfl := Option.some.inj H
  go_enter Try.func100, Try.ntmps100
  go_wp2_with (first | ((with_reducible refine gate_dst (N := 2) rfl ?_); refine box_event ?hg (N := 2) ?hd (cs := #[.int .i64 a0_0, .int .i64 a0_1, .int .i64 a0_2, .int .i64 a0_3]) (t := 28) ?hr ?_; (case hd => rfl); (case hg => rfl); (case hr => first | (go_simp; done) | (go_simp; rfl)); intro gb892 hg w4 hbox hb; have n0_ := Aside0.mk (below_step (by repeat (first | (with_reducible first | exact HB.out | apply below_alloc | apply pw_below_drewN | apply below_drew1) | exact HB.out)) hb); have n1_ := Aside0.mk (hbox); have n2_ := Aside0.mk ((by rw [hg]; exact (below_size (by repeat (first | (with_reducible first | exact HB.out | apply below_alloc | apply pw_below_drewN | apply below_drew1) | exact HB.out))) : w.heap.size ≤ gb892)); have n3_ := Aside0.mk ((by rw [hg]; exact (below_size (by repeat (first | (with_reducible first | exact HB.out | apply below_alloc | apply pw_below_drewN | apply below_drew1) | exact HB.out))) : w.heap.size ≤ gb892)); clear HB; have HB := n0_; have BK892 := n1_; have GW892 := n2_; have GE892 := n3_; clear n0_ n1_ n2_ n3_; clear hb hbox hg; have hcz5_0 : w4.cell? ⟨gb892, 0, none⟩ = some (.int .i64 a0_0) := (blk_cell BK892.out 0).trans rfl; have hcz5_1 : w4.cell? ⟨gb892, 1, none⟩ = some (.int .i64 a0_1) := (blk_cell BK892.out 1).trans rfl; have hcz5_2 : w4.cell? ⟨gb892, 2, none⟩ = some (.int .i64 a0_2) := (blk_cell BK892.out 2).trans rfl; have hcz5_3 : w4.cell? ⟨gb892, 3, none⟩ = some (.int .i64 a0_3) := (blk_cell BK892.out 3).trans rfl; have hfz5_0 := blk_frozen BK892.out 0; have hfz5_1 := blk_frozen BK892.out 1; have hfz5_2 := blk_frozen BK892.out 2; have hfz5_3 := blk_frozen BK892.out 3) | ((with_reducible refine gate_callee (f := 71) rfl ?_); refine goesL_ (some 14) rfl rfl Try.func71 (by kernel_rfl) rfl #[.int .i64 a1, .int .i64 a0_1, .int .i64 (wrap64 ((wrap64 (a0_1 + a0_2)) - 1))] rfl (by (try simp only [List.map_toArray, List.map_cons, List.map_nil]); first | done | rfl | (simp only [List.length_drop, List.length_take]; rfl)) ?_; (with_reducible refine (spec_l1In.calls a1 a0_1 (wrap64 ((wrap64 (a0_1 + a0_2)) - 1)) t893 _ A3.out).mono ?_); rintro e w' ⟨rfl, ⟨nd, rfl⟩⟩; refine ⟨_, rfl, ?_⟩))
  go_ret
  exact ⟨by first | rfl | (simp [errW_none, errW_some] <;> rfl) | (simp [*, errW_none, errW_some] <;> rfl), by repeat (first | (with_reducible first | exact HB.out | apply below_alloc | apply pw_below_drewN | apply below_drew1 | refine below_set ?_ GE892.out) | exact HB.out)⟩

end Go.Proofs.Ytpbboooeahmgpaa.P


namespace Go.Proofs.Ytpbboooeahmgpaa.P
open Go.RowKit Go.Proofs.YtpbboooeahmgpaaW.PrintWords Go.Proofs.YtpbboooeahmgpaaW.PrintLast Go.Proofs.YtpbboooeahmgpaaW.PrintMore
attribute [local go_sem] max2_int min2_int max_two min_two max_three min_three max_four min_four   -- for this text's walks alone
set_option linter.unusedVariables false
set_option linter.unusedSimpArgs false

/-! ### spec_LendersOf: function 47 -/
mutual
def spec_LendersOf.j0 : Nat → List (SimplLoan) → Int → List (List Int) → Bool → List (List Int) → Option ((List (List Int)) × Bool)
  | 0, _, _, _, _, _ => none
  | k + 1, x1, x2, x8, x24, x895000 => if x24 = true then (some (x8, false)) else (spec_LendersOf.l0 k x1 x2 x8 0 x895000)
def spec_LendersOf.l0 : Nat → List (SimplLoan) → Int → List (List Int) → Int → List (List Int) → Option ((List (List Int)) × Bool)
  | 0, _, _, _, _, _ => none
  | k + 1, x1, x2, x8, x9, x895000 => if x9 < (x895000.length : Int) then (spec_LendersOf.l1 k x1 x2 x8 x9 (([] : List Int)) 0 x895000) else (some (x8, true))
def spec_LendersOf.l1 : Nat → List (SimplLoan) → Int → List (List Int) → Int → List Int → Int → List (List Int) → Option ((List (List Int)) × Bool)
  | 0, _, _, _, _, _, _, _ => none
  | k + 1, x1, x2, x8, x9, x10, x11, x895000 => if 0 ≤ x9 then (if x9 < (x895000.length : Int) then (if x11 < ((rd_Lsu8 x895000 x9).length : Int) then (spec_LendersOf.l2 k x1 x2 x8 x9 x10 x11 0 1 0 x895000) else (if x8.length < 5864062014805 then (spec_LendersOf.l0 k x1 x2 (x8 ++ [x10]) (wrap64 (x9 + 1)) x895000) else (none))) else (none)) else (none)
def spec_LendersOf.l2 : Nat → List (SimplLoan) → Int → List (List Int) → Int → List Int → Int → Int → Int → Int → List (List Int) → Option ((List (List Int)) × Bool)
  | 0, _, _, _, _, _, _, _, _, _, _ => none
  | k + 1, x1, x2, x8, x9, x10, x11, x12, x13, x14, x895000 => if x14 < (x1.length : Int) then (if 0 ≤ x14 then (if ((rd_TimplLoan x1 x14).f0.f0) = x9 then ((spec_l10Sees.f ((rd_TimplLoan x1 x14).f0.f0) ((rd_TimplLoan x1 x14).f0.f1) ((rd_TimplLoan x1 x14).f0.f2) ((rd_TimplLoan x1 x14).f0.f3) x11).bind fun t912 => (if t912 = true then ((spec_l10Held.f ((rd_TimplLoan x1 x14).f0.f0) ((rd_TimplLoan x1 x14).f0.f1) ((rd_TimplLoan x1 x14).f0.f2) ((rd_TimplLoan x1 x14).f0.f3) ((rd_TimplLoan x1 x14).f1) ((rd_TimplLoan x1 x14).f2) ((rd_TimplLoan x1 x14).f3) x2).bind fun t914 => (spec_LendersOf.j4 k x1 x2 x8 x9 x10 x11 x12 x13 x14 t914 x895000)) else (spec_LendersOf.j4 k x1 x2 x8 x9 x10 x11 x12 x13 x14 false x895000))) else (spec_LendersOf.j4 k x1 x2 x8 x9 x10 x11 x12 x13 x14 false x895000)) else (none)) else (if x10.length < 17592186044416 then (spec_LendersOf.l1 k x1 x2 x8 x9 (x10 ++ [wrap64 (x13 * x12)]) (wrap64 (x11 + 1)) x895000) else (none))
def spec_LendersOf.j4 : Nat → List (SimplLoan) → Int → List (List Int) → Int → List Int → Int → Int → Int → Int → Bool → List (List Int) → Option ((List (List Int)) × Bool)
  | 0, _, _, _, _, _, _, _, _, _, _, _ => none
  | k + 1, x1, x2, x8, x9, x10, x11, x12, x13, x14, x74, x895000 => if x74 = true then (if 0 ≤ x14 then (if x14 < (x1.length : Int) then (if (rd_TimplLoan x1 x14).f1 = true then (spec_LendersOf.l2 k x1 x2 x8 x9 x10 x11 (wrap64 (x12 + 1)) (-1) (wrap64 (x14 + 1)) x895000) else (spec_LendersOf.l2 k x1 x2 x8 x9 x10 x11 (wrap64 (x12 + 1)) x13 (wrap64 (x14 + 1)) x895000)) else (none)) else (none)) else (spec_LendersOf.l2 k x1 x2 x8 x9 x10 x11 x12 x13 (wrap64 (x14 + 1)) x895000)
end
def spec_LendersOf.f (k : Nat) (l0_0 : List (List Int)) (l1 : List (SimplLoan)) (a2 : Int) : Option ((List (List Int)) × Bool) := (some (([] : List (List Int)) : List (List Int))).bind fun y895 => ((spec_l10Loans.f k l0_0 l1).bind fun t898 => (if t898 = true then ((spec_l1In.f a2 0 60).bind fun t899 => (spec_LendersOf.j0 k l1 a2 y895 (!t899) l0_0)) else (spec_LendersOf.j0 k l1 a2 y895 true l0_0)))
set_option maxHeartbeats 8000000 in
set_option maxRecDepth 100000 in
theorem spec_LendersOf.calls (k : Nat) (A0_0 : Option Addr) (c0_0 : Nat) (l0_0 : List (List Int)) (A1 : Option Addr) (c1 : Nat) (l1 : List (SimplLoan)) (a2 : Int) (r1 : List (List Int)) (r2 : Bool) (w : World) (hr0_0 : Kd.C (Kd.slice 5 (Kd.int .u8)) w A0_0 l0_0.length l0_0) (hc0_0 : l0_0.length ≤ c0_0) (hr1 : Kd.C kimplLoan w A1 l1.length l1) (hc1 : l1.length ≤ c1) (h : spec_LendersOf.f k l0_0 l1 a2 = some (r1, r2)) :
    Calls Try.prog 47 #[.agg #[.slice A0_0 l0_0.length c0_0], .slice A1 l1.length c1, .int .i64 a2] w fun e w' => ∃ v0_ : Value, e = .returned (.tuple #[v0_, .bool r2]) ∧ Kd.S (Kd.slice 3 (Kd.int .i64)) 66 w' w.heap.size (fun _ => True) v0_ r1 ∧ Below w.heap.size w w' := by
  have hu26 := Try.underlying26
  have hu28 := Try.underlying28
  have hu30 := Try.underlying30
  have HR0_0 := Aside0.mk hr0_0
  have HC0_0 := Aside0.mk hc0_0
  clear hr0_0 hc0_0
  have HR1 := Aside0.mk hr1
  have HC1 := Aside0.mk hc1
  clear hr1 hc1
  have HB := Aside0.mk (Below.refl w.heap.size w)
  have H : ((some (([] : List (List Int)) : List (List Int))).bind fun y895 => ((spec_l10Loans.f k l0_0 l1).bind fun t898 => (if t898 = true then ((spec_l1In.f a2 0 60).bind fun t899 => (spec_LendersOf.j0 k l1 a2 y895 (!t899) l0_0)) else (spec_LendersOf.j0 k l1 a2 y895 true l0_0)))) = some (r1, r2) := h
  clear h
  obtain ⟨y895, hy895⟩ : ∃ y_ : List (List Int), y_ = (([] : List (List Int))) := ⟨_, rfl⟩
  replace H : ((spec_l10Loans.f k l0_0 l1).bind fun t898 => (if t898 = true then ((spec_l1In.f a2 0 60).bind fun t899 => (spec_LendersOf.j0 k l1 a2 y895 (!t899) l0_0)) else (spec_LendersOf.j0 k l1 a2 y895 true l0_0))) = some (r1, r2) := by first | (rw [hy895]; with_reducible exact H) | (have H2_ := (Option.bind_some _ _).symm.trans H; rw [hy895]; with_reducible exact H2_) | (have H2_ := (Option.bind_some _ _).symm.trans H; with_reducible exact H2_) | with_reducible exact H | (rw [hy895]; exact H) | exact H
  have Ny895 := Aside0.mk hy895
  clear hy895
  have HC4 := Aside0.mk H
  clear H
  go_enter Try.func47, Try.ntmps47
  go_upto_region 2 with (first | ((with_reducible refine gate_dst (N := 3) rfl ?_); refine box_event ?hg (N := 3) ?hd (cs := #[.slice A0_0 l0_0.length c0_0]) (t := 26) ?hr ?_; (case hd => rfl); (case hg => rfl); (case hr => first | (go_simp; done) | (go_simp; rfl)); intro gb894 hg w5 hbox hb; have n0_ := Aside0.mk (below_step (by repeat (first | (with_reducible first | exact HB.out | apply below_alloc | apply pw_below_drewN | apply below_drew1) | exact HB.out)) hb); have n1_ := Aside0.mk (hbox); have n2_ := Aside0.mk ((by rw [hg]; exact (below_size (by repeat (first | (with_reducible first | exact HB.out | apply below_alloc | apply pw_below_drewN | apply below_drew1) | exact HB.out))) : w.heap.size ≤ gb894)); have n3_ := Aside0.mk ((by rw [hg]; exact (below_size (by repeat (first | (with_reducible first | exact HB.out | apply below_alloc | apply pw_below_drewN | apply below_drew1) | exact HB.out))) : w.heap.size ≤ gb894)); clear HB; have HB := n0_; have BK894 := n1_; have GW894 := n2_; have GE894 := n3_; clear n0_ n1_ n2_ n3_; clear hb hbox hg) | ((with_reducible refine gate_dst (N := 15) rfl ?_); refine Kd.S_lit (Kd.slice 3 (Kd.int .i64)) _ 66 ?hg (N := 15) ?hd (xs := ([] : List (List Int))) (inner := []) (ok := fun _ => True) (okp := fun _ => True) ?hr ?hp (fun _ hk => hk) trivial (Below.refl _ _) (Nat.le_refl _) (by simp) ?_; (case hd => rfl); (case hg => rfl); (case hr => first | (go_simp; done) | (go_simp; rfl)); (case hp => exact (Reps.none _ _)); intro v896 w6 ho7 hb hg_ hnew_; clear hg_ hnew_; (first | rw [← Ny895.out] at ho7 | (simp only [Int.reduceToNat] at ho7; rw [← Ny895.out] at ho7)); have n0_ := Aside0.mk (Kd.S_lower ho7 (below_size (by repeat (first | (with_reducible first | exact HB.out | apply below_alloc | apply pw_below_drewN | apply below_drew1 | refine below_set ?_ GE894.out) | exact HB.out)))); have n1_ := Aside0.mk (blk_below (g := gb894) (o := .cells #[.slice A0_0 l0_0.length c0_0] 26 (0, 0)) (by (with_reducible repeat (first | refine blk_drewN ?_ _ | refine blk_drew ?_ | refine blk_alloc ?_ _)); exact BK894.out) hb); have n2_ := Aside0.mk (below_step (by repeat (first | (with_reducible first | exact HB.out | apply below_alloc | apply pw_below_drewN | apply below_drew1 | refine below_set ?_ GE894.out) | exact HB.out)) hb); clear BK894; clear HB; have HO897 := n0_; have BK894 := n1_; have HB := n2_; clear n0_ n1_ n2_; clear hb ho7))
  (try simp only [Act.put, List.setIfInBounds_toArray, List.set_cons_zero, List.set_cons_succ])
  go_cut [24] (fun v24 wc => ∃ (kq : Nat) (x24_3 : Bool), v24 = .bool x24_3 ∧ Aside0 (spec_LendersOf.j0 kq l1 a2 y895 x24_3 l0_0 = some (r1, r2)) ∧ Aside0 (kq ≤ k) ∧ Aside0 (Kd.S (Kd.slice 3 (Kd.int .i64)) 66 wc w.heap.size (fun _ => True) v896 y895) ∧ Aside0 (wc.heap[gb894]? = some (.cells #[(.slice A0_0 l0_0.length c0_0)] 26 (0, 0))) ∧ Aside0 (Below w.heap.size w wc))
  case first =>
    have H := HC4.out
    clear HC4
    replace H := Option.bind_eq_some_iff.mp H
    obtain ⟨t898, A80, H⟩ := H
    replace H : (if t898 = true then ((spec_l1In.f a2 0 60).bind fun t899 => (spec_LendersOf.j0 k l1 a2 y895 (!t899) l0_0)) else (spec_LendersOf.j0 k l1 a2 y895 true l0_0)) = some (r1, r2) := H
    have A8 := Aside0.mk A80
    clear A80
    by_cases c9 : t898 = true
    · subst c9
      have H1 : ((spec_l1In.f a2 0 60).bind fun t899 => (spec_LendersOf.j0 k l1 a2 y895 (!t899) l0_0)) = some (r1, r2) := by rw [if_pos rfl] at H; exact H
      clear H
      have H := H1
      clear H1
      replace H := Option.bind_eq_some_iff.mp H
      obtain ⟨t899, A100, H⟩ := H
      replace H : (spec_LendersOf.j0 k l1 a2 y895 (!t899) l0_0) = some (r1, r2) := H
      have A10 := Aside0.mk A100
      clear A100
      have H' := Aside0.mk H
      clear H
      have hcz11_0 : w6.cell? ⟨gb894, 0, none⟩ = some (.slice A0_0 l0_0.length c0_0) := (blk_cell BK894.out 0).trans rfl
      have hfz11_0 := blk_frozen BK894.out 0
      go_wp2_with (first | ((with_reducible refine gate_callee (f := 83) rfl ?_); refine goesL_ (some 18) rfl rfl Try.func83 (by kernel_rfl) rfl #[.agg #[.slice A0_0 l0_0.length c0_0], .slice A1 l1.length c1] rfl (by (try simp only [List.map_toArray, List.map_cons, List.map_nil]); first | done | rfl | (simp only [List.length_drop, List.length_take]; rfl)) ?_; (with_reducible refine (spec_l10Loans.calls k _ _ l0_0 _ _ l1 true _ ?side1 ?side2 ?side3 ?side4 A8.out).mono ?_); (case side1 => repeat (first | exact (Kd.C_below HR0_0.out HB.out) | (with_reducible refine Kd.C_alloc ?_ _) | (with_reducible refine Kd.C_drewN ?_ _) | (with_reducible refine Kd.C_drew ?_))); (case side2 => exact HC0_0.out); (case side3 => repeat (first | exact (Kd.C_below HR1.out HB.out) | (with_reducible refine Kd.C_alloc ?_ _) | (with_reducible refine Kd.C_drewN ?_ _) | (with_reducible refine Kd.C_drew ?_))); (case side4 => exact HC1.out); rintro e w12 ⟨rfl, hb⟩; refine ⟨_, rfl, ?_⟩; have n0_ := Aside0.mk (Kd.S_below (by (with_reducible repeat (first | apply Kd.S_alloc | apply Kd.S_drewN | apply Kd.S_drew)); exact HO897.out) hb); have n1_ := Aside0.mk (blk_below (g := gb894) (o := .cells #[.slice A0_0 l0_0.length c0_0] 26 (0, 0)) (by (with_reducible repeat (first | refine blk_drewN ?_ _ | refine blk_drew ?_ | refine blk_alloc ?_ _)); exact BK894.out) hb); have n2_ := Aside0.mk (below_step (by repeat (first | (with_reducible first | exact HB.out | apply below_alloc | apply pw_below_drewN | apply below_drew1 | refine below_set ?_ GE894.out) | exact HB.out)) hb); clear HO897; clear BK894; clear HB; have HO897 := n0_; have BK894 := n1_; have HB := n2_; clear n0_ n1_ n2_; (try clear hb); (try clear hb2); (try clear hk); (try clear hi)) | (go_at_call 71; (with_reducible refine (spec_l1In.calls a2 0 60 t899 _ A10.out).mono ?_); rintro e w' ⟨rfl, ⟨nd, rfl⟩⟩))
      go_meet
      case rel => exact ⟨_, (!t899), (by first | rfl | (simp; done) | (simp [*]; done)), H', ⟨by first | omega | exact Nat.le_refl _⟩, ⟨by (with_reducible repeat (first | apply Kd.S_alloc | apply Kd.S_drewN | apply Kd.S_drew)); exact HO897.out⟩, ⟨by (with_reducible repeat (first | refine blk_drewN ?_ _ | refine blk_drew ?_ | refine blk_alloc ?_ _)); exact BK894.out⟩, ⟨by repeat (first | (with_reducible first | exact HB.out | apply below_alloc | apply pw_below_drewN | apply below_drew1 | refine below_set ?_ GE894.out) | exact HB.out)⟩⟩
    · replace c9 := Bool.eq_false_iff.mpr c9
      subst c9
      have H1 : (spec_LendersOf.j0 k l1 a2 y895 true l0_0) = some (r1, r2) := by rw [if_neg (show ¬ (false = true) by decide)] at H; exact H
      clear H
      have H := H1
      clear H1
      have H' := Aside0.mk H
      clear H
      have hcz13_0 : w6.cell? ⟨gb894, 0, none⟩ = some (.slice A0_0 l0_0.length c0_0) := (blk_cell BK894.out 0).trans rfl
      have hfz13_0 := blk_frozen BK894.out 0
      go_wp2_with (first | ((with_reducible refine gate_callee (f := 83) rfl ?_); refine goesL_ (some 18) rfl rfl Try.func83 (by kernel_rfl) rfl #[.agg #[.slice A0_0 l0_0.length c0_0], .slice A1 l1.length c1] rfl (by (try simp only [List.map_toArray, List.map_cons, List.map_nil]); first | done | rfl | (simp only [List.length_drop, List.length_take]; rfl)) ?_; (with_reducible refine (spec_l10Loans.calls k _ _ l0_0 _ _ l1 false _ ?side1 ?side2 ?side3 ?side4 A8.out).mono ?_); (case side1 => repeat (first | exact (Kd.C_below HR0_0.out HB.out) | (with_reducible refine Kd.C_alloc ?_ _) | (with_reducible refine Kd.C_drewN ?_ _) | (with_reducible refine Kd.C_drew ?_))); (case side2 => exact HC0_0.out); (case side3 => repeat (first | exact (Kd.C_below HR1.out HB.out) | (with_reducible refine Kd.C_alloc ?_ _) | (with_reducible refine Kd.C_drewN ?_ _) | (with_reducible refine Kd.C_drew ?_))); (case side4 => exact HC1.out); rintro e w14 ⟨rfl, hb⟩; refine ⟨_, rfl, ?_⟩; have n0_ := Aside0.mk (Kd.S_below (by (with_reducible repeat (first | apply Kd.S_alloc | apply Kd.S_drewN | apply Kd.S_drew)); exact HO897.out) hb); have n1_ := Aside0.mk (blk_below (g := gb894) (o := .cells #[.slice A0_0 l0_0.length c0_0] 26 (0, 0)) (by (with_reducible repeat (first | refine blk_drewN ?_ _ | refine blk_drew ?_ | refine blk_alloc ?_ _)); exact BK894.out) hb); have n2_ := Aside0.mk (below_step (by repeat (first | (with_reducible first | exact HB.out | apply below_alloc | apply pw_below_drewN | apply below_drew1 | refine below_set ?_ GE894.out) | exact HB.out)) hb); clear HO897; clear BK894; clear HB; have HO897 := n0_; have BK894 := n1_; have HB := n2_; clear n0_ n1_ n2_; (try clear hb); (try clear hb2); (try clear hk); (try clear hi)))
      go_meet
      case rel => exact ⟨_, (true), (by first | rfl | (simp; done) | (simp [*]; done)), H', ⟨by first | omega | exact Nat.le_refl _⟩, ⟨by (with_reducible repeat (first | apply Kd.S_alloc | apply Kd.S_drewN | apply Kd.S_drew)); exact HO897.out⟩, ⟨by (with_reducible repeat (first | refine blk_drewN ?_ _ | refine blk_drew ?_ | refine blk_alloc ?_ _)); exact BK894.out⟩, ⟨by repeat (first | (with_reducible first | exact HB.out | apply below_alloc | apply pw_below_drewN | apply below_drew1 | refine below_set ?_ GE894.out) | exact HB.out)⟩⟩
  case rest =>
    clear HC4
    try clear c1
    try clear p2
    try clear c4
    try clear c8
    try clear c9
    try clear hcz11_0
    try clear hcz13_0
    try clear hfz11_0
    try clear hfz13_0
    obtain ⟨kq, x24_3, rfl, HA, HJ3, HO_8, BK894, HB⟩ := hcut
    cases kq with
    | zero => exact absurd HA.out (by simp [spec_LendersOf.j0])
    | succ kj3 =>
      have H := HA.out
      clear HA
      simp only [spec_LendersOf.j0] at H
      by_cases c15 : x24_3 = true
      · subst c15
        have H1 : (some (y895, false)) = some (r1, r2) := by rw [if_pos rfl] at H; exact H
        clear H
        have H := H1
        clear H1
        simp only [Option.some.injEq, Prod.mk.injEq] at H
        obtain ⟨rfl, rfl⟩ := H
        go_wp2
        go_ret2
        exact ⟨_, by first | rfl | (simp [errW_none, errW_some] <;> rfl) | (simp [*, errW_none, errW_some] <;> rfl), by (with_reducible repeat (first | apply Kd.S_alloc | apply Kd.S_drewN | apply Kd.S_drew)); exact HO_8.out, by repeat (first | (with_reducible first | exact HB.out | apply below_alloc | apply pw_below_drewN | apply below_drew1 | refine below_set ?_ GE894.out) | exact HB.out)⟩
      · replace c15 := Bool.eq_false_iff.mpr c15
        subst c15
        have H1 : (spec_LendersOf.l0 kj3 l1 a2 y895 0 l0_0) = some (r1, r2) := by rw [if_neg (show ¬ (false = true) by decide)] at H; exact H
        clear H
        have H := H1
        clear H1
        have H' := Aside0.mk H
        clear H
        go_wp2
        go_loopg [8, 9] kj3 (fun kq v8 v9 w' => ∃ (x8_2 : List (List Int)) (x9_2 : Int), v9 = .int .i64 x9_2 ∧ Aside0 (spec_LendersOf.l0 kq l1 a2 x8_2 x9_2 l0_0 = some (r1, r2)) ∧ Aside0 (kq ≤ kj3) ∧ Aside0 (Kd.S (Kd.slice 3 (Kd.int .i64)) 66 w' w.heap.size (fun _ => True) v8 x8_2) ∧ Aside0 (w'.heap[gb894]? = some (.cells #[(.slice A0_0 l0_0.length c0_0)] 26 (0, 0))) ∧ Aside0 (Below w.heap.size w w'))
        case atStart => exact ⟨(y895), (0), (by first | rfl | (simp; done) | (simp [*]; done)), H', ⟨Nat.le_refl _⟩, ⟨by (with_reducible repeat (first | apply Kd.S_alloc | apply Kd.S_drewN | apply Kd.S_drew)); exact HO_8.out⟩, ⟨by (with_reducible repeat (first | refine blk_drewN ?_ _ | refine blk_drew ?_ | refine blk_alloc ?_ _)); exact BK894.out⟩, ⟨by repeat (first | (with_reducible first | exact HB.out | apply below_alloc | apply pw_below_drewN | apply below_drew1 | refine below_set ?_ GE894.out) | exact HB.out)⟩⟩
        case round =>
          clear H'
          try clear c1
          try clear p2
          try clear c4
          try clear c8
          try clear c9
          try clear c15
          try clear hcz11_0
          try clear hcz13_0
          try clear hfz11_0
          try clear hfz13_0
          try clear p2
          obtain ⟨x8_2, x9_2, rfl, HA, HK2, HO_8, BK894, HB⟩ := hrel
          cases gk with
          | zero => exact absurd HA.out (by simp [spec_LendersOf.l0])
          | succ k2 =>
            have H := HA.out
            clear HA
            simp only [spec_LendersOf.l0] at H
            by_cases c16 : x9_2 < (l0_0.length : Int)
            · rw [if_pos c16] at H
              have c16b0 : decide (x9_2 < (l0_0.length : Int)) = true := decide_eq_true c16
              clear c16
              obtain ⟨y900, hy900⟩ : ∃ y_ : List Int, y_ = (([] : List Int)) := ⟨_, rfl⟩
              replace H : (spec_LendersOf.l1 k2 l1 a2 x8_2 x9_2 y900 0 l0_0) = some (r1, r2) := by first | (rw [hy900]; with_reducible exact H) | (have H2_ := (Option.bind_some _ _).symm.trans H; rw [hy900]; with_reducible exact H2_) | (have H2_ := (Option.bind_some _ _).symm.trans H; with_reducible exact H2_) | with_reducible exact H | (rw [hy900]; exact H) | exact H
              have Ny900 := Aside0.mk hy900
              clear hy900
              have H' := Aside0.mk H
              clear H
              have hcz17_0 : wr.cell? ⟨gb894, 0, none⟩ = some (.slice A0_0 l0_0.length c0_0) := (blk_cell BK894.out 0).trans rfl
              have hfz17_0 := blk_frozen BK894.out 0
              go_wp2_with (first | ((with_reducible refine gate_dst (N := 33) rfl ?_); refine Kd.R_lit (Kd.int .i64) _ 3 ?hg (N := 33) ?hd (xs := ([] : List Int)) (inner := []) (ok := fun _ => True) (okp := fun _ => True) ?hr ?hp (fun _ hk => hk) trivial (Below.refl _ _) (Nat.le_refl _) (by simp) ?_; (case hd => rfl); (case hg => rfl); (case hr => first | (go_simp; done) | (go_simp; rfl)); (case hp => exact (Reps.none _ _)); intro v901 w18 ho19 hb hg_ hnew_; clear hg_ hnew_; (first | rw [← Ny900.out] at ho19 | (simp only [Int.reduceToNat] at ho19; rw [← Ny900.out] at ho19)); have n0_ := Aside0.mk (Kd.S_elder' (by (with_reducible repeat (first | apply Kd.S_alloc | apply Kd.S_drewN | apply Kd.S_drew)); exact HO_8.out) (Kd.R_base ho19) hb); have n1_ := Aside0.mk (Kd.R_lower ho19 (below_size (by repeat (first | (with_reducible first | exact HB.out | apply below_alloc | apply pw_below_drewN | apply below_drew1 | refine below_set ?_ GE894.out) | exact HB.out)))); have n2_ := Aside0.mk (blk_below (g := gb894) (o := .cells #[.slice A0_0 l0_0.length c0_0] 26 (0, 0)) (by (with_reducible repeat (first | refine blk_drewN ?_ _ | refine blk_drew ?_ | refine blk_alloc ?_ _)); exact BK894.out) hb); have n3_ := Aside0.mk (below_step (by repeat (first | (with_reducible first | exact HB.out | apply below_alloc | apply pw_below_drewN | apply below_drew1 | refine below_set ?_ GE894.out) | exact HB.out)) hb); clear HO_8; clear BK894; clear HB; have HO_8 := n0_; have HO902 := n1_; have BK894 := n2_; have HB := n3_; clear n0_ n1_ n2_ n3_; clear hb ho19))
              go_loopg [10, 11] k2 (fun kq v10 v11 w' => ∃ (x10_3 : List Int) (x11_3 : Int), v11 = .int .i64 x11_3 ∧ Aside0 (spec_LendersOf.l1 kq l1 a2 x8_2 x9_2 x10_3 x11_3 l0_0 = some (r1, r2)) ∧ Aside0 (kq ≤ k2) ∧ Aside0 (Kd.S (Kd.slice 3 (Kd.int .i64)) 66 w' w.heap.size (fun k_ => some k_ ≠ (v10 : Value).ownBlock) u8 x8_2) ∧ Aside0 (Kd.R (Kd.int .i64) 3 w' w.heap.size (fun _ => True) v10 x10_3) ∧ Aside0 (w'.heap[gb894]? = some (.cells #[(.slice A0_0 l0_0.length c0_0)] 26 (0, 0))) ∧ Aside0 (Below w.heap.size w w'))
              case atStart => exact ⟨(y900), (0), (by first | rfl | (simp; done) | (simp [*]; done)), H', ⟨Nat.le_refl _⟩, ⟨by (with_reducible repeat (first | apply Kd.S_alloc | apply Kd.S_drewN | apply Kd.S_drew)); exact Kd.S_mono HO_8.out (fun _ hk => hk.2)⟩, ⟨by (with_reducible repeat (first | apply Kd.R_alloc | apply Kd.R_drewN | apply Kd.R_drew)); exact HO902.out⟩, ⟨by (with_reducible repeat (first | refine blk_drewN ?_ _ | refine blk_drew ?_ | refine blk_alloc ?_ _)); exact BK894.out⟩, ⟨by repeat (first | (with_reducible first | exact HB.out | apply below_alloc | apply pw_below_drewN | apply below_drew1 | refine below_set ?_ GE894.out) | exact HB.out)⟩⟩
              case round =>
                clear H'
                try clear c1
                try clear p2
                try clear c4
                try clear c8
                try clear c9
                try clear c15
                try clear c16
                try clear c16b0
                try clear hcz11_0
                try clear hcz13_0
                try clear hcz17_0
                try clear hfz11_0
                try clear hfz13_0
                try clear hfz17_0
                try clear p2
                obtain ⟨x10_3, x11_3, rfl, HA, HK3, HO_8, HO_10, BK894, HB⟩ := hrel
                cases gk with
                | zero => exact absurd HA.out (by simp [spec_LendersOf.l1])
                | succ k3 =>
                  have H := HA.out
                  clear HA
                  simp only [spec_LendersOf.l1] at H
                  by_cases c20 : 0 ≤ x9_2
                  · rw [if_pos c20] at H
                    have c20b0 : decide (0 ≤ x9_2) = true := decide_eq_true c20
                    clear c20
                    by_cases c21 : x9_2 < (l0_0.length : Int)
                    · rw [if_pos c21] at H
                      have c21b0 : decide (x9_2 < (l0_0.length : Int)) = true := decide_eq_true c21
                      clear c21
                      by_cases c22 : x11_3 < ((rd_Lsu8 l0_0 x9_2).length : Int)
                      · rw [if_pos c22] at H
                        have c22b0 : decide (x11_3 < ((rd_Lsu8 l0_0 x9_2).length : Int)) = true := decide_eq_true c22
                        clear c22
                        have H' := Aside0.mk H
                        clear H
                        have hcz23_0 : wr.cell? ⟨gb894, 0, none⟩ = some (.slice A0_0 l0_0.length c0_0) := (blk_cell BK894.out 0).trans rfl
                        have hfz23_0 := blk_frozen BK894.out 0
                        have p903 : 0 ≤ (x9_2 : Int) := of_decide_eq_true (by first | (with_reducible assumption) | assumption)
                        have q903 : x9_2 < (l0_0.length : Int) := of_decide_eq_true (by first | (with_reducible assumption) | assumption)
                        obtain ⟨ad903, A903_0, c903_0, e903, hx903_0, hl903_0, hi903_0⟩ := at_Lsu8 HR0_0.out x9_2 p903 q903
                        cases e903
                        replace hx903_0 := (HB.out.cell (World.block_lt_of_cell? w _ hx903_0)).trans hx903_0
                        have HR903_0 := Aside0.mk hi903_0
                        have HC903_0 := Aside0.mk hl903_0
                        clear hi903_0 hl903_0
                        replace p903 := eq_true p903
                        replace q903 := eq_true q903
                        go_wp2
                        go_loopg [12, 13, 14] k3 (fun kq v12 v13 v14 w' => ∃ (x12_4 : Int) (x13_4 : Int) (x14_4 : Int), v12 = .int .i64 x12_4 ∧ v13 = .int .i64 x13_4 ∧ v14 = .int .i64 x14_4 ∧ Aside0 (spec_LendersOf.l2 kq l1 a2 x8_2 x9_2 x10_3 x11_3 x12_4 x13_4 x14_4 l0_0 = some (r1, r2)) ∧ Aside0 (kq ≤ k3) ∧ Aside0 (Kd.S (Kd.slice 3 (Kd.int .i64)) 66 w' w.heap.size (fun k_ => some k_ ≠ (u10 : Value).ownBlock) u8 x8_2) ∧ Aside0 (Kd.R (Kd.int .i64) 3 w' w.heap.size (fun _ => True) u10 x10_3) ∧ Aside0 (w'.heap[gb894]? = some (.cells #[(.slice (some ad903) l0_0.length c0_0)] 26 (0, 0))) ∧ Aside0 (Below w.heap.size w w'))
                        case atStart => exact ⟨(0), (1), (0), (by first | rfl | (simp; done) | (simp [*]; done)), (by first | rfl | (simp; done) | (simp [*]; done)), (by first | rfl | (simp; done) | (simp [*]; done)), H', ⟨Nat.le_refl _⟩, ⟨by (with_reducible repeat (first | apply Kd.S_alloc | apply Kd.S_drewN | apply Kd.S_drew)); exact HO_8.out⟩, ⟨by (with_reducible repeat (first | apply Kd.R_alloc | apply Kd.R_drewN | apply Kd.R_drew)); exact HO_10.out⟩, ⟨by (with_reducible repeat (first | refine blk_drewN ?_ _ | refine blk_drew ?_ | refine blk_alloc ?_ _)); exact BK894.out⟩, ⟨by repeat (first | (with_reducible first | exact HB.out | apply below_alloc | apply pw_below_drewN | apply below_drew1 | refine below_set ?_ GE894.out) | exact HB.out)⟩⟩
                        case round =>
                          clear H'
                          try clear c1
                          try clear c2
                          try clear p2
                          try clear c4
                          try clear c8
                          try clear c9
                          try clear p9
                          try clear q9
                          try clear hx9
                          try clear c15
                          try clear c16
                          try clear c16b0
                          try clear c20
                          try clear c20b0
                          try clear c21
                          try clear c21b0
                          try clear c22
                          try clear c22b0
                          try clear hcz11_0
                          try clear hcz13_0
                          try clear hcz17_0
                          try clear hcz23_0
                          try clear hfz11_0
                          try clear hfz13_0
                          try clear hfz17_0
                          try clear hfz23_0
                          try clear hx903_0
                          try clear p2
                          try clear p903
                          try clear q903
                          obtain ⟨x12_4, x13_4, x14_4, rfl, rfl, rfl, HA, HK4, HO_8, HO_10, BK894, HB⟩ := hrel
                          cases gk with
                          | zero => exact absurd HA.out (by simp [spec_LendersOf.l2])
                          | succ k4 =>
                            have H := HA.out
                            clear HA
                            simp only [spec_LendersOf.l2] at H
                            by_cases c24 : x14_4 < (l1.length : Int)
                            · rw [if_pos c24] at H
                              have c24b0 : decide (x14_4 < (l1.length : Int)) = true := decide_eq_true c24
                              clear c24
                              have HC25 := Aside0.mk H
                              clear H
                              go_upto_region 15 with (fail)
                              go_cut [74] (fun v74 wc => ∃ (kq : Nat) (x74_24 : Bool), v74 = .bool x74_24 ∧ Aside0 (spec_LendersOf.j4 kq l1 a2 x8_2 x9_2 x10_3 x11_3 x12_4 x13_4 x14_4 x74_24 l0_0 = some (r1, r2)) ∧ Aside0 (kq ≤ k4) ∧ Aside0 (Kd.S (Kd.slice 3 (Kd.int .i64)) 66 wc w.heap.size (fun k_ => some k_ ≠ (u10 : Value).ownBlock) u8 x8_2) ∧ Aside0 (Kd.R (Kd.int .i64) 3 wc w.heap.size (fun _ => True) u10 x10_3) ∧ Aside0 (wc.heap[gb894]? = some (.cells #[(.slice (some ad903) l0_0.length c0_0)] 26 (0, 0))) ∧ Aside0 (Below w.heap.size w wc))
                              case first =>
                                have H := HC25.out
                                clear HC25
                                by_cases c26 : 0 ≤ x14_4
                                · rw [if_pos c26] at H
                                  have c26b0 : decide (0 ≤ x14_4) = true := decide_eq_true c26
                                  clear c26
                                  (first | rw [c26b0] | (simp only [i64_w, i32_w]; rw [c26b0]) | skip)
                                  by_cases c27 : ((rd_TimplLoan l1 x14_4).f0.f0) = x9_2
                                  · rw [if_pos c27] at H
                                    have c27b0 : (((rd_TimplLoan l1 x14_4).f0.f0) == x9_2) = true := beq_iff_eq.mpr c27
                                    have c27b1 : (((rd_TimplLoan l1 x14_4).f0.f0) != x9_2) = false := bne_eq_false_iff_eq.mpr c27
                                    clear c27
                                    replace H := Option.bind_eq_some_iff.mp H
                                    obtain ⟨t912, A280, H⟩ := H
                                    replace H : (if t912 = true then ((spec_l10Held.f ((rd_TimplLoan l1 x14_4).f0.f0) ((rd_TimplLoan l1 x14_4).f0.f1) ((rd_TimplLoan l1 x14_4).f0.f2) ((rd_TimplLoan l1 x14_4).f0.f3) ((rd_TimplLoan l1 x14_4).f1) ((rd_TimplLoan l1 x14_4).f2) ((rd_TimplLoan l1 x14_4).f3) a2).bind fun t914 => (spec_LendersOf.j4 k4 l1 a2 x8_2 x9_2 x10_3 x11_3 x12_4 x13_4 x14_4 t914 l0_0)) else (spec_LendersOf.j4 k4 l1 a2 x8_2 x9_2 x10_3 x11_3 x12_4 x13_4 x14_4 false l0_0)) = some (r1, r2) := H
                                    have A28 := Aside0.mk A280
                                    clear A280
                                    by_cases c29 : t912 = true
                                    · subst c29
                                      have H1 : ((spec_l10Held.f ((rd_TimplLoan l1 x14_4).f0.f0) ((rd_TimplLoan l1 x14_4).f0.f1) ((rd_TimplLoan l1 x14_4).f0.f2) ((rd_TimplLoan l1 x14_4).f0.f3) ((rd_TimplLoan l1 x14_4).f1) ((rd_TimplLoan l1 x14_4).f2) ((rd_TimplLoan l1 x14_4).f3) a2).bind fun t914 => (spec_LendersOf.j4 k4 l1 a2 x8_2 x9_2 x10_3 x11_3 x12_4 x13_4 x14_4 t914 l0_0)) = some (r1, r2) := by rw [if_pos rfl] at H; exact H
                                      clear H
                                      have H := H1
                                      clear H1
                                      replace H := Option.bind_eq_some_iff.mp H
                                      obtain ⟨t914, A300, H⟩ := H
                                      replace H : (spec_LendersOf.j4 k4 l1 a2 x8_2 x9_2 x10_3 x11_3 x12_4 x13_4 x14_4 t914 l0_0) = some (r1, r2) := H
                                      have A30 := Aside0.mk A300
                                      clear A300
                                      have H' := Aside0.mk H
                                      clear H
                                      have p910 : 0 ≤ (x14_4 : Int) := of_decide_eq_true (by first | (with_reducible assumption) | assumption)
                                      have q910 : x14_4 < (l1.length : Int) := of_decide_eq_true (by first | (with_reducible assumption) | assumption)
                                      obtain ⟨ad910, e910, hx910_0, hx910_1, hx910_2, hx910_3, hx910_4, hx910_5, hx910_6⟩ := at_TimplLoan HR1.out x14_4 p910 q910
                                      cases e910
                                      replace hx910_0 := (HB.out.cell (World.block_lt_of_cell? w _ hx910_0)).trans hx910_0
                                      replace hx910_1 := (HB.out.cell (World.block_lt_of_cell? w _ hx910_1)).trans hx910_1
                                      replace hx910_2 := (HB.out.cell (World.block_lt_of_cell? w _ hx910_2)).trans hx910_2
                                      replace hx910_3 := (HB.out.cell (World.block_lt_of_cell? w _ hx910_3)).trans hx910_3
                                      replace hx910_4 := (HB.out.cell (World.block_lt_of_cell? w _ hx910_4)).trans hx910_4
                                      replace hx910_5 := (HB.out.cell (World.block_lt_of_cell? w _ hx910_5)).trans hx910_5
                                      replace hx910_6 := (HB.out.cell (World.block_lt_of_cell? w _ hx910_6)).trans hx910_6
                                      replace p910 := eq_true p910
                                      replace q910 := eq_true q910
                                      have p911 : 0 ≤ (x14_4 : Int) := of_decide_eq_true (by first | (with_reducible assumption) | assumption)
                                      have q911 : x14_4 < (l1.length : Int) := of_decide_eq_true (by first | (with_reducible assumption) | assumption)
                                      obtain ⟨ad911, e911, hx911_0, hx911_1, hx911_2, hx911_3, hx911_4, hx911_5, hx911_6⟩ := at_TimplLoan HR1.out x14_4 p911 q911
                                      obtain rfl : ad910 = ad911 := (by injection e911)
                                      replace hx911_0 := (HB.out.cell (World.block_lt_of_cell? w _ hx911_0)).trans hx911_0
                                      replace hx911_1 := (HB.out.cell (World.block_lt_of_cell? w _ hx911_1)).trans hx911_1
                                      replace hx911_2 := (HB.out.cell (World.block_lt_of_cell? w _ hx911_2)).trans hx911_2
                                      replace hx911_3 := (HB.out.cell (World.block_lt_of_cell? w _ hx911_3)).trans hx911_3
                                      replace hx911_4 := (HB.out.cell (World.block_lt_of_cell? w _ hx911_4)).trans hx911_4
                                      replace hx911_5 := (HB.out.cell (World.block_lt_of_cell? w _ hx911_5)).trans hx911_5
                                      replace hx911_6 := (HB.out.cell (World.block_lt_of_cell? w _ hx911_6)).trans hx911_6
                                      replace p911 := eq_true p911
                                      replace q911 := eq_true q911
                                      go_wp2_with (first | (go_at_call 100; (with_reducible refine (spec_l10Sees.calls ((rd_TimplLoan l1 x14_4).f0.f0) ((rd_TimplLoan l1 x14_4).f0.f1) ((rd_TimplLoan l1 x14_4).f0.f2) ((rd_TimplLoan l1 x14_4).f0.f3) x11_3 true _ A28.out).mono ?_); rintro e w31 ⟨rfl, hb⟩; have n0_ := Aside0.mk (Kd.S_below (by (with_reducible repeat (first | apply Kd.S_alloc | apply Kd.S_drewN | apply Kd.S_drew)); exact HO_8.out) hb); have n1_ := Aside0.mk (Kd.R_below (by (with_reducible repeat (first | apply Kd.R_alloc | apply Kd.R_drewN | apply Kd.R_drew)); exact HO_10.out) hb); have n2_ := Aside0.mk (blk_below (g := gb894) (o := .cells #[.slice (some ad903) l0_0.length c0_0] 26 (0, 0)) (by (with_reducible repeat (first | refine blk_drewN ?_ _ | refine blk_drew ?_ | refine blk_alloc ?_ _)); exact BK894.out) hb); have n3_ := Aside0.mk (below_step (by repeat (first | (with_reducible first | exact HB.out | apply below_alloc | apply pw_below_drewN | apply below_drew1 | refine below_set ?_ GE894.out) | exact HB.out)) hb); clear HO_8; clear HO_10; clear BK894; clear HB; have HO_8 := n0_; have HO_10 := n1_; have BK894 := n2_; have HB := n3_; clear n0_ n1_ n2_ n3_; (try clear hb); (try clear hb2); (try clear hk); (try clear hi); have p913 : 0 ≤ (x14_4 : Int) := of_decide_eq_true (by first | (with_reducible assumption) | assumption); have q913 : x14_4 < (l1.length : Int) := of_decide_eq_true (by first | (with_reducible assumption) | assumption); obtain ⟨ad913, e913, hx913_0, hx913_1, hx913_2, hx913_3, hx913_4, hx913_5, hx913_6⟩ := at_TimplLoan HR1.out x14_4 p913 q913; obtain rfl : ad910 = ad913 := (by injection e913); replace hx913_0 := (HB.out.cell (World.block_lt_of_cell? w _ hx913_0)).trans hx913_0; replace hx913_1 := (HB.out.cell (World.block_lt_of_cell? w _ hx913_1)).trans hx913_1; replace hx913_2 := (HB.out.cell (World.block_lt_of_cell? w _ hx913_2)).trans hx913_2; replace hx913_3 := (HB.out.cell (World.block_lt_of_cell? w _ hx913_3)).trans hx913_3; replace hx913_4 := (HB.out.cell (World.block_lt_of_cell? w _ hx913_4)).trans hx913_4; replace hx913_5 := (HB.out.cell (World.block_lt_of_cell? w _ hx913_5)).trans hx913_5; replace hx913_6 := (HB.out.cell (World.block_lt_of_cell? w _ hx913_6)).trans hx913_6; replace p913 := eq_true p913; replace q913 := eq_true q913) | (go_at_call 92; (with_reducible refine (spec_l10Held.calls ((rd_TimplLoan l1 x14_4).f0.f0) ((rd_TimplLoan l1 x14_4).f0.f1) ((rd_TimplLoan l1 x14_4).f0.f2) ((rd_TimplLoan l1 x14_4).f0.f3) ((rd_TimplLoan l1 x14_4).f1) ((rd_TimplLoan l1 x14_4).f2) ((rd_TimplLoan l1 x14_4).f3) a2 t914 _ A30.out).mono ?_); rintro e w32 ⟨rfl, hb⟩; have n0_ := Aside0.mk (Kd.S_below (by (with_reducible repeat (first | apply Kd.S_alloc | apply Kd.S_drewN | apply Kd.S_drew)); exact HO_8.out) hb); have n1_ := Aside0.mk (Kd.R_below (by (with_reducible repeat (first | apply Kd.R_alloc | apply Kd.R_drewN | apply Kd.R_drew)); exact HO_10.out) hb); have n2_ := Aside0.mk (blk_below (g := gb894) (o := .cells #[.slice (some ad903) l0_0.length c0_0] 26 (0, 0)) (by (with_reducible repeat (first | refine blk_drewN ?_ _ | refine blk_drew ?_ | refine blk_alloc ?_ _)); exact BK894.out) hb); have n3_ := Aside0.mk (below_step (by repeat (first | (with_reducible first | exact HB.out | apply below_alloc | apply pw_below_drewN | apply below_drew1 | refine below_set ?_ GE894.out) | exact HB.out)) hb); clear HO_8; clear HO_10; clear BK894; clear HB; have HO_8 := n0_; have HO_10 := n1_; have BK894 := n2_; have HB := n3_; clear n0_ n1_ n2_ n3_; (try clear hb); (try clear hb2); (try clear hk); (try clear hi)))
                                      go_meet
                                      case rel => exact ⟨_, (t914), (by first | rfl | (simp; done) | (simp [*]; done)), H', ⟨by have := HJ3.out; have := HK2.out; have := HK3.out; have := HK4.out; first | omega | exact Nat.le_refl _⟩, ⟨by (with_reducible repeat (first | apply Kd.S_alloc | apply Kd.S_drewN | apply Kd.S_drew)); exact HO_8.out⟩, ⟨by (with_reducible repeat (first | apply Kd.R_alloc | apply Kd.R_drewN | apply Kd.R_drew)); exact HO_10.out⟩, ⟨by (with_reducible repeat (first | refine blk_drewN ?_ _ | refine blk_drew ?_ | refine blk_alloc ?_ _)); exact BK894.out⟩, ⟨by repeat (first | (with_reducible first | exact HB.out | apply below_alloc | apply pw_below_drewN | apply below_drew1 | refine below_set ?_ GE894.out) | exact HB.out)⟩⟩
                                    · replace c29 := Bool.eq_false_iff.mpr c29
                                      subst c29
                                      have H1 : (spec_LendersOf.j4 k4 l1 a2 x8_2 x9_2 x10_3 x11_3 x12_4 x13_4 x14_4 false l0_0) = some (r1, r2) := by rw [if_neg (show ¬ (false = true) by decide)] at H; exact H
                                      clear H
                                      have H := H1
                                      clear H1
                                      have H' := Aside0.mk H
                                      clear H
                                      have p910 : 0 ≤ (x14_4 : Int) := of_decide_eq_true (by first | (with_reducible assumption) | assumption)
                                      have q910 : x14_4 < (l1.length : Int) := of_decide_eq_true (by first | (with_reducible assumption) | assumption)
                                      obtain ⟨ad910, e910, hx910_0, hx910_1, hx910_2, hx910_3, hx910_4, hx910_5, hx910_6⟩ := at_TimplLoan HR1.out x14_4 p910 q910
                                      cases e910
                                      replace hx910_0 := (HB.out.cell (World.block_lt_of_cell? w _ hx910_0)).trans hx910_0
                                      replace hx910_1 := (HB.out.cell (World.block_lt_of_cell? w _ hx910_1)).trans hx910_1
                                      replace hx910_2 := (HB.out.cell (World.block_lt_of_cell? w _ hx910_2)).trans hx910_2
                                      replace hx910_3 := (HB.out.cell (World.block_lt_of_cell? w _ hx910_3)).trans hx910_3
                                      replace hx910_4 := (HB.out.cell (World.block_lt_of_cell? w _ hx910_4)).trans hx910_4
                                      replace hx910_5 := (HB.out.cell (World.block_lt_of_cell? w _ hx910_5)).trans hx910_5
                                      replace hx910_6 := (HB.out.cell (World.block_lt_of_cell? w _ hx910_6)).trans hx910_6
                                      replace p910 := eq_true p910
                                      replace q910 := eq_true q910
                                      have p911 : 0 ≤ (x14_4 : Int) := of_decide_eq_true (by first | (with_reducible assumption) | assumption)
                                      have q911 : x14_4 < (l1.length : Int) := of_decide_eq_true (by first | (with_reducible assumption) | assumption)
                                      obtain ⟨ad911, e911, hx911_0, hx911_1, hx911_2, hx911_3, hx911_4, hx911_5, hx911_6⟩ := at_TimplLoan HR1.out x14_4 p911 q911
                                      obtain rfl : ad910 = ad911 := (by injection e911)
                                      replace hx911_0 := (HB.out.cell (World.block_lt_of_cell? w _ hx911_0)).trans hx911_0
                                      replace hx911_1 := (HB.out.cell (World.block_lt_of_cell? w _ hx911_1)).trans hx911_1
                                      replace hx911_2 := (HB.out.cell (World.block_lt_of_cell? w _ hx911_2)).trans hx911_2
                                      replace hx911_3 := (HB.out.cell (World.block_lt_of_cell? w _ hx911_3)).trans hx911_3
                                      replace hx911_4 := (HB.out.cell (World.block_lt_of_cell? w _ hx911_4)).trans hx911_4
                                      replace hx911_5 := (HB.out.cell (World.block_lt_of_cell? w _ hx911_5)).trans hx911_5
                                      replace hx911_6 := (HB.out.cell (World.block_lt_of_cell? w _ hx911_6)).trans hx911_6
                                      replace p911 := eq_true p911
                                      replace q911 := eq_true q911
                                      go_wp2_with (first | (go_at_call 100; (with_reducible refine (spec_l10Sees.calls ((rd_TimplLoan l1 x14_4).f0.f0) ((rd_TimplLoan l1 x14_4).f0.f1) ((rd_TimplLoan l1 x14_4).f0.f2) ((rd_TimplLoan l1 x14_4).f0.f3) x11_3 false _ A28.out).mono ?_); rintro e w33 ⟨rfl, hb⟩; have n0_ := Aside0.mk (Kd.S_below (by (with_reducible repeat (first | apply Kd.S_alloc | apply Kd.S_drewN | apply Kd.S_drew)); exact HO_8.out) hb); have n1_ := Aside0.mk (Kd.R_below (by (with_reducible repeat (first | apply Kd.R_alloc | apply Kd.R_drewN | apply Kd.R_drew)); exact HO_10.out) hb); have n2_ := Aside0.mk (blk_below (g := gb894) (o := .cells #[.slice (some ad903) l0_0.length c0_0] 26 (0, 0)) (by (with_reducible repeat (first | refine blk_drewN ?_ _ | refine blk_drew ?_ | refine blk_alloc ?_ _)); exact BK894.out) hb); have n3_ := Aside0.mk (below_step (by repeat (first | (with_reducible first | exact HB.out | apply below_alloc | apply pw_below_drewN | apply below_drew1 | refine below_set ?_ GE894.out) | exact HB.out)) hb); clear HO_8; clear HO_10; clear BK894; clear HB; have HO_8 := n0_; have HO_10 := n1_; have BK894 := n2_; have HB := n3_; clear n0_ n1_ n2_ n3_; (try clear hb); (try clear hb2); (try clear hk); (try clear hi)))
                                      go_meet
                                      case rel => exact ⟨_, (false), (by first | rfl | (simp; done) | (simp [*]; done)), H', ⟨by have := HJ3.out; have := HK2.out; have := HK3.out; have := HK4.out; first | omega | exact Nat.le_refl _⟩, ⟨by (with_reducible repeat (first | apply Kd.S_alloc | apply Kd.S_drewN | apply Kd.S_drew)); exact HO_8.out⟩, ⟨by (with_reducible repeat (first | apply Kd.R_alloc | apply Kd.R_drewN | apply Kd.R_drew)); exact HO_10.out⟩, ⟨by (with_reducible repeat (first | refine blk_drewN ?_ _ | refine blk_drew ?_ | refine blk_alloc ?_ _)); exact BK894.out⟩, ⟨by repeat (first | (with_reducible first | exact HB.out | apply below_alloc | apply pw_below_drewN | apply below_drew1 | refine below_set ?_ GE894.out) | exact HB.out)⟩⟩
                                  · rw [if_neg c27] at H
                                    have c27b0 : (((rd_TimplLoan l1 x14_4).f0.f0) == x9_2) = false := beq_eq_false_iff_ne.mpr c27
                                    have c27b1 : (((rd_TimplLoan l1 x14_4).f0.f0) != x9_2) = true := bne_iff_ne.mpr c27
                                    have H' := Aside0.mk H
                                    clear H
                                    have p910 : 0 ≤ (x14_4 : Int) := of_decide_eq_true (by first | (with_reducible assumption) | assumption)
                                    have q910 : x14_4 < (l1.length : Int) := of_decide_eq_true (by first | (with_reducible assumption) | assumption)
                                    obtain ⟨ad910, e910, hx910_0, hx910_1, hx910_2, hx910_3, hx910_4, hx910_5, hx910_6⟩ := at_TimplLoan HR1.out x14_4 p910 q910
                                    cases e910
                                    replace hx910_0 := (HB.out.cell (World.block_lt_of_cell? w _ hx910_0)).trans hx910_0
                                    replace hx910_1 := (HB.out.cell (World.block_lt_of_cell? w _ hx910_1)).trans hx910_1
                                    replace hx910_2 := (HB.out.cell (World.block_lt_of_cell? w _ hx910_2)).trans hx910_2
                                    replace hx910_3 := (HB.out.cell (World.block_lt_of_cell? w _ hx910_3)).trans hx910_3
                                    replace hx910_4 := (HB.out.cell (World.block_lt_of_cell? w _ hx910_4)).trans hx910_4
                                    replace hx910_5 := (HB.out.cell (World.block_lt_of_cell? w _ hx910_5)).trans hx910_5
                                    replace hx910_6 := (HB.out.cell (World.block_lt_of_cell? w _ hx910_6)).trans hx910_6
                                    replace p910 := eq_true p910
                                    replace q910 := eq_true q910
                                    go_wp2
                                    go_meet
                                    case rel => exact ⟨_, (false), (by first | rfl | (simp; done) | (simp [*]; done)), H', ⟨by have := HJ3.out; have := HK2.out; have := HK3.out; have := HK4.out; first | omega | exact Nat.le_refl _⟩, ⟨by (with_reducible repeat (first | apply Kd.S_alloc | apply Kd.S_drewN | apply Kd.S_drew)); exact HO_8.out⟩, ⟨by (with_reducible repeat (first | apply Kd.R_alloc | apply Kd.R_drewN | apply Kd.R_drew)); exact HO_10.out⟩, ⟨by (with_reducible repeat (first | refine blk_drewN ?_ _ | refine blk_drew ?_ | refine blk_alloc ?_ _)); exact BK894.out⟩, ⟨by repeat (first | (with_reducible first | exact HB.out | apply below_alloc | apply pw_below_drewN | apply below_drew1 | refine below_set ?_ GE894.out) | exact HB.out)⟩⟩
                                · rw [if_neg c26] at H
                                  exact absurd H (by simp)
                              case rest =>
                                clear HC25
                                try clear c1
                                try clear c2
                                try clear p2
                                try clear c4
                                try clear c8
                                try clear c9
                                try clear p9
                                try clear q9
                                try clear hx9
                                try clear c15
                                try clear c16
                                try clear c16b0
                                try clear c20
                                try clear c20b0
                                try clear c21
                                try clear c21b0
                                try clear c22
                                try clear c22b0
                                try clear c24
                                try clear c24b0
                                try clear c26
                                try clear c26b0
                                try clear c27
                                try clear c27b0
                                try clear c27b1
                                try clear c29
                                try clear hcz11_0
                                try clear hcz13_0
                                try clear hcz17_0
                                try clear hcz23_0
                                try clear hfz11_0
                                try clear hfz13_0
                                try clear hfz17_0
                                try clear hfz23_0
                                try clear hx903_0
                                try clear hx910_0
                                try clear hx910_1
                                try clear hx910_2
                                try clear hx910_3
                                try clear hx910_4
                                try clear hx910_5
                                try clear hx910_6
                                try clear hx911_0
                                try clear hx911_1
                                try clear hx911_2
                                try clear hx911_3
                                try clear hx911_4
                                try clear hx911_5
                                try clear hx911_6
                                try clear hx913_0
                                try clear hx913_1
                                try clear hx913_2
                                try clear hx913_3
                                try clear hx913_4
                                try clear hx913_5
                                try clear hx913_6
                                try clear p2
                                try clear p9
                                try clear p903
                                try clear p910
                                try clear p911
                                try clear p913
                                try clear q9
                                try clear q903
                                try clear q910
                                try clear q911
                                try clear q913
                                obtain ⟨kq, x74_24, rfl, HA, HJ24, HO_8, HO_10, BK894, HB⟩ := hcut
                                cases kq with
                                | zero => exact absurd HA.out (by simp [spec_LendersOf.j4])
                                | succ kj24 =>
                                  have H := HA.out
                                  clear HA
                                  simp only [spec_LendersOf.j4] at H
                                  by_cases c34 : x74_24 = true
                                  · subst c34
                                    have H1 : (if 0 ≤ x14_4 then (if x14_4 < (l1.length : Int) then (if (rd_TimplLoan l1 x14_4).f1 = true then (spec_LendersOf.l2 kj24 l1 a2 x8_2 x9_2 x10_3 x11_3 (wrap64 (x12_4 + 1)) (-1) (wrap64 (x14_4 + 1)) l0_0) else (spec_LendersOf.l2 kj24 l1 a2 x8_2 x9_2 x10_3 x11_3 (wrap64 (x12_4 + 1)) x13_4 (wrap64 (x14_4 + 1)) l0_0)) else (none)) else (none)) = some (r1, r2) := by rw [if_pos rfl] at H; exact H
                                    clear H
                                    have H := H1
                                    clear H1
                                    by_cases c35 : 0 ≤ x14_4
                                    · rw [if_pos c35] at H
                                      have c35b0 : decide (0 ≤ x14_4) = true := decide_eq_true c35
                                      clear c35
                                      by_cases c36 : x14_4 < (l1.length : Int)
                                      · rw [if_pos c36] at H
                                        have c36b0 : decide (x14_4 < (l1.length : Int)) = true := decide_eq_true c36
                                        clear c36
                                        obtain ⟨bq37, hbq37⟩ : ∃ b_ : Bool, b_ = ((rd_TimplLoan l1 x14_4).f1) := ⟨_, rfl⟩
                                        replace H : (if bq37 = true then (spec_LendersOf.l2 kj24 l1 a2 x8_2 x9_2 x10_3 x11_3 (wrap64 (x12_4 + 1)) (-1) (wrap64 (x14_4 + 1)) l0_0) else (spec_LendersOf.l2 kj24 l1 a2 x8_2 x9_2 x10_3 x11_3 (wrap64 (x12_4 + 1)) x13_4 (wrap64 (x14_4 + 1)) l0_0)) = some (r1, r2) := by rw [← hbq37] at H; exact H
                                        have Nbq37 := Aside0.mk hbq37
                                        clear hbq37
                                        by_cases c38 : bq37 = true
                                        · subst c38
                                          have H1 : (spec_LendersOf.l2 kj24 l1 a2 x8_2 x9_2 x10_3 x11_3 (wrap64 (x12_4 + 1)) (-1) (wrap64 (x14_4 + 1)) l0_0) = some (r1, r2) := by rw [if_pos rfl] at H; exact H
                                          clear H
                                          have H := H1
                                          clear H1
                                          have H' := Aside0.mk H
                                          clear H
                                          have p915 : 0 ≤ (x14_4 : Int) := of_decide_eq_true (by first | (with_reducible assumption) | assumption)
                                          have q915 : x14_4 < (l1.length : Int) := of_decide_eq_true (by first | (with_reducible assumption) | assumption)
                                          obtain ⟨ad915, e915, hx915_0, hx915_1, hx915_2, hx915_3, hx915_4, hx915_5, hx915_6⟩ := at_TimplLoan HR1.out x14_4 p915 q915
                                          (try rw [← Nbq37.out] at hx915_4)
                                          cases e915
                                          replace hx915_0 := (HB.out.cell (World.block_lt_of_cell? w _ hx915_0)).trans hx915_0
                                          replace hx915_1 := (HB.out.cell (World.block_lt_of_cell? w _ hx915_1)).trans hx915_1
                                          replace hx915_2 := (HB.out.cell (World.block_lt_of_cell? w _ hx915_2)).trans hx915_2
                                          replace hx915_3 := (HB.out.cell (World.block_lt_of_cell? w _ hx915_3)).trans hx915_3
                                          replace hx915_4 := (HB.out.cell (World.block_lt_of_cell? w _ hx915_4)).trans hx915_4
                                          replace hx915_5 := (HB.out.cell (World.block_lt_of_cell? w _ hx915_5)).trans hx915_5
                                          replace hx915_6 := (HB.out.cell (World.block_lt_of_cell? w _ hx915_6)).trans hx915_6
                                          replace p915 := eq_true p915
                                          replace q915 := eq_true q915
                                          go_wp2
                                          go_roundg kj24
                                          case measure => have := HJ3.out; have := HK2.out; have := HK3.out; have := HK4.out; have := HJ24.out; omega
                                          case rel => exact ⟨(wrap64 (x12_4 + 1)), ((-1)), (wrap64 (x14_4 + 1)), (by first | rfl | (simp; done) | (simp [*]; done)), (by first | rfl | (simp; done) | (simp [*]; done)), (by first | rfl | (simp; done) | (simp [*]; done)), H', ⟨by have := HJ3.out; have := HK2.out; have := HK3.out; have := HK4.out; have := HJ24.out; omega⟩, ⟨by (with_reducible repeat (first | apply Kd.S_alloc | apply Kd.S_drewN | apply Kd.S_drew)); exact HO_8.out⟩, ⟨by (with_reducible repeat (first | apply Kd.R_alloc | apply Kd.R_drewN | apply Kd.R_drew)); exact HO_10.out⟩, ⟨by (with_reducible repeat (first | refine blk_drewN ?_ _ | refine blk_drew ?_ | refine blk_alloc ?_ _)); exact BK894.out⟩, ⟨by repeat (first | (with_reducible first | exact HB.out | apply below_alloc | apply pw_below_drewN | apply below_drew1 | refine below_set ?_ GE894.out) | exact HB.out)⟩⟩
                                        · replace c38 := Bool.eq_false_iff.mpr c38
                                          subst c38
                                          have H1 : (spec_LendersOf.l2 kj24 l1 a2 x8_2 x9_2 x10_3 x11_3 (wrap64 (x12_4 + 1)) x13_4 (wrap64 (x14_4 + 1)) l0_0) = some (r1, r2) := by rw [if_neg (show ¬ (false = true) by decide)] at H; exact H
                                          clear H
                                          have H := H1
                                          clear H1
                                          have H' := Aside0.mk H
                                          clear H
                                          have p915 : 0 ≤ (x14_4 : Int) := of_decide_eq_true (by first | (with_reducible assumption) | assumption)
                                          have q915 : x14_4 < (l1.length : Int) := of_decide_eq_true (by first | (with_reducible assumption) | assumption)
                                          obtain ⟨ad915, e915, hx915_0, hx915_1, hx915_2, hx915_3, hx915_4, hx915_5, hx915_6⟩ := at_TimplLoan HR1.out x14_4 p915 q915
                                          (try rw [← Nbq37.out] at hx915_4)
                                          cases e915
                                          replace hx915_0 := (HB.out.cell (World.block_lt_of_cell? w _ hx915_0)).trans hx915_0
                                          replace hx915_1 := (HB.out.cell (World.block_lt_of_cell? w _ hx915_1)).trans hx915_1
                                          replace hx915_2 := (HB.out.cell (World.block_lt_of_cell? w _ hx915_2)).trans hx915_2
                                          replace hx915_3 := (HB.out.cell (World.block_lt_of_cell? w _ hx915_3)).trans hx915_3
                                          replace hx915_4 := (HB.out.cell (World.block_lt_of_cell? w _ hx915_4)).trans hx915_4
                                          replace hx915_5 := (HB.out.cell (World.block_lt_of_cell? w _ hx915_5)).trans hx915_5
                                          replace hx915_6 := (HB.out.cell (World.block_lt_of_cell? w _ hx915_6)).trans hx915_6
                                          replace p915 := eq_true p915
                                          replace q915 := eq_true q915
                                          go_wp2
                                          go_roundg kj24
                                          case measure => have := HJ3.out; have := HK2.out; have := HK3.out; have := HK4.out; have := HJ24.out; omega
                                          case rel => exact ⟨(wrap64 (x12_4 + 1)), (x13_4), (wrap64 (x14_4 + 1)), (by first | rfl | (simp; done) | (simp [*]; done)), (by first | rfl | (simp; done) | (simp [*]; done)), (by first | rfl | (simp; done) | (simp [*]; done)), H', ⟨by have := HJ3.out; have := HK2.out; have := HK3.out; have := HK4.out; have := HJ24.out; omega⟩, ⟨by (with_reducible repeat (first | apply Kd.S_alloc | apply Kd.S_drewN | apply Kd.S_drew)); exact HO_8.out⟩, ⟨by (with_reducible repeat (first | apply Kd.R_alloc | apply Kd.R_drewN | apply Kd.R_drew)); exact HO_10.out⟩, ⟨by (with_reducible repeat (first | refine blk_drewN ?_ _ | refine blk_drew ?_ | refine blk_alloc ?_ _)); exact BK894.out⟩, ⟨by repeat (first | (with_reducible first | exact HB.out | apply below_alloc | apply pw_below_drewN | apply below_drew1 | refine below_set ?_ GE894.out) | exact HB.out)⟩⟩
                                      · rw [if_neg c36] at H
                                        exact absurd H (by simp)
                                    · rw [if_neg c35] at H
                                      exact absurd H (by simp)
                                  · replace c34 := Bool.eq_false_iff.mpr c34
                                    subst c34
                                    have H1 : (spec_LendersOf.l2 kj24 l1 a2 x8_2 x9_2 x10_3 x11_3 x12_4 x13_4 (wrap64 (x14_4 + 1)) l0_0) = some (r1, r2) := by rw [if_neg (show ¬ (false = true) by decide)] at H; exact H
                                    clear H
                                    have H := H1
                                    clear H1
                                    have H' := Aside0.mk H
                                    clear H
                                    go_wp2
                                    go_roundg kj24
                                    case measure => have := HJ3.out; have := HK2.out; have := HK3.out; have := HK4.out; have := HJ24.out; omega
                                    case rel => exact ⟨(x12_4), (x13_4), (wrap64 (x14_4 + 1)), (by first | rfl | (simp; done) | (simp [*]; done)), (by first | rfl | (simp; done) | (simp [*]; done)), (by first | rfl | (simp; done) | (simp [*]; done)), H', ⟨by have := HJ3.out; have := HK2.out; have := HK3.out; have := HK4.out; have := HJ24.out; omega⟩, ⟨by (with_reducible repeat (first | apply Kd.S_alloc | apply Kd.S_drewN | apply Kd.S_drew)); exact HO_8.out⟩, ⟨by (with_reducible repeat (first | apply Kd.R_alloc | apply Kd.R_drewN | apply Kd.R_drew)); exact HO_10.out⟩, ⟨by (with_reducible repeat (first | refine blk_drewN ?_ _ | refine blk_drew ?_ | refine blk_alloc ?_ _)); exact BK894.out⟩, ⟨by repeat (first | (with_reducible first | exact HB.out | apply below_alloc | apply pw_below_drewN | apply below_drew1 | refine below_set ?_ GE894.out) | exact HB.out)⟩⟩
                            · rw [if_neg c24] at H
                              have c24b0 : decide (x14_4 < (l1.length : Int)) = false := decide_eq_false c24
                              clear c24
                              by_cases c39 : x10_3.length < 17592186044416
                              · rw [if_pos c39] at H
                                have LMc39 := Aside0.mk c39
                                clear c39
                                obtain ⟨y907, hy907⟩ : ∃ y_ : List Int, y_ = (x10_3 ++ [wrap64 (x13_4 * x12_4)]) := ⟨_, rfl⟩
                                replace H : (spec_LendersOf.l1 k4 l1 a2 x8_2 x9_2 y907 (wrap64 (x11_3 + 1)) l0_0) = some (r1, r2) := by first | (rw [hy907]; with_reducible exact H) | (have H2_ := (Option.bind_some _ _).symm.trans H; rw [hy907]; with_reducible exact H2_) | (have H2_ := (Option.bind_some _ _).symm.trans H; with_reducible exact H2_) | with_reducible exact H | (rw [hy907]; exact H) | exact H
                                have Ny907 := Aside0.mk hy907
                                clear hy907
                                have H' := Aside0.mk H
                                clear H
                                go_wp2_with (first | ((with_reducible refine gate_builtin (b := .append) (xs := #[.tmp 82, .tmp 86]) rfl ?_); at_builtin; refine Kd.R_append (Kd.int .i64) (w0 := w) w.heap.size rfl (.tmp 82) (.tmp 86) 66 3 (.int .i64 0) 8 rfl Try.underlying66 info3 rfl (by decide) (by omega) u10 x10_3 (wrap64 (x13_4 * x12_4)) [.int .i64 (wrap64 (x13_4 * x12_4))] (fun _ => True) (fun _ => False) rfl rfl ?aP (fun _ hk => hk.elim) ?aF ?aO ?aB ?aS ?aL ?_; (case aP => exact rfl); (case aB => exact (by repeat (first | (with_reducible first | exact HB.out | apply below_alloc | apply pw_below_drewN | apply below_drew1 | refine below_set ?_ GE894.out) | exact HB.out))); (case aF => exact (fun _ _ => trivial)); (case aO => exact (by (with_reducible repeat (first | apply Kd.R_alloc | apply Kd.R_drewN | apply Kd.R_drew)); exact HO_10.out)); (case aS => exact (below_size (by repeat (first | (with_reducible first | exact HB.out | apply below_alloc | apply pw_below_drewN | apply below_drew1 | refine below_set ?_ GE894.out) | exact HB.out)))); (case aL => have := LMc39.out; omega); intro v908 w40 ho hb hg hat; rw [← Ny907.out] at ho; have n0_ := Aside0.mk (Kd.S_after (ok := (fun _ => True)) (by (with_reducible repeat (first | apply Kd.S_alloc | apply Kd.S_drewN | apply Kd.S_drew)); exact Kd.S_mono HO_8.out (fun _ hk => ⟨trivial, hk⟩)) hg hat); have n1_ := Aside0.mk (blk_grown (g := gb894) (o := .cells #[.slice (some ad903) l0_0.length c0_0] 26 (0, 0)) (by (with_reducible repeat (first | refine blk_drewN ?_ _ | refine blk_drew ?_ | refine blk_alloc ?_ _)); exact BK894.out) hg (Kd.R_ne HO_10.out BK894.out (by decide))); have n2_ := Aside0.mk (hb); have n3_ := Aside0.mk (ho); clear HO_8; clear BK894; clear HB; clear HO_10; have HO_8 := n0_; have BK894 := n1_; have HB := n2_; have HO909 := n3_; clear n0_ n1_ n2_ n3_; clear ho hb hg hat))
                                go_roundg k4
                                case measure => have := HJ3.out; have := HK2.out; have := HK3.out; have := HK4.out; omega
                                case rel => exact ⟨(y907), (wrap64 (x11_3 + 1)), (by first | rfl | (simp; done) | (simp [*]; done)), H', ⟨by have := HJ3.out; have := HK2.out; have := HK3.out; have := HK4.out; omega⟩, ⟨by (with_reducible repeat (first | apply Kd.S_alloc | apply Kd.S_drewN | apply Kd.S_drew)); exact Kd.S_mono HO_8.out (fun _ hk => hk.2)⟩, ⟨by (with_reducible repeat (first | apply Kd.R_alloc | apply Kd.R_drewN | apply Kd.R_drew)); exact HO909.out⟩, ⟨by (with_reducible repeat (first | refine blk_drewN ?_ _ | refine blk_drew ?_ | refine blk_alloc ?_ _)); exact BK894.out⟩, ⟨by repeat (first | (with_reducible first | exact HB.out | apply below_alloc | apply pw_below_drewN | apply below_drew1 | refine below_set ?_ GE894.out) | exact HB.out)⟩⟩
                              · rw [if_neg c39] at H
                                exact absurd H (by simp)
                      · rw [if_neg c22] at H
                        have c22b0 : decide (x11_3 < ((rd_Lsu8 l0_0 x9_2).length : Int)) = false := decide_eq_false c22
                        clear c22
                        by_cases c41 : x8_2.length < 5864062014805
                        · rw [if_pos c41] at H
                          have LMc41 := Aside0.mk c41
                          clear c41
                          obtain ⟨y904, hy904⟩ : ∃ y_ : List (List Int), y_ = (x8_2 ++ [x10_3]) := ⟨_, rfl⟩
                          replace H : (spec_LendersOf.l0 k3 l1 a2 y904 (wrap64 (x9_2 + 1)) l0_0) = some (r1, r2) := by first | (rw [hy904]; with_reducible exact H) | (have H2_ := (Option.bind_some _ _).symm.trans H; rw [hy904]; with_reducible exact H2_) | (have H2_ := (Option.bind_some _ _).symm.trans H; with_reducible exact H2_) | with_reducible exact H | (rw [hy904]; exact H) | exact H
                          have Ny904 := Aside0.mk hy904
                          clear hy904
                          have H' := Aside0.mk H
                          clear H
                          have hcz42_0 : wr.cell? ⟨gb894, 0, none⟩ = some (.slice A0_0 l0_0.length c0_0) := (blk_cell BK894.out 0).trans rfl
                          have hfz42_0 := blk_frozen BK894.out 0
                          have p903 : 0 ≤ (x9_2 : Int) := of_decide_eq_true (by first | (with_reducible assumption) | assumption)
                          have q903 : x9_2 < (l0_0.length : Int) := of_decide_eq_true (by first | (with_reducible assumption) | assumption)
                          obtain ⟨ad903, A903_0, c903_0, e903, hx903_0, hl903_0, hi903_0⟩ := at_Lsu8 HR0_0.out x9_2 p903 q903
                          cases e903
                          replace hx903_0 := (HB.out.cell (World.block_lt_of_cell? w _ hx903_0)).trans hx903_0
                          have HR903_0 := Aside0.mk hi903_0
                          have HC903_0 := Aside0.mk hl903_0
                          clear hi903_0 hl903_0
                          replace p903 := eq_true p903
                          replace q903 := eq_true q903
                          obtain ⟨Ao44, co44, eo44⟩ := Kd.R_slice HO_10.out
                          subst eo44
                          go_wp2_with (first | ((with_reducible refine gate_builtin (b := .append) (xs := #[.tmp 88, .tmp 90]) rfl ?_); at_builtin; refine Kd.S_append (Kd.slice 3 (Kd.int .i64)) (w0 := w) w.heap.size rfl (.tmp 88) (.tmp 90) 79 66 (.slice none 0 0) 24 rfl Try.underlying79 info66 rfl (by decide) (by omega) u8 x8_2 x10_3 [.slice Ao44 x10_3.length co44] (fun _ => True) (fun k_ => some k_ = (.slice Ao44 x10_3.length co44 : Value).ownBlock) rfl rfl ?aP (fun k_ hk_ => ((Kd.R_mono (ok' := fun k_ => ((fun _ => True)) k_ ∧ some k_ ≠ (u8 : Value).ownBlock) (Kd.R_apart' (HO_10.out) (Kd.S_typed HO_8.out) (by decide)) (fun k_ hk => ⟨trivial, hk.2⟩))).1 k_ hk_.symm) ?aF ?aO ?aB ?aS ?aL ?_; (case aP => exact Kd.M_row (Kd.R_mono (Kd.R_tight rfl (Kd.R_mono (ok' := fun k_ => ((fun _ => True)) k_ ∧ some k_ ≠ (u8 : Value).ownBlock) (Kd.R_apart' (HO_10.out) (Kd.S_typed HO_8.out) (by decide)) (fun k_ hk => ⟨trivial, hk.2⟩))) (fun _ h_ => h_))); (case aB => exact (by repeat (first | (with_reducible first | exact HB.out | apply below_alloc | apply pw_below_drewN | apply below_drew1 | refine below_set ?_ GE894.out) | exact HB.out))); (case aF => exact (fun _ _ => trivial)); (case aO => exact (by (with_reducible repeat (first | apply Kd.S_alloc | apply Kd.S_drewN | apply Kd.S_drew)); exact Kd.S_mono HO_8.out (fun k_ hk => ⟨trivial, fun e_ => hk e_⟩))); (case aS => exact (below_size (by repeat (first | (with_reducible first | exact HB.out | apply below_alloc | apply pw_below_drewN | apply below_drew1 | refine below_set ?_ GE894.out) | exact HB.out)))); (case aL => have := LMc41.out; omega); intro v905 w43 ho hb hg hat; rw [← Ny904.out] at ho; have n0_ := Aside0.mk (blk_grown (g := gb894) (o := .cells #[.slice (some ad903) l0_0.length c0_0] 26 (0, 0)) (by (with_reducible repeat (first | refine blk_drewN ?_ _ | refine blk_drew ?_ | refine blk_alloc ?_ _)); exact BK894.out) hg (Kd.S_ne HO_8.out BK894.out (by decide))); have n1_ := Aside0.mk (hb); have n2_ := Aside0.mk (ho); clear BK894; clear HB; clear HO_8; clear HO_10; have BK894 := n0_; have HB := n1_; have HO906 := n2_; clear n0_ n1_ n2_; clear ho hb hg hat))
                          go_roundg k3
                          case measure => have := HJ3.out; have := HK2.out; have := HK3.out; omega
                          case rel => exact ⟨(y904), (wrap64 (x9_2 + 1)), (by first | rfl | (simp; done) | (simp [*]; done)), H', ⟨by have := HJ3.out; have := HK2.out; have := HK3.out; omega⟩, ⟨by (with_reducible repeat (first | apply Kd.S_alloc | apply Kd.S_drewN | apply Kd.S_drew)); exact HO906.out⟩, ⟨by (with_reducible repeat (first | refine blk_drewN ?_ _ | refine blk_drew ?_ | refine blk_alloc ?_ _)); exact BK894.out⟩, ⟨by repeat (first | (with_reducible first | exact HB.out | apply below_alloc | apply pw_below_drewN | apply below_drew1 | refine below_set ?_ GE894.out) | exact HB.out)⟩⟩
                        · rw [if_neg c41] at H
                          exact absurd H (by simp)
                    · rw [if_neg c21] at H
                      exact absurd H (by simp)
                  · rw [if_neg c20] at H
                    exact absurd H (by simp)
            · rw [if_neg c16] at H
              have c16b0 : decide (x9_2 < (l0_0.length : Int)) = false := decide_eq_false c16
              clear c16
              simp only [Option.some.injEq, Prod.mk.injEq] at H
              obtain ⟨rfl, rfl⟩ := H
              have hcz45_0 : wr.cell? ⟨gb894, 0, none⟩ = some (.slice A0_0 l0_0.length c0_0) := (blk_cell BK894.out 0).trans rfl
              have hfz45_0 := blk_frozen BK894.out 0
              go_wp2
              go_ret2
              exact ⟨_, by first | rfl | (simp [errW_none, errW_some] <;> rfl) | (simp [*, errW_none, errW_some] <;> rfl), by (with_reducible repeat (first | apply Kd.S_alloc | apply Kd.S_drewN | apply Kd.S_drew)); exact HO_8.out, by repeat (first | (with_reducible first | exact HB.out | apply below_alloc | apply pw_below_drewN | apply below_drew1 | refine below_set ?_ GE894.out) | exact HB.out)⟩

end Go.Proofs.Ytpbboooeahmgpaa.P


