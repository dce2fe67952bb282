/- For all arguments, impl.FlattenRope answers what spec.FlattenRope answers, leaves its arguments alone, and shares nothing of what it returns.
   The row of the law FnExactFlattenRope, out of its walk. Conditions: none. -/
import Derived.Test.YtoomjghabiojkaaQFnExactFlattenRope5
import Derived.Test.YtoomjghabiojkaaRows
import Derived.WalkKit
import Derived.ProofKit
import Derived.OpenShut
import Derived.ShutString
import Derived.ChangeOld
import Derived.Below
import Derived.SizedLaws
/- impl.FlattenRope, as a whole. -/
namespace Go.Proofs.Ytoomjghabiojkaa.P
open Go.RowKit Go.Proofs.YtoomjghabiojkaaW.PrintWords Go.Proofs.YtoomjghabiojkaaW.Mine
set_option linter.unusedVariables false
set_option linter.unusedSimpArgs false
theorem isRope_f (m : List (List Int)) (l : List SimplWindow) : impl_isRope.f m l = some (ropeB m l) := by
  unfold impl_isRope.f impl_areOn.f ropeB
  rw [Option.bind_some]
  cases (memB m && l.all (winW m))
  · rfl
  · have : decide ((l.length : Int) ≤ 12) = decide (l.length ≤ 12) := by rw [decide_eq_decide]; omega
    simp [this]
def impl_FlattenRope.f (m : List (List Int)) (l : List SimplWindow) : Option (List (List Int) × List SimplWindow × Bool) := some (flatB m l)
theorem impl_FlattenRope.calls (A0_0 : Option Addr) (c0_0 : Nat) (l0_0 : List (List Int)) (A1_0 : Option Addr) (c1_0 : Nat) (l1_0 : List (SimplWindow)) (r1 : List (List Int)) (r2 : List (SimplWindow)) (r3 : Bool) (w : World) (hr0_0 : Kd.C (Kd.slice 5 (Kd.int .u8)) w A0_0 l0_0.length l0_0) (hc0_0 : l0_0.length ≤ c0_0) (hr1_0 : Kd.C kimplWindow w A1_0 l1_0.length l1_0) (hc1_0 : l1_0.length ≤ c1_0) (h : impl_FlattenRope.f l0_0 l1_0 = some (r1, r2, r3)) :
    Calls Try.prog 66 #[.agg #[.slice A0_0 l0_0.length c0_0], .agg #[.slice A1_0 l1_0.length c1_0]] w fun e w' => ∃ v0_ v1_ : Value, e = .returned (.tuple #[.agg #[v0_], .agg #[v1_], .bool r3]) ∧ Kd.S (Kd.slice 5 (Kd.int .u8)) 119 w' w.heap.size (fun _ => True) v0_ r1 ∧ Kd.R kimplWindow 48 w' w.heap.size (fun _ => True) v1_ r2 ∧ Below w.heap.size w w' := by
  have h := Option.some.inj h
  unfold flatB at h
  have hi := isRope_f l0_0 l1_0
  cases hr : ropeB l0_0 l1_0
  · rw [hr, if_neg (by decide)] at h
    cases h
    rw [hr] at hi
    exact impl_FlattenRope_w0 A0_0 c0_0 l0_0 A1_0 c1_0 l1_0 w hr0_0 hc0_0 hr1_0 hc1_0 hi
  · rw [hr, if_pos rfl] at h
    rw [hr] at hi
    obtain ⟨h1, h2, h3⟩ := ropeB_of hr
    have hm := memB_ok h1
    have ht := (implText_f hr).rounds
    by_cases h0 : (textB l0_0 l1_0).length = 0
    · rw [if_pos h0] at h
      cases h
      exact impl_FlattenRope_w1 A0_0 c0_0 l0_0 A1_0 c1_0 l1_0 _ w hr0_0 hc0_0 hr1_0 hc1_0 hi ht (own_f _ hm).rounds (by simpa using h0)
    · rw [if_neg h0] at h
      have hT : ((((textB l0_0 l1_0).length : Int) == 0) = false) := by
        rw [beq_eq_false_iff_ne]
        omega
      have hn := (implNewArray_f l0_0 ((textB l0_0 l1_0).length : Int) hm).rounds
      unfold newArr at hn
      by_cases h4 : 64 < (textB l0_0 l1_0).length ∨ l0_0.length = 16
      · rw [if_pos h4] at h
        cases h
        rw [if_neg (by omega)] at hn
        exact impl_FlattenRope_w2 A0_0 c0_0 l0_0 A1_0 c1_0 l1_0 _ _ _ _ _ _ w hr0_0 hc0_0 hr1_0 hc1_0 hi ht hn hT
      · rw [if_neg h4] at h
        cases h
        rw [if_pos ⟨h1, by omega, by omega⟩] at hn
        have e1 : ((l0_0 ++ [List.replicate ((textB l0_0 l1_0).length : Int).toNat (0 : Int)]).getD (l0_0.length : Int).toNat []) = List.replicate (textB l0_0 l1_0).length (0 : Int) := by simp
        have := impl_FlattenRope_w3 A0_0 c0_0 l0_0 A1_0 c1_0 l1_0 _ _ _ _ _ _ w hr0_0 hc0_0 hr1_0 hc1_0 hi ht hn hT _ e1 (by omega) (by simp; omega) (by omega) (by omega) (by simp) (by simp; omega) (by simp; omega)
        have e2 : (l0_0 ++ [List.replicate ((textB l0_0 l1_0).length : Int).toNat (0 : Int)]).set (l0_0.length : Int).toNat (spl (List.replicate (textB l0_0 l1_0).length (0 : Int)) (0 : Int).toNat ((textB l0_0 l1_0).take ((textB l0_0 l1_0).length : Int).toNat)) = l0_0 ++ [textB l0_0 l1_0] := by
          simp [spl]
        rw [e2] at this
        exact this
theorem implFlat_f (m : List (List Int)) (l : List SimplWindow) : impl_FlattenRope.f m l = some (flatB m l) := rfl
end Go.Proofs.Ytoomjghabiojkaa.P


/- Rows of flat elements written in place: what a loop of marks does to the cells. -/
namespace Go.Proofs.YtoomjghabiojkaaW.Mine
open Go.RowKit Go.Proofs.YtoomjghabiojkaaW.PrintWords
set_option linter.unusedVariables false
set_option linter.unusedSimpArgs false
section
variable {P : Program} {ops : Array Oper} {Q : Exit → Act → World → Prop} {w w2 : World} {a : Act} {r : List Nat} {i g : Nat} {o : Oper}
theorem mRun (ho : ops.toList[i]? = some o) (hw : Region.wanted o (yielded ops a.tmps) = true) (h : Oper.wp P o a w (wpOps P ops Q r) Q) : wpOps P ops Q (i :: r) a w := by
  rw [Array.getElem?_toList] at ho
  rw [wpOps_cons]
  unfold wpOp
  rw [ho]
  simp only
  rw [if_pos hw]
  exact .inl h
theorem mSkip (ho : ops.toList[i]? = some o) (hr : (execOp a.eval o).run P w = .ok .skip w2) (h : wpOps P ops Q r a w2) (hd : o.dst = none := by rfl) (hw : Region.wanted o (yielded ops a.tmps) = true := by rfl) : wpOps P ops Q (i :: r) a w := by
  refine mRun ho hw ?_
  unfold Oper.wp
  rw [hr]
  show wpOps P ops Q r (a.put o.dst undef) _
  rw [hd]
  exact h
theorem mReg {id n : Nat} (l : List Nat) (hn : ops.size = n) (hl : List.range n = l) (h : wpOps P ops Q l a w) : (Code.region id ops false).wp P Q a w := by
  subst hl hn
  exact wp_region h
theorem mSet {cs : Array Value} {j : Nat} {u : Value} : (w.setRow g cs).setCell ⟨g, j, none⟩ u = w.setRow g (cs.setIfInBounds j u) := by
  unfold World.setRow World.setCell
  congr 1
  apply Array.ext_getElem?
  intro k
  simp only [Array.getElem?_modify]
  by_cases e : g = k
  · subst e
    simp only [if_true]
    cases h : w.heap[g]? with
    | none => rfl
    | some x => cases x <;> rfl
  · simp only [if_neg e]
theorem mCell {c0 cs : Array Value} {t j : Nat} (h : w.heap[g]? = some (.cells c0 t (0, 0))) (hj : j < cs.size) : (w.setRow g cs).cell? ⟨g, j, none⟩ = some (cs.getD j undef) := by
  rw [blk_cell (setRow_heap w g c0 cs t _ h) j]
  simp [hj]
theorem mFrozen {c0 cs : Array Value} {t : Nat} (h : w.heap[g]? = some (.cells c0 t (0, 0))) (j : Nat) : (w.setRow g cs).frozen? ⟨g, j, none⟩ = false := blk_frozen (setRow_heap w g c0 cs t _ h) j
end
theorem setAll_toList : ∀ (us : List Value) (off : Nat) (cs : Array Value), off + us.length ≤ cs.size → (setAll cs off us).toList = cs.toList.take off ++ (us ++ cs.toList.drop (off + us.length))
  | [], off, cs, h => by simp [setAll]
  | u :: r, off, cs, h => by
    simp only [List.length_cons] at h
    have hl : off < cs.toList.length := by simp; omega
    show (setAll (cs.setIfInBounds off u) (off + 1) r).toList = _
    rw [setAll_toList r (off + 1) _ (by simp; omega), Array.toList_setIfInBounds, List.drop_set_of_lt (by omega), List.take_succ_eq_append_getElem (by simpa using hl), List.take_set_of_le (Nat.le_refl _), List.getElem_set_self]
    simp [show off + 1 + r.length = off + (r.length + 1) by omega]
section
variable {α : Type} {cells : α → List Value} {q : Nat}
theorem flat_length (hlen : ∀ x, (cells x).length = q) (l : List α) : (l.flatMap cells).length = l.length * q := by
  induction l with
  | nil => simp
  | cons x l ih => rw [List.flatMap_cons, List.length_append, ih, hlen, List.length_cons, Nat.add_mul, Nat.one_mul, Nat.add_comm]
theorem flat_step (hlen : ∀ x, (cells x).length = q) (L : List Value) (M D : List α) (x y : α) (n : Nat) (hn : n = M.length + 1 + D.length) (h : L.take (n * q) = (M ++ x :: D).flatMap cells) :
    (L.take (M.length * q) ++ (cells y ++ L.drop (M.length * q + q))).take (n * q) = (M ++ y :: D).flatMap cells := by
  have e1 : n * q = M.length * q + (q + D.length * q) := by rw [hn, Nat.add_mul, Nat.add_mul, Nat.one_mul, Nat.add_assoc]
  have hM := flat_length hlen M
  have hD := flat_length hlen D
  have h1 : L.take (M.length * q) = M.flatMap cells := by
    have := congrArg (List.take (M.length * q)) h
    rw [List.take_take, Nat.min_eq_left (by omega), List.flatMap_append, List.take_left' hM] at this
    exact this
  have h2 : (L.drop (M.length * q + q)).take (D.length * q) = D.flatMap cells := by
    have := congrArg (List.drop (M.length * q + q)) h
    rw [List.drop_take, show n * q - (M.length * q + q) = D.length * q by omega, List.flatMap_append, List.flatMap_cons] at this
    rw [this, ← List.drop_drop, List.drop_left' hM, List.drop_left' (hlen x)]
  rw [h1, e1, List.flatMap_append, List.flatMap_cons]
  have e2 : (M.flatMap cells).length + ((cells y).length + D.length * q) = M.length * q + (q + D.length * q) := by rw [hM, hlen]
  rw [← e2, List.take_length_add_append, List.take_length_add_append, h2]
def marksG (mk : Int → α) (q : Nat) : Int → Nat → List α
  | _, 0 => []
  | a, n + 1 => mk a :: marksG mk q (a + q) n
theorem marksG_length (mk : Int → α) : ∀ (n : Nat) (a : Int), (marksG mk q a n).length = n
  | 0, _ => rfl
  | n + 1, a => by simp [marksG, marksG_length mk n]
theorem marksG_snoc (mk : Int → α) : ∀ (n : Nat) (a : Int), marksG mk q a (n + 1) = marksG mk q a n ++ [mk (a + q * n)]
  | 0, a => by simp [marksG]
  | n + 1, a => by
    rw [marksG, marksG_snoc mk n (a + q), marksG, List.cons_append]
    rw [show a + (q : Int) + (q : Int) * (n : Int) = a + (q : Int) * ((n + 1 : Nat) : Int) by push_cast; rw [Int.mul_add, Int.mul_one]; omega]
theorem marks_round (hlen : ∀ x, (cells x).length = q) (mk : Int → α) (a : Int) (l : List α) (i : Nat) (hi : i < l.length) {c c' : Array Value} (h : c.toList.take (l.length * q) = (marksG mk q a i ++ l.drop i).flatMap cells) (hs : l.length * q ≤ c.size) (hc : c' = setAll c (i * q) (cells (mk (a + q * i)))) :
    c'.toList.take (l.length * q) = (marksG mk q a (i + 1) ++ l.drop (i + 1)).flatMap cells := by
  have hb : i * q + q ≤ l.length * q := by
    have := Nat.mul_le_mul_right q hi
    rw [Nat.succ_mul] at this
    exact this
  subst hc
  rw [setAll_toList _ _ _ (by rw [hlen]; omega), hlen, marksG_snoc, List.append_assoc, List.singleton_append]
  rw [List.drop_eq_getElem_cons hi] at h
  have := flat_step hlen c.toList (marksG mk q a i) (l.drop (i + 1)) l[i] (mk (a + q * i)) l.length (by rw [marksG_length, List.length_drop]; omega) h
  rw [marksG_length] at this
  exact this
variable {d : Kd α}
structure FlatK (d : Kd α) (cells : α → List Value) (q : Nat) : Prop where
  sz : d.sz = q
  len : ∀ x, (cells x).length = q
  opn : ∀ {w : World} {x : α} {cs : List Value}, d.K w x cs → cs = cells x
  mak : ∀ (w : World) (base : Nat) (ok : Nat → Prop) (x : α), d.M w base ok x (cells x)
theorem reps_flat (hlen : ∀ x, (cells x).length = q) : ∀ (l : List α) (cs : List Value), Reps (fun (x : α) c => c = cells x) q l cs → cs = l.flatMap cells
  | [], cs, h => List.eq_nil_of_length_eq_zero (by have := h.1; simpa using this)
  | x :: l, cs, h => by
    have h0 : cs.take q = cells x := by
      have := h.2 0 x rfl
      simpa using this
    have h1 := reps_flat hlen l (cs.drop q) ⟨by rw [List.length_drop, h.1, List.length_cons, Nat.add_mul, Nat.one_mul, Nat.add_sub_cancel], fun j p hp => by
      have := h.2 (j + 1) p (by simpa using hp)
      rw [List.drop_drop, show q + j * q = (j + 1) * q by rw [Nat.add_mul, Nat.one_mul, Nat.add_comm]]
      exact this⟩
    rw [List.flatMap_cons, ← h0, ← h1, List.take_append_drop]
theorem flat_reps (hlen : ∀ x, (cells x).length = q) : ∀ (l : List α), Reps (fun (x : α) c => c = cells x) q l (l.flatMap cells)
  | [] => ⟨by simp, fun j p h => by cases h⟩
  | x :: l => by
    refine ⟨flat_length hlen _, fun j p hp => ?_⟩
    cases j with
    | zero =>
      cases hp
      rw [List.flatMap_cons, Nat.zero_mul, List.drop_zero, List.take_left' (hlen _)]
    | succ j =>
      have := (flat_reps hlen l).2 j p (by simpa using hp)
      rw [List.flatMap_cons, show (j + 1) * q = q + j * q by rw [Nat.add_mul, Nat.one_mul, Nat.add_comm], ← List.drop_drop, List.drop_left' (hlen _)]
      exact this
variable {w w1 : World} {e base : Nat} {ok : Nat → Prop} {v : Value} {l : List α}
theorem cells_of_R (F : FlatK d cells q) (h : Kd.R d e w base ok v l) : w.ownsRow base e q v l.length (l.flatMap cells) := by
  obtain ⟨_, inner, ho, hr⟩ := h
  rw [F.sz] at ho hr
  have : inner = l.flatMap cells := reps_flat F.len l inner ⟨hr.1, fun j p hp => F.opn (d.K_of_M (hr.2 j p hp))⟩
  rw [← this]
  exact ho
theorem R_of_cells (F : FlatK d cells q) (ho : w.ownsRow base e q v l.length (l.flatMap cells)) (hok : ∀ k, v.ownBlock = some k → ok k) : Kd.R d e w base ok v l := by
  refine ⟨hok, l.flatMap cells, by rw [F.sz]; exact ho, ?_⟩
  rw [F.sz]
  exact ⟨(flat_reps F.len l).1, fun j p hp => by rw [(flat_reps F.len l).2 j p hp]; exact F.mak _ _ _ _⟩
theorem R_blk (F : FlatK d cells q) (h : Kd.R d e w base ok v l) (hl : 0 < l.length) :
    ∃ g cap cur, v = .slice (some ⟨g, 0, none⟩) l.length cap ∧ ok g ∧ w.heap[g]? = some (.cells cur e (0, 0)) ∧ l.length * q ≤ cur.size ∧ cur.toList.take (l.length * q) = l.flatMap cells ∧ base ≤ g ∧
      ∀ (w1 : World) (cur' : Array Value) (l' : List α), w1.heap[g]? = some (.cells cur' e (0, 0)) → cur'.size = cur.size → l'.length = l.length → cur'.toList.take (l.length * q) = l'.flatMap cells → Kd.R d e w1 base ok v l' := by
  have ho := cells_of_R F h
  rcases ho.2 with ⟨_, h0⟩ | ⟨g, cap, cur, rfl, hb, hh, hle, hmax, hsz, htk⟩
  · omega
  · refine ⟨g, cap, cur, rfl, h.1 g rfl, hh, by rw [hsz]; exact Nat.mul_le_mul_right _ hle, htk, hb, ?_⟩
    intro w1 cur' l' hh' hs hl' ht
    refine R_of_cells F ⟨by rw [flat_length F.len], .inr ⟨g, cap, cur', by rw [hl'], hb, hh', by rw [hl']; exact hle, hmax, by rw [hs, hsz], by rw [hl', ht]⟩⟩ (fun k hk => h.1 k hk)
theorem marks_fin (F : FlatK d cells q) {w0 w' : World} {P_ : Nat → Prop} {mk : Int → α} {a : Int} (hB : Below w0.heap.size w0 w) (ho : Kd.R d e w w0.heap.size P_ v l) {g cap : Nat} {cur cur' : Array Value} (hv : v = .slice (some ⟨g, 0, none⟩) l.length cap) (hg : w.heap[g]? = some (.cells cur e (0, 0))) (hP : P_ g) (hge : w0.heap.size ≤ g)
    (hback : ∀ (w1 : World) (cur' : Array Value) (l' : List α), w1.heap[g]? = some (.cells cur' e (0, 0)) → cur'.size = cur.size → l'.length = l.length → cur'.toList.take (l.length * q) = l'.flatMap cells → Kd.R d e w1 w0.heap.size P_ v l')
    (hs : cur'.size = cur.size) (ht : cur'.toList.take (l.length * q) = (marksG mk q a l.length).flatMap cells) (hw : w' = w.setRow g cur') :
    Kd.R d e w' w0.heap.size P_ v (marksG mk q a l.length) ∧ Below w0.heap.size w0 w' ∧ Kept w w' P_ := by
  subst hw
  refine ⟨hback _ cur' _ (setRow_heap w g _ _ _ _ hg) hs (marksG_length _ _ _) ht, below_setRow hB hge _, ⟨by simp, fun k _ hn => setRow_other w g k cur' (fun e_ => hn (by rw [e_]; exact hP))⟩⟩
end
def Ty (w : World) (es : List Nat) (k : Nat) : Prop := ∃ q, q ∈ es ∧ ∃ cells, w.heap[k]? = some (.cells cells q (0, 0))
theorem Ty.ne {w : World} {es es2 : List Nat} {k : Nat} (h : Ty w es k) (h2 : Ty w es2 k) (hd : ∀ q ∈ es, q ∉ es2) : False := by
  obtain ⟨q, hq, c, hc⟩ := h
  obtain ⟨q2, hq2, c2, hc2⟩ := h2
  rw [hc] at hc2
  injection hc2 with hc2
  injection hc2 with _ h3
  subst h3
  exact hd _ hq hq2
section
variable {α : Type} {d : Kd α} {w w' : World} {e base : Nat} {ok ok2 : Nat → Prop} {es : List Nat} {v : Value} {xs : List α}
theorem S_ty (h : Kd.S d e w base ok v xs) : Kd.S d e w base (fun k => (ok k ∧ k < w.heap.size) ∧ Ty w (e :: d.E) k) v xs := Kd.S_mono (Kd.S_bound h) (fun k hk => ⟨⟨hk.1, hk.2.2.1⟩, hk.2.2.2⟩)
theorem R_ty (h : Kd.R d e w base ok v xs) : Kd.R d e w base (fun k => (ok k ∧ k < w.heap.size) ∧ Ty w (e :: d.E) k) v xs := Kd.R_mono (Kd.R_bound h) (fun k hk => ⟨⟨hk.1, hk.2.2.1⟩, hk.2.2.2⟩)
theorem S_tyKept (h : Kd.S d e w base ok v xs) (hK : Kept w w' (fun k => ok2 k ∧ Ty w es k)) (hd : ∀ q ∈ e :: d.E, q ∉ es) : Kd.S d e w' base ok v xs :=
  Kd.S_mono (Kd.S_step (S_ty h) (fun k hk hlt => hK.2 k hlt (fun h2 => hk.2.ne h2.2 hd))) (fun _ hk => hk.1.1)
theorem R_tyKept (h : Kd.R d e w base ok v xs) (hK : Kept w w' (fun k => ok2 k ∧ Ty w es k)) (hd : ∀ q ∈ e :: d.E, q ∉ es) : Kd.R d e w' base ok v xs :=
  Kd.R_mono (Kd.R_step (R_ty h) (fun k hk hlt => hK.2 k hlt (fun h2 => hk.2.ne h2.2 hd))) (fun _ hk => hk.1.1)
end
end Go.Proofs.YtoomjghabiojkaaW.Mine


/- markWindowS: a slice of flat elements written in place. -/
namespace Go.Proofs.Ytoomjghabiojkaa.P
open Go.RowKit Go.Proofs.YtoomjghabiojkaaW.PrintWords Go.Proofs.YtoomjghabiojkaaW.PrintMore Go.Proofs.YtoomjghabiojkaaW.Mine
open List (setIfInBounds_toArray set_cons_zero set_cons_succ)
set_option linter.unusedVariables false
set_option linter.unusedSimpArgs false
def cellsW (x : SimplWindow) : List Value := [.int .i64 x.f0, .int .i64 x.f1, .int .i64 x.f2, .int .i64 x.f3]
def markW (a : Int) : SimplWindow := ⟨a, a + 1, a + 2, a + 3⟩
theorem flat_markWindowS : FlatK kimplWindow cellsW 4 := ⟨rfl, fun _ => rfl, fun h => kimplWindow_open h, fun w base ok x => kimplWindow_mkM w base ok x⟩
set_option maxHeartbeats 8000000 in
set_option maxRecDepth 100000 in
theorem laws_markWindowS_loop (g c : Nat) (l : List SimplWindow) (a : Int) (cur : Array Value) (w : World) (hg : w.heap[g]? = some (.cells cur 48 (0, 0))) (ht : cur.toList.take (l.length * 4) = l.flatMap cellsW) (hsz : l.length * 4 ≤ cur.size) (ha : 0 ≤ a) (hb : a + 4 * l.length ≤ 4611686018427387904) :
    Calls Try.prog 78 #[.slice (some ⟨g, 0, none⟩) l.length c, .int .i64 a] w fun e w' => e = .returned (.int .i64 (a + 4 * l.length)) ∧ ∃ cur' : Array Value, cur'.size = cur.size ∧ cur'.toList.take (l.length * 4) = (marksG (markW) 4 a l.length).flatMap cellsW ∧ w' = w.setRow g cur' := by
  have HG := Aside0.mk hg; have HT := Aside0.mk ht; clear hg ht
  go_enter Try.func78, Try.ntmps78
  go_wp2
  go_loopg [1, 5] (l.length + 1) (fun kq v1 v5 w' => ∃ (i : Nat) (ci : Array Value), v1 = .int .i64 (a + 4 * i) ∧ v5 = .int .i64 (i : Int) ∧ Aside0 (kq + i = l.length + 1 ∧ i ≤ l.length) ∧ Aside0 (ci.size = cur.size) ∧ Aside0 (ci.toList.take (l.length * 4) = (marksG (markW) 4 a i ++ l.drop i).flatMap cellsW) ∧ Aside0 (w' = w.setRow g ci))
  case atStart => exact ⟨0, cur, by simp, rfl, ⟨rfl, Nat.zero_le _⟩, ⟨rfl⟩, ⟨by simpa [marksG] using HT.out⟩, ⟨(setRow_self w g cur _ _ HG.out).symm⟩⟩
  case round =>
    obtain ⟨i, ci, rfl, rfl, HK, HZ, HC, HW⟩ := hrel
    by_cases hi : i < l.length
    · obtain ⟨k1, rfl⟩ : ∃ q, gk = q + 1 := ⟨gk - 1, by have := HK.out; omega⟩
      have hi1 : decide ((i : Int) < (l.length : Int)) = true := decide_eq_true (by omega)
      have p5 := eq_true (show (0 : Int) ≤ (i : Int) by omega); have q5 := eq_true (show (i : Int) < (l.length : Int) by omega)
      obtain ⟨b, hbb⟩ : ∃ b : Int, b = a + 4 * i := ⟨_, rfl⟩
      have hb0 : 0 ≤ b ∧ b + 4 ≤ 4611686018427387904 := by omega
      rw [← hbb]; have HBB := Aside0.mk hbb; clear hbb
      obtain ⟨c0_, hc0_⟩ : ∃ x, x = ci := ⟨_, rfl⟩
      have hz0_ : c0_.size = cur.size := by rw [hc0_]; exact HZ.out
      rw [← hc0_] at HC; have HW2 := HW.out; subst HW2; rw [← hc0_]
      clear hc0_ HZ HW
      refine wp_seq ?_
      refine wp_seq ?_
      refine mReg [0, 1, 2, 3] rfl rfl ?_
      refine tlP (v := .int .i64 ((i : Int))) 6 rfl ?_
      simp only [Act.put, setIfInBounds_toArray, set_cons_zero, set_cons_succ]
      refine tlP (v := .slice (some ⟨g, 0, none⟩) l.length c) 7 rfl ?_
      simp only [Act.put, setIfInBounds_toArray, set_cons_zero, set_cons_succ]
      refine tlP (v := .int .i64 (l.length : Int)) 8 (hr := by go_simp; try rfl) rfl ?_
      simp only [Act.put, setIfInBounds_toArray, set_cons_zero, set_cons_succ]
      refine tlP (v := .bool true) 9 rfl ?_ (hr := by go_simp; try simp [hi])
      simp only [Act.put, setIfInBounds_toArray, set_cons_zero, set_cons_succ]
      refine tl0 ?_
      refine wp_cond_true rfl ?_
      refine wp_skip ?_
      refine thN ?_
      refine wp_seq ?_
      refine wp_block ?_
      refine wp_seq ?_
      refine mReg [0, 1, 2, 3, 4, 5] rfl rfl ?_
      refine tlP (v := .slice (some ⟨g, 0, none⟩) l.length c) 12 rfl ?_
      simp only [Act.put, setIfInBounds_toArray, set_cons_zero, set_cons_succ]
      refine tlP (v := .int .i64 ((i : Int))) 13 rfl ?_
      simp only [Act.put, setIfInBounds_toArray, set_cons_zero, set_cons_succ]
      refine tlP (v := .int .i64 (b)) 14 rfl ?_
      simp only [Act.put, setIfInBounds_toArray, set_cons_zero, set_cons_succ]
      refine tlP (v := .pointer (some ⟨g, i * 4, none⟩)) 15 (hr := by go_simp; try rfl) rfl ?_
      simp only [Act.put, setIfInBounds_toArray, set_cons_zero, set_cons_succ]
      refine tlP (v := .pointer (some ⟨g, i * 4, none⟩)) 16 (hr := by go_simp; try rfl) rfl ?_
      simp only [Act.put, setIfInBounds_toArray, set_cons_zero, set_cons_succ]
      have hc_ : (w.setRow g c0_).cell? ⟨g, i * 4, none⟩ = some (c0_.getD (i * 4) undef) := mCell HG.out (by simp only [hz0_]; omega)
      have hf_ : (w.setRow g c0_).frozen? ⟨g, i * 4, none⟩ = false := mFrozen HG.out _
      refine mSkip (w2 := w.setRow g (c0_.setIfInBounds (i * 4) (.int .i64 (b)))) rfl (by rw [← mSet]; go_simp; try rfl) ?_
      clear hc_ hf_
      obtain ⟨c1_, hc1_⟩ : ∃ x, x = c0_.setIfInBounds (i * 4) (.int .i64 (b)) := ⟨_, rfl⟩
      have hz1_ : c1_.size = cur.size := by rw [hc1_, Array.size_setIfInBounds, hz0_]
      rw [← hc1_]; have HC1_ := Aside0.mk hc1_; clear hc1_
      refine tl0 ?_
      refine wp_seq ?_
      refine mReg [0, 1, 2] rfl rfl ?_
      refine tlP (v := .int .i64 (b)) 17 rfl ?_
      simp only [Act.put, setIfInBounds_toArray, set_cons_zero, set_cons_succ]
      refine tlP (v := .int .i64 (b + 1)) 18 rfl ?_ (hr := run_arith (q := .add) (k := .i64) (m := b) (n := 1) (r := b + 1) rfl rfl rfl (.inl ⟨rfl, by rw [show (b : Int) + 1 = b + 1 by omega]; exact i64_ok (n := b + 1) (by omega) (by omega)⟩))
      simp only [Act.put, setIfInBounds_toArray, set_cons_zero, set_cons_succ]
      refine tlP (v := .int .i64 (b + 1)) 1 rfl ?_
      simp only [Act.put, setIfInBounds_toArray, set_cons_zero, set_cons_succ]
      refine tl0 ?_
      refine wp_seq ?_
      refine mReg [0, 1, 2, 3, 4, 5] rfl rfl ?_
      refine tlP (v := .slice (some ⟨g, 0, none⟩) l.length c) 19 rfl ?_
      simp only [Act.put, setIfInBounds_toArray, set_cons_zero, set_cons_succ]
      refine tlP (v := .int .i64 ((i : Int))) 20 rfl ?_
      simp only [Act.put, setIfInBounds_toArray, set_cons_zero, set_cons_succ]
      refine tlP (v := .int .i64 (b + 1)) 21 rfl ?_
      simp only [Act.put, setIfInBounds_toArray, set_cons_zero, set_cons_succ]
      refine tlP (v := .pointer (some ⟨g, i * 4, none⟩)) 22 (hr := by go_simp; try rfl) rfl ?_
      simp only [Act.put, setIfInBounds_toArray, set_cons_zero, set_cons_succ]
      refine tlP (v := .pointer (some ⟨g, i * 4 + 1, none⟩)) 23 (hr := by go_simp; try rfl) rfl ?_
      simp only [Act.put, setIfInBounds_toArray, set_cons_zero, set_cons_succ]
      have hc_ : (w.setRow g c1_).cell? ⟨g, i * 4 + 1, none⟩ = some (c1_.getD (i * 4 + 1) undef) := mCell HG.out (by simp only [hz1_]; omega)
      have hf_ : (w.setRow g c1_).frozen? ⟨g, i * 4 + 1, none⟩ = false := mFrozen HG.out _
      refine mSkip (w2 := w.setRow g (c1_.setIfInBounds (i * 4 + 1) (.int .i64 (b + 1)))) rfl (by rw [← mSet]; go_simp; try rfl) ?_
      clear hc_ hf_
      obtain ⟨c2_, hc2_⟩ : ∃ x, x = c1_.setIfInBounds (i * 4 + 1) (.int .i64 (b + 1)) := ⟨_, rfl⟩
      have hz2_ : c2_.size = cur.size := by rw [hc2_, Array.size_setIfInBounds, hz1_]
      rw [← hc2_]; have HC2_ := Aside0.mk hc2_; clear hc2_
      refine tl0 ?_
      refine wp_seq ?_
      refine mReg [0, 1, 2] rfl rfl ?_
      refine tlP (v := .int .i64 (b + 1)) 24 rfl ?_
      simp only [Act.put, setIfInBounds_toArray, set_cons_zero, set_cons_succ]
      refine tlP (v := .int .i64 (b + 2)) 25 rfl ?_ (hr := run_arith (q := .add) (k := .i64) (m := b + 1) (n := 1) (r := b + 2) rfl rfl rfl (.inl ⟨rfl, by rw [show (b + 1 : Int) + 1 = b + 2 by omega]; exact i64_ok (n := b + 2) (by omega) (by omega)⟩))
      simp only [Act.put, setIfInBounds_toArray, set_cons_zero, set_cons_succ]
      refine tlP (v := .int .i64 (b + 2)) 1 rfl ?_
      simp only [Act.put, setIfInBounds_toArray, set_cons_zero, set_cons_succ]
      refine tl0 ?_
      refine wp_seq ?_
      refine mReg [0, 1, 2, 3, 4, 5] rfl rfl ?_
      refine tlP (v := .slice (some ⟨g, 0, none⟩) l.length c) 26 rfl ?_
      simp only [Act.put, setIfInBounds_toArray, set_cons_zero, set_cons_succ]
      refine tlP (v := .int .i64 ((i : Int))) 27 rfl ?_
      simp only [Act.put, setIfInBounds_toArray, set_cons_zero, set_cons_succ]
      refine tlP (v := .int .i64 (b + 2)) 28 rfl ?_
      simp only [Act.put, setIfInBounds_toArray, set_cons_zero, set_cons_succ]
      refine tlP (v := .pointer (some ⟨g, i * 4, none⟩)) 29 (hr := by go_simp; try rfl) rfl ?_
      simp only [Act.put, setIfInBounds_toArray, set_cons_zero, set_cons_succ]
      refine tlP (v := .pointer (some ⟨g, i * 4 + 2, none⟩)) 30 (hr := by go_simp; try rfl) rfl ?_
      simp only [Act.put, setIfInBounds_toArray, set_cons_zero, set_cons_succ]
      have hc_ : (w.setRow g c2_).cell? ⟨g, i * 4 + 2, none⟩ = some (c2_.getD (i * 4 + 2) undef) := mCell HG.out (by simp only [hz2_]; omega)
      have hf_ : (w.setRow g c2_).frozen? ⟨g, i * 4 + 2, none⟩ = false := mFrozen HG.out _
      refine mSkip (w2 := w.setRow g (c2_.setIfInBounds (i * 4 + 2) (.int .i64 (b + 2)))) rfl (by rw [← mSet]; go_simp; try rfl) ?_
      clear hc_ hf_
      obtain ⟨c3_, hc3_⟩ : ∃ x, x = c2_.setIfInBounds (i * 4 + 2) (.int .i64 (b + 2)) := ⟨_, rfl⟩
      have hz3_ : c3_.size = cur.size := by rw [hc3_, Array.size_setIfInBounds, hz2_]
      rw [← hc3_]; have HC3_ := Aside0.mk hc3_; clear hc3_
      refine tl0 ?_
      refine wp_seq ?_
      refine mReg [0, 1, 2] rfl rfl ?_
      refine tlP (v := .int .i64 (b + 2)) 31 rfl ?_
      simp only [Act.put, setIfInBounds_toArray, set_cons_zero, set_cons_succ]
      refine tlP (v := .int .i64 (b + 3)) 32 rfl ?_ (hr := run_arith (q := .add) (k := .i64) (m := b + 2) (n := 1) (r := b + 3) rfl rfl rfl (.inl ⟨rfl, by rw [show (b + 2 : Int) + 1 = b + 3 by omega]; exact i64_ok (n := b + 3) (by omega) (by omega)⟩))
      simp only [Act.put, setIfInBounds_toArray, set_cons_zero, set_cons_succ]
      refine tlP (v := .int .i64 (b + 3)) 1 rfl ?_
      simp only [Act.put, setIfInBounds_toArray, set_cons_zero, set_cons_succ]
      refine tl0 ?_
      refine wp_seq ?_
      refine mReg [0, 1, 2, 3, 4, 5] rfl rfl ?_
      refine tlP (v := .slice (some ⟨g, 0, none⟩) l.length c) 33 rfl ?_
      simp only [Act.put, setIfInBounds_toArray, set_cons_zero, set_cons_succ]
      refine tlP (v := .int .i64 ((i : Int))) 34 rfl ?_
      simp only [Act.put, setIfInBounds_toArray, set_cons_zero, set_cons_succ]
      refine tlP (v := .int .i64 (b + 3)) 35 rfl ?_
      simp only [Act.put, setIfInBounds_toArray, set_cons_zero, set_cons_succ]
      refine tlP (v := .pointer (some ⟨g, i * 4, none⟩)) 36 (hr := by go_simp; try rfl) rfl ?_
      simp only [Act.put, setIfInBounds_toArray, set_cons_zero, set_cons_succ]
      refine tlP (v := .pointer (some ⟨g, i * 4 + 3, none⟩)) 37 (hr := by go_simp; try rfl) rfl ?_
      simp only [Act.put, setIfInBounds_toArray, set_cons_zero, set_cons_succ]
      have hc_ : (w.setRow g c3_).cell? ⟨g, i * 4 + 3, none⟩ = some (c3_.getD (i * 4 + 3) undef) := mCell HG.out (by simp only [hz3_]; omega)
      have hf_ : (w.setRow g c3_).frozen? ⟨g, i * 4 + 3, none⟩ = false := mFrozen HG.out _
      refine mSkip (w2 := w.setRow g (c3_.setIfInBounds (i * 4 + 3) (.int .i64 (b + 3)))) rfl (by rw [← mSet]; go_simp; try rfl) ?_
      clear hc_ hf_
      obtain ⟨c4_, hc4_⟩ : ∃ x, x = c3_.setIfInBounds (i * 4 + 3) (.int .i64 (b + 3)) := ⟨_, rfl⟩
      have hz4_ : c4_.size = cur.size := by rw [hc4_, Array.size_setIfInBounds, hz3_]
      rw [← hc4_]; have HC4_ := Aside0.mk hc4_; clear hc4_
      refine tl0 ?_
      refine mReg [0, 1, 2] rfl rfl ?_
      refine tlP (v := .int .i64 (b + 3)) 38 rfl ?_
      simp only [Act.put, setIfInBounds_toArray, set_cons_zero, set_cons_succ]
      refine tlP (v := .int .i64 (b + 4)) 39 rfl ?_ (hr := run_arith (q := .add) (k := .i64) (m := b + 3) (n := 1) (r := b + 4) rfl rfl rfl (.inl ⟨rfl, by rw [show (b + 3 : Int) + 1 = b + 4 by omega]; exact i64_ok (n := b + 4) (by omega) (by omega)⟩))
      simp only [Act.put, setIfInBounds_toArray, set_cons_zero, set_cons_succ]
      refine tlP (v := .int .i64 (b + 4)) 1 rfl ?_
      simp only [Act.put, setIfInBounds_toArray, set_cons_zero, set_cons_succ]
      refine tlE ?_
      show Exit.inBlock _ _ _ _ _
      simp only [Exit.inBlock]
      refine thN ?_
      refine mReg [0, 1, 2] rfl rfl ?_
      refine tlP (v := .int .i64 ((i : Int))) 10 rfl ?_
      simp only [Act.put, setIfInBounds_toArray, set_cons_zero, set_cons_succ]
      refine tlP (v := .int .i64 ((i : Int) + 1)) 11 rfl ?_ (hr := run_arith (q := .add) (k := .i64) (m := (i : Int)) (n := 1) (r := (i : Int) + 1) rfl rfl rfl (.inl ⟨rfl, i64_ok (n := (i : Int) + 1) (by omega) (by omega)⟩))
      simp only [Act.put, setIfInBounds_toArray, set_cons_zero, set_cons_succ]
      refine tlP (v := .int .i64 ((i : Int) + 1)) 5 rfl ?_
      simp only [Act.put, setIfInBounds_toArray, set_cons_zero, set_cons_succ]
      refine tlE ?_
      go_wp2
      go_roundg k1
      case measure => have := HK.out; omega
      case rel => exact ⟨i + 1, c4_, by rw [HBB.out]; congr 1; push_cast; omega, by congr 1, ⟨by have := HK.out; omega, by omega⟩, ⟨hz4_⟩, ⟨marks_round flat_markWindowS.len (markW) a l i hi HC.out (by rw [hz0_]; exact hsz) (by rw [HC4_.out, HC3_.out, HC2_.out, HC1_.out, HBB.out]; rfl)⟩, ⟨rfl⟩⟩
    · have hkk := HK.out
      by_cases hge : i = l.length
      · subst hge
        have HW2 := HW.out; subst HW2
        go_wp2
        go_ret
        exact ⟨by first | rfl | simp, ci, HZ.out, by simpa using HC.out, rfl⟩
      · exfalso; omega
set_option maxHeartbeats 1600000 in
set_option maxRecDepth 100000 in
theorem laws_markWindowS_nil (A : Option Addr) (c : Nat) (a : Int) (w : World) : Calls Try.prog 78 #[.slice A 0 c, .int .i64 a] w fun e w' => e = .returned (.int .i64 a) ∧ w' = w := by
  go_enter Try.func78, Try.ntmps78
  go_wp2
  go_loopg [1, 5] 1 (fun kq v1 v5 w' => v1 = .int .i64 a ∧ v5 = .int .i64 (0 : Int) ∧ w' = w)
  case atStart => exact ⟨rfl, rfl, rfl⟩
  case round =>
    obtain ⟨rfl, rfl, rfl⟩ := hrel
    go_wp2
    go_ret
    exact ⟨rfl, rfl⟩
def laws_markWindowS.f (l : List SimplWindow) (a : Int) : Option (Int × List SimplWindow) := if 0 ≤ a ∧ a + 4 * l.length ≤ 4611686018427387904 then some (a + 4 * l.length, marksG (markW) 4 a l.length) else none
theorem laws_markWindowS.calls (P_ : Nat → Prop) (u : Value) (l : List SimplWindow) (a : Int) (r1 : Int) (r2 : List SimplWindow) (w0 w : World) (hB : Below w0.heap.size w0 w) (ho : Kd.R kimplWindow 48 w w0.heap.size P_ u l) (h : laws_markWindowS.f l a = some (r1, r2)) :
    Calls Try.prog 78 #[u, .int .i64 a] w fun e w' => e = .returned (.int .i64 r1) ∧ Kd.R kimplWindow 48 w' w0.heap.size P_ u r2 ∧ Below w0.heap.size w0 w' ∧ Kept w w' P_ := by
  unfold laws_markWindowS.f at h
  split at h
  next hh =>
    obtain ⟨rfl, rfl⟩ : a + 4 * l.length = r1 ∧ marksG (markW) 4 a l.length = r2 := by simpa using h
    by_cases hl : 0 < l.length
    · obtain ⟨g, cap, cur, hv, hP, hg, hsz, htk, hge, hback⟩ := R_blk flat_markWindowS ho hl
      subst hv
      refine (laws_markWindowS_loop g cap l a cur w hg htk hsz hh.1 hh.2).mono ?_
      rintro e w' ⟨rfl, cur', hs', ht', hw'⟩
      exact ⟨rfl, marks_fin flat_markWindowS hB ho rfl hg hP hge hback hs' ht' hw'⟩
    · obtain rfl : l = [] := List.eq_nil_of_length_eq_zero (by omega)
      obtain ⟨A, c, rfl⟩ := Kd.R_slice ho
      refine (laws_markWindowS_nil A c a w).mono ?_
      rintro e w' ⟨rfl, rfl⟩
      exact ⟨by simp, ho, hB, Kept.refl _ _⟩
  next => cases h
end Go.Proofs.Ytoomjghabiojkaa.P


namespace Go.Proofs.Ytoomjghabiojkaa.P
open Go.RowKit Go.Proofs.YtoomjghabiojkaaW.PrintWords Go.Proofs.YtoomjghabiojkaaW.PrintLast Go.Proofs.YtoomjghabiojkaaW.PrintMore
attribute [local go_sem] max2_int min2_int max_two min_two max_three min_three max_four min_four   -- for this text's walks alone
set_option linter.unusedVariables false
set_option linter.unusedSimpArgs false

def laws_heldWindowS.l0 : Nat → List (SimplWindow) → Int → Int → Option (Int)
  | 0, _, _, _ => none
  | k + 1, x0, x1, x5 => if x5 < (x0.length : Int) then (if 0 ≤ x5 then (if ((rd_TimplWindow x0 x5).f0) = x1 then (if ((rd_TimplWindow x0 x5).f1) = (wrap64 (x1 + 1)) then (if ((rd_TimplWindow x0 x5).f2) = (wrap64 ((wrap64 (x1 + 1)) + 1)) then (if ((rd_TimplWindow x0 x5).f3) = (wrap64 ((wrap64 ((wrap64 (x1 + 1)) + 1)) + 1)) then (laws_heldWindowS.l0 k x0 (wrap64 ((wrap64 ((wrap64 ((wrap64 (x1 + 1)) + 1)) + 1)) + 1)) (wrap64 (x5 + 1))) else (some (-1))) else (some (-1))) else (some (-1))) else (some (-1))) else (none)) else (some x1)
def laws_heldWindowS.f (k : Nat) (l0 : List (SimplWindow)) (a1 : Int) : Option (Int) := laws_heldWindowS.l0 k l0 a1 0
set_option maxHeartbeats 8000000 in
set_option maxRecDepth 100000 in
theorem laws_heldWindowS.calls (k : Nat) (A0 : Option Addr) (c0 : Nat) (l0 : List (SimplWindow)) (a1 : Int) (r : Int) (w : World) (hr0 : Kd.C kimplWindow w A0 l0.length l0) (hc0 : l0.length ≤ c0) (h : laws_heldWindowS.f k l0 a1 = some r) :
    Calls Try.prog 79 #[.slice A0 l0.length c0, .int .i64 a1] w fun e w' => e = .returned (.int .i64 r) ∧ Drawn0 w w' := by
  have HR0 := Aside0.mk hr0
  have HC0 := Aside0.mk hc0
  clear hr0 hc0
  have H : (laws_heldWindowS.l0 k l0 a1 0) = some r := h
  clear h
  have H' := Aside0.mk H
  clear H
  go_enter Try.func79, Try.ntmps79
  go_wp2
  go_loopg [1, 5] k (fun kq v1 v5 w' => ∃ (x1_1 : Int) (x5_1 : Int), v1 = .int .i64 x1_1 ∧ v5 = .int .i64 x5_1 ∧ Aside0 (laws_heldWindowS.l0 kq l0 x1_1 x5_1 = some r) ∧ Aside0 (kq ≤ k) ∧ Drawn0 w w')
  case atStart => exact ⟨(a1), (0), (by first | rfl | (simp; done) | (simp [*]; done)), (by first | rfl | (simp; done) | (simp [*]; done)), H', ⟨Nat.le_refl _⟩, by repeat (first | exact Drawn0.refl _ | apply Drawn0.step)⟩
  case round =>
    clear H'
    try clear p2
    obtain ⟨x1_1, x5_1, rfl, rfl, HA, HK1, ⟨m1, rfl⟩⟩ := hrel
    cases gk with
    | zero => exact absurd HA.out (by simp [laws_heldWindowS.l0])
    | succ k1 =>
      have H := HA.out
      clear HA
      simp only [laws_heldWindowS.l0] at H
      by_cases c3 : x5_1 < (l0.length : Int)
      · rw [if_pos c3] at H
        have c3b0 : decide (x5_1 < (l0.length : Int)) = true := decide_eq_true c3
        clear c3
        by_cases c4 : 0 ≤ x5_1
        · rw [if_pos c4] at H
          have c4b0 : decide (0 ≤ x5_1) = true := decide_eq_true c4
          clear c4
          by_cases c5 : ((rd_TimplWindow l0 x5_1).f0) = x1_1
          · rw [if_pos c5] at H
            have c5b0 : (((rd_TimplWindow l0 x5_1).f0) == x1_1) = true := beq_iff_eq.mpr c5
            have c5b1 : (((rd_TimplWindow l0 x5_1).f0) != x1_1) = false := bne_eq_false_iff_eq.mpr c5
            clear c5
            by_cases c6 : ((rd_TimplWindow l0 x5_1).f1) = (wrap64 (x1_1 + 1))
            · rw [if_pos c6] at H
              have c6b0 : (((rd_TimplWindow l0 x5_1).f1) == (wrap64 (x1_1 + 1))) = true := beq_iff_eq.mpr c6
              have c6b1 : (((rd_TimplWindow l0 x5_1).f1) != (wrap64 (x1_1 + 1))) = false := bne_eq_false_iff_eq.mpr c6
              clear c6
              by_cases c7 : ((rd_TimplWindow l0 x5_1).f2) = (wrap64 ((wrap64 (x1_1 + 1)) + 1))
              · rw [if_pos c7] at H
                have c7b0 : (((rd_TimplWindow l0 x5_1).f2) == (wrap64 ((wrap64 (x1_1 + 1)) + 1))) = true := beq_iff_eq.mpr c7
                have c7b1 : (((rd_TimplWindow l0 x5_1).f2) != (wrap64 ((wrap64 (x1_1 + 1)) + 1))) = false := bne_eq_false_iff_eq.mpr c7
                clear c7
                by_cases c8 : ((rd_TimplWindow l0 x5_1).f3) = (wrap64 ((wrap64 ((wrap64 (x1_1 + 1)) + 1)) + 1))
                · rw [if_pos c8] at H
                  have c8b0 : (((rd_TimplWindow l0 x5_1).f3) == (wrap64 ((wrap64 ((wrap64 (x1_1 + 1)) + 1)) + 1))) = true := beq_iff_eq.mpr c8
                  have c8b1 : (((rd_TimplWindow l0 x5_1).f3) != (wrap64 ((wrap64 ((wrap64 (x1_1 + 1)) + 1)) + 1))) = false := bne_eq_false_iff_eq.mpr c8
                  clear c8
                  have H' := Aside0.mk H
                  clear H
                  have p198 : 0 ≤ (x5_1 : Int) := of_decide_eq_true (by first | (with_reducible assumption) | assumption)
                  have q198 : x5_1 < (l0.length : Int) := of_decide_eq_true (by first | (with_reducible assumption) | assumption)
                  obtain ⟨ad198, e198, hx198_0, hx198_1, hx198_2, hx198_3⟩ := at_TimplWindow HR0.out x5_1 p198 q198
                  cases e198
                  replace p198 := eq_true p198
                  replace q198 := eq_true q198
                  have p199 : 0 ≤ (x5_1 : Int) := of_decide_eq_true (by first | (with_reducible assumption) | assumption)
                  have q199 : x5_1 < (l0.length : Int) := of_decide_eq_true (by first | (with_reducible assumption) | assumption)
                  obtain ⟨ad199, e199, hx199_0, hx199_1, hx199_2, hx199_3⟩ := at_TimplWindow HR0.out x5_1 p199 q199
                  obtain rfl : ad198 = ad199 := (by injection e199)
                  replace p199 := eq_true p199
                  replace q199 := eq_true q199
                  have p200 : 0 ≤ (x5_1 : Int) := of_decide_eq_true (by first | (with_reducible assumption) | assumption)
                  have q200 : x5_1 < (l0.length : Int) := of_decide_eq_true (by first | (with_reducible assumption) | assumption)
                  obtain ⟨ad200, e200, hx200_0, hx200_1, hx200_2, hx200_3⟩ := at_TimplWindow HR0.out x5_1 p200 q200
                  obtain rfl : ad198 = ad200 := (by injection e200)
                  replace p200 := eq_true p200
                  replace q200 := eq_true q200
                  have p201 : 0 ≤ (x5_1 : Int) := of_decide_eq_true (by first | (with_reducible assumption) | assumption)
                  have q201 : x5_1 < (l0.length : Int) := of_decide_eq_true (by first | (with_reducible assumption) | assumption)
                  obtain ⟨ad201, e201, hx201_0, hx201_1, hx201_2, hx201_3⟩ := at_TimplWindow HR0.out x5_1 p201 q201
                  obtain rfl : ad198 = ad201 := (by injection e201)
                  replace p201 := eq_true p201
                  replace q201 := eq_true q201
                  go_wp2
                  go_roundg k1
                  case measure => have := HK1.out; omega
                  case rel => exact ⟨(wrap64 ((wrap64 ((wrap64 ((wrap64 (x1_1 + 1)) + 1)) + 1)) + 1)), (wrap64 (x5_1 + 1)), (by first | rfl | (simp; done) | (simp [*]; done)), (by first | rfl | (simp; done) | (simp [*]; done)), H', ⟨by have := HK1.out; omega⟩, by repeat (first | exact Drawn0.refl _ | apply Drawn0.step)⟩
                · rw [if_neg c8] at H
                  have c8b0 : (((rd_TimplWindow l0 x5_1).f3) == (wrap64 ((wrap64 ((wrap64 (x1_1 + 1)) + 1)) + 1))) = false := beq_eq_false_iff_ne.mpr c8
                  have c8b1 : (((rd_TimplWindow l0 x5_1).f3) != (wrap64 ((wrap64 ((wrap64 (x1_1 + 1)) + 1)) + 1))) = true := bne_iff_ne.mpr c8
                  obtain rfl := Option.some.inj H
                  have p198 : 0 ≤ (x5_1 : Int) := of_decide_eq_true (by first | (with_reducible assumption) | assumption)
                  have q198 : x5_1 < (l0.length : Int) := of_decide_eq_true (by first | (with_reducible assumption) | assumption)
                  obtain ⟨ad198, e198, hx198_0, hx198_1, hx198_2, hx198_3⟩ := at_TimplWindow HR0.out x5_1 p198 q198
                  cases e198
                  replace p198 := eq_true p198
                  replace q198 := eq_true q198
                  have p199 : 0 ≤ (x5_1 : Int) := of_decide_eq_true (by first | (with_reducible assumption) | assumption)
                  have q199 : x5_1 < (l0.length : Int) := of_decide_eq_true (by first | (with_reducible assumption) | assumption)
                  obtain ⟨ad199, e199, hx199_0, hx199_1, hx199_2, hx199_3⟩ := at_TimplWindow HR0.out x5_1 p199 q199
                  obtain rfl : ad198 = ad199 := (by injection e199)
                  replace p199 := eq_true p199
                  replace q199 := eq_true q199
                  have p200 : 0 ≤ (x5_1 : Int) := of_decide_eq_true (by first | (with_reducible assumption) | assumption)
                  have q200 : x5_1 < (l0.length : Int) := of_decide_eq_true (by first | (with_reducible assumption) | assumption)
                  obtain ⟨ad200, e200, hx200_0, hx200_1, hx200_2, hx200_3⟩ := at_TimplWindow HR0.out x5_1 p200 q200
                  obtain rfl : ad198 = ad200 := (by injection e200)
                  replace p200 := eq_true p200
                  replace q200 := eq_true q200
                  have p201 : 0 ≤ (x5_1 : Int) := of_decide_eq_true (by first | (with_reducible assumption) | assumption)
                  have q201 : x5_1 < (l0.length : Int) := of_decide_eq_true (by first | (with_reducible assumption) | assumption)
                  obtain ⟨ad201, e201, hx201_0, hx201_1, hx201_2, hx201_3⟩ := at_TimplWindow HR0.out x5_1 p201 q201
                  obtain rfl : ad198 = ad201 := (by injection e201)
                  replace p201 := eq_true p201
                  replace q201 := eq_true q201
                  go_wp2
                  go_ret
                  exact ⟨by first | rfl | (simp; done) | (simp [*]; done), by repeat (first | exact Drawn0.refl _ | apply Drawn0.step)⟩
              · rw [if_neg c7] at H
                have c7b0 : (((rd_TimplWindow l0 x5_1).f2) == (wrap64 ((wrap64 (x1_1 + 1)) + 1))) = false := beq_eq_false_iff_ne.mpr c7
                have c7b1 : (((rd_TimplWindow l0 x5_1).f2) != (wrap64 ((wrap64 (x1_1 + 1)) + 1))) = true := bne_iff_ne.mpr c7
                obtain rfl := Option.some.inj H
                have p198 : 0 ≤ (x5_1 : Int) := of_decide_eq_true (by first | (with_reducible assumption) | assumption)
                have q198 : x5_1 < (l0.length : Int) := of_decide_eq_true (by first | (with_reducible assumption) | assumption)
                obtain ⟨ad198, e198, hx198_0, hx198_1, hx198_2, hx198_3⟩ := at_TimplWindow HR0.out x5_1 p198 q198
                cases e198
                replace p198 := eq_true p198
                replace q198 := eq_true q198
                have p199 : 0 ≤ (x5_1 : Int) := of_decide_eq_true (by first | (with_reducible assumption) | assumption)
                have q199 : x5_1 < (l0.length : Int) := of_decide_eq_true (by first | (with_reducible assumption) | assumption)
                obtain ⟨ad199, e199, hx199_0, hx199_1, hx199_2, hx199_3⟩ := at_TimplWindow HR0.out x5_1 p199 q199
                obtain rfl : ad198 = ad199 := (by injection e199)
                replace p199 := eq_true p199
                replace q199 := eq_true q199
                have p200 : 0 ≤ (x5_1 : Int) := of_decide_eq_true (by first | (with_reducible assumption) | assumption)
                have q200 : x5_1 < (l0.length : Int) := of_decide_eq_true (by first | (with_reducible assumption) | assumption)
                obtain ⟨ad200, e200, hx200_0, hx200_1, hx200_2, hx200_3⟩ := at_TimplWindow HR0.out x5_1 p200 q200
                obtain rfl : ad198 = ad200 := (by injection e200)
                replace p200 := eq_true p200
                replace q200 := eq_true q200
                go_wp2
                go_ret
                exact ⟨by first | rfl | (simp; done) | (simp [*]; done), by repeat (first | exact Drawn0.refl _ | apply Drawn0.step)⟩
            · rw [if_neg c6] at H
              have c6b0 : (((rd_TimplWindow l0 x5_1).f1) == (wrap64 (x1_1 + 1))) = false := beq_eq_false_iff_ne.mpr c6
              have c6b1 : (((rd_TimplWindow l0 x5_1).f1) != (wrap64 (x1_1 + 1))) = true := bne_iff_ne.mpr c6
              obtain rfl := Option.some.inj H
              have p198 : 0 ≤ (x5_1 : Int) := of_decide_eq_true (by first | (with_reducible assumption) | assumption)
              have q198 : x5_1 < (l0.length : Int) := of_decide_eq_true (by first | (with_reducible assumption) | assumption)
              obtain ⟨ad198, e198, hx198_0, hx198_1, hx198_2, hx198_3⟩ := at_TimplWindow HR0.out x5_1 p198 q198
              cases e198
              replace p198 := eq_true p198
              replace q198 := eq_true q198
              have p199 : 0 ≤ (x5_1 : Int) := of_decide_eq_true (by first | (with_reducible assumption) | assumption)
              have q199 : x5_1 < (l0.length : Int) := of_decide_eq_true (by first | (with_reducible assumption) | assumption)
              obtain ⟨ad199, e199, hx199_0, hx199_1, hx199_2, hx199_3⟩ := at_TimplWindow HR0.out x5_1 p199 q199
              obtain rfl : ad198 = ad199 := (by injection e199)
              replace p199 := eq_true p199
              replace q199 := eq_true q199
              go_wp2
              go_ret
              exact ⟨by first | rfl | (simp; done) | (simp [*]; done), by repeat (first | exact Drawn0.refl _ | apply Drawn0.step)⟩
          · rw [if_neg c5] at H
            have c5b0 : (((rd_TimplWindow l0 x5_1).f0) == x1_1) = false := beq_eq_false_iff_ne.mpr c5
            have c5b1 : (((rd_TimplWindow l0 x5_1).f0) != x1_1) = true := bne_iff_ne.mpr c5
            obtain rfl := Option.some.inj H
            have p198 : 0 ≤ (x5_1 : Int) := of_decide_eq_true (by first | (with_reducible assumption) | assumption)
            have q198 : x5_1 < (l0.length : Int) := of_decide_eq_true (by first | (with_reducible assumption) | assumption)
            obtain ⟨ad198, e198, hx198_0, hx198_1, hx198_2, hx198_3⟩ := at_TimplWindow HR0.out x5_1 p198 q198
            cases e198
            replace p198 := eq_true p198
            replace q198 := eq_true q198
            go_wp2
            go_ret
            exact ⟨by first | rfl | (simp; done) | (simp [*]; done), by repeat (first | exact Drawn0.refl _ | apply Drawn0.step)⟩
        · rw [if_neg c4] at H
          exact absurd H (by simp)
      · rw [if_neg c3] at H
        have c3b0 : decide (x5_1 < (l0.length : Int)) = false := decide_eq_false c3
        clear c3
        obtain rfl := Option.some.inj H
        go_wp2
        go_ret
        exact ⟨by first | rfl | (simp; done) | (simp [*]; done), by repeat (first | exact Drawn0.refl _ | apply Drawn0.step)⟩

end Go.Proofs.Ytoomjghabiojkaa.P


/- What the laws ask of a list of windows: equality, marks, marks held. -/
namespace Go.Proofs.Ytoomjghabiojkaa.P
open Go.RowKit Go.Proofs.YtoomjghabiojkaaW.PrintWords Go.Proofs.YtoomjghabiojkaaW.Mine
set_option linter.unusedVariables false
theorem heldWindowS_ev (n : Nat) : ∀ (pre : List SimplWindow) (a : Int), 0 ≤ a → a + 4 * n ≤ 4611686018427387904 → pre.length + n ≤ 4611686018427387904 → Ev (fun k => laws_heldWindowS.l0 k (pre ++ marksG markW 4 a n) a (pre.length : Int)) (a + 4 * n) := by
  induction n with
  | zero =>
    intro pre a h0 h1 h2
    refine Ev.step (fun k => ?_) (Ev.now _)
    simp [laws_heldWindowS.l0, marksG]
  | succ n ih =>
    intro pre a h0 h1 h2
    rw [show marksG markW 4 a (n + 1) = markW a :: marksG markW 4 (a + 4) n from rfl]
    refine Ev.step (f := fun k => laws_heldWindowS.l0 k ((pre ++ [markW a]) ++ marksG markW 4 (a + 4) n) (a + 4) ((pre ++ [markW a]).length : Int)) (fun k => ?_) ?_
    · simp only [laws_heldWindowS.l0]
      rw [if_pos (by simp; omega), if_pos (by omega), rdW_mid]
      simp only [markW, wrap_ok (x := a + 1) (by omega) (by omega), wrap_ok (x := a + 1 + 1) (by omega) (by omega), wrap_ok (x := a + 1 + 1 + 1) (by omega) (by omega), wrap_ok (x := a + 1 + 1 + 1 + 1) (by omega) (by omega)]
      rw [if_pos trivial, if_pos trivial, if_pos (by omega), if_pos (by omega), wrap_len (by omega), show a + 1 + 1 + 1 + 1 = a + 4 by omega]
      simp
    · have := ih (pre ++ [markW a]) (a + 4) (by omega) (by omega) (by simp; omega)
      rw [show a + 4 * ((n + 1 : Nat) : Int) = a + 4 + 4 * (n : Int) by omega]
      exact this
theorem heldWindowS_f (n : Nat) (a : Int) (h0 : 0 ≤ a) (h1 : a + 4 * n ≤ 4611686018427387904) : Ev (fun k => laws_heldWindowS.f k (marksG markW 4 a n) a) (a + 4 * n) := by
  have := heldWindowS_ev n [] a h0 h1 (by simp; omega)
  simpa [laws_heldWindowS.f] using this
end Go.Proofs.Ytoomjghabiojkaa.P


/- markRope: its rows written in place. -/
namespace Go.Proofs.Ytoomjghabiojkaa.P
open Go.RowKit Go.Proofs.YtoomjghabiojkaaW.PrintWords Go.Proofs.YtoomjghabiojkaaW.PrintLast Go.Proofs.YtoomjghabiojkaaW.PrintMore Go.Proofs.YtoomjghabiojkaaW.Mine
set_option linter.unusedVariables false
set_option linter.unusedSimpArgs false
def laws_markRope.f (l0 : List SimplWindow) (a : Int) : Option (Int × List SimplWindow) :=
  if 0 ≤ a ∧ a + 4 * l0.length ≤ 4611686018427387904 then some (a + 4 * l0.length, marksG markW 4 (a) l0.length) else none
set_option maxHeartbeats 1600000 in
set_option maxRecDepth 100000 in
theorem laws_markRope.calls (P_ : Nat → Prop) (u0 : Value) (l0 : List SimplWindow) (a : Int) (r1 : Int) (r2 : List SimplWindow) (w0 w : World) (hB : Below w0.heap.size w0 w) (ho0 : Kd.R kimplWindow 48 w w0.heap.size P_ u0 l0)
    (h : laws_markRope.f l0 a = some (r1, r2)) :
    Calls Try.prog 68 #[.agg #[u0], .int .i64 a] w fun e w' => e = .returned (.int .i64 r1) ∧ Kd.R kimplWindow 48 w' w0.heap.size P_ u0 r2 ∧ Below w0.heap.size w0 w' ∧ Kept w w' P_ := by
  unfold laws_markRope.f at h
  split at h
  next hh =>
    obtain ⟨rfl, rfl⟩ : a + 4 * l0.length = r1 ∧ marksG markW 4 (a) l0.length = r2 := by simpa using h
    obtain ⟨hh0, hh1⟩ := hh
    clear h
    obtain ⟨A0, c0, rfl⟩ := Kd.R_slice ho0
    have HO0 := Aside0.mk (show Kd.R kimplWindow 48 w w0.heap.size (fun k => P_ k ∧ k < w.heap.size) (.slice A0 l0.length c0) l0 from Kd.R_mono (Kd.R_bound ho0) (fun k hk => ⟨hk.1, hk.2.2.1⟩))
    have HB0 := Aside0.mk hB; clear hB ho0
    have HH0 := Aside0.mk hh0
    have HH1 := Aside0.mk hh1
    go_enter Try.func68, Try.ntmps68
    go_wp2_with (first | ((with_reducible refine gate_dst (N := 2) rfl ?_); refine box_event ?hg (N := 2) ?hd (cs := #[.slice A0 l0.length c0]) (t := 102) ?hr ?_; (case hd => rfl); (case hg => rfl); (case hr => first | (go_simp; done) | (go_simp; rfl)); intro g hg w1 hbox hb; have hgw : g ≥ w.heap.size := (by rw [hg]; exact Nat.le_refl _); have HO0_0 := Aside0.mk (Kd.R_below HO0.out hb); have HB_0 := Aside0.mk (below_step HB0.out hb); have HK_0 := Aside0.mk (Kept.of_below hb P_); have HX_0 := Aside0.mk hbox; have HG := Aside0.mk hgw; have hcz0 : w1.cell? ⟨g, 0, none⟩ = some (.slice A0 l0.length c0) := (blk_cell hbox 0).trans rfl; clear hg hb hbox hgw) | (go_at_call 78; (refine (laws_markWindowS.calls (fun k => ((P_ k ∧ k < w.heap.size) ∧ k < w1.heap.size) ∧ Ty w1 (48 :: kimplWindow.E) k) (.slice A0 l0.length c0) l0 (a) (a + 4 * l0.length) (marksG markW 4 (a) l0.length) w0 _ HB_0.out (R_ty HO0_0.out) (if_pos ⟨by have := HH0.out; have := HH1.out; omega, by have := HH0.out; have := HH1.out; omega⟩)).mono ?_); rintro e w2 ⟨rfl, hr2, hb2, hk2⟩; have HB_1 := Aside0.mk hb2; have HK_1 := Aside0.mk (HK_0.out.then_ hk2 (fun k hk => .inl hk.1.1.1)); have HO0_1 := Aside0.mk (Kd.R_mono hr2 (fun k hk => hk.1.1)); clear hr2 hb2 hk2 hcz0))
    go_ret
    exact ⟨by first | rfl | simp, Kd.R_mono HO0_1.out (fun k hk => hk.1), HB_1.out, HK_1.out⟩
  next => cases h
end Go.Proofs.Ytoomjghabiojkaa.P


namespace Go.Proofs.Ytoomjghabiojkaa.P
open Go.RowKit Go.Proofs.YtoomjghabiojkaaW.PrintWords Go.Proofs.YtoomjghabiojkaaW.PrintLast Go.Proofs.YtoomjghabiojkaaW.PrintMore
attribute [local go_sem] max2_int min2_int max_two min_two max_three min_three max_four min_four   -- for this text's walks alone
set_option linter.unusedVariables false
set_option linter.unusedSimpArgs false

def laws_szRope.f (l0_0 : List (SlawsWindow)) (a1 : Int) : Option (Int) := (laws_szWindowS.f l0_0 a1).bind fun t1329 => (if t1329 < 0 then (some (-1)) else (some t1329))
set_option maxHeartbeats 8000000 in
set_option maxRecDepth 100000 in
theorem laws_szRope.calls (A0_0 : Option Addr) (c0_0 : Nat) (l0_0 : List (SlawsWindow)) (a1 : Int) (r : Int) (w : World) (hr0_0 : Kd.C klawsWindow w A0_0 l0_0.length l0_0) (hc0_0 : l0_0.length ≤ c0_0) (h : laws_szRope.f l0_0 a1 = some r) :
    Calls Try.prog 63 #[.agg #[.slice A0_0 l0_0.length c0_0], .int .i64 a1] w fun e w' => e = .returned (.int .i64 r) ∧ Below w.heap.size w w' := by
  have hu99 := Try.underlying99
  have HR0_0 := Aside0.mk hr0_0
  have HC0_0 := Aside0.mk hc0_0
  clear hr0_0 hc0_0
  have HB := Aside0.mk (Below.refl w.heap.size w)
  have H : ((laws_szWindowS.f l0_0 a1).bind fun t1329 => (if t1329 < 0 then (some (-1)) else (some t1329))) = some r := h
  clear h
  replace H := Option.bind_eq_some_iff.mp H
  obtain ⟨t1329, A30, H⟩ := H
  replace H : (if t1329 < 0 then (some (-1)) else (some t1329)) = some r := H
  have A3 := Aside0.mk A30
  clear A30
  by_cases c4 : t1329 < 0
  · rw [if_pos c4] at H
    have c4b0 : decide (t1329 < 0) = true := decide_eq_true c4
    clear c4
    obtain rfl := Option.some.inj H
    go_enter Try.func63, Try.ntmps63
    go_wp2_with (first | ((with_reducible refine gate_dst (N := 2) rfl ?_); refine box_event ?hg (N := 2) ?hd (cs := #[.slice A0_0 l0_0.length c0_0]) (t := 99) ?hr ?_; (case hd => rfl); (case hg => rfl); (case hr => first | (go_simp; done) | (go_simp; rfl)); intro gb1328 hg w5 hbox hb; have n0_ := Aside0.mk (below_step (by repeat (first | (with_reducible first | exact HB.out | apply below_alloc | apply pw_below_drewN | apply below_drew1) | exact HB.out)) hb); have n1_ := Aside0.mk (hbox); have n2_ := Aside0.mk ((by rw [hg]; exact (below_size (by repeat (first | (with_reducible first | exact HB.out | apply below_alloc | apply pw_below_drewN | apply below_drew1) | exact HB.out))) : w.heap.size ≤ gb1328)); have n3_ := Aside0.mk ((by rw [hg]; exact (below_size (by repeat (first | (with_reducible first | exact HB.out | apply below_alloc | apply pw_below_drewN | apply below_drew1) | exact HB.out))) : w.heap.size ≤ gb1328)); clear HB; have HB := n0_; have BK1328 := n1_; have GW1328 := n2_; have GE1328 := n3_; clear n0_ n1_ n2_ n3_; clear hb hbox hg; have hcz6_0 : w5.cell? ⟨gb1328, 0, none⟩ = some (.slice A0_0 l0_0.length c0_0) := (blk_cell BK1328.out 0).trans rfl; have hfz6_0 := blk_frozen BK1328.out 0) | ((with_reducible refine gate_callee (f := 80) rfl ?_); refine goesL_ (some 8) rfl rfl Try.func80 (by kernel_rfl) rfl #[.slice A0_0 l0_0.length c0_0, .int .i64 a1] rfl (by (try simp only [List.map_toArray, List.map_cons, List.map_nil]); first | done | rfl | (simp only [List.length_drop, List.length_take]; rfl)) ?_; (with_reducible refine (laws_szWindowS.calls _ _ l0_0 a1 t1329 _ ?side1 ?side2 A3.out).mono ?_); (case side1 => repeat (first | exact (Kd.C_below HR0_0.out HB.out) | (with_reducible refine Kd.C_alloc ?_ _) | (with_reducible refine Kd.C_drewN ?_ _) | (with_reducible refine Kd.C_drew ?_))); (case side2 => exact HC0_0.out); rintro e w' ⟨rfl, ⟨nd, rfl⟩⟩; refine ⟨_, rfl, ?_⟩))
    go_ret
    exact ⟨by first | rfl | (simp [errW_none, errW_some] <;> rfl) | (simp [*, errW_none, errW_some] <;> rfl), by repeat (first | (with_reducible first | exact HB.out | apply below_alloc | apply pw_below_drewN | apply below_drew1 | refine below_set ?_ GE1328.out) | exact HB.out)⟩
  · rw [if_neg c4] at H
    have c4b0 : decide (t1329 < 0) = false := decide_eq_false c4
    clear c4
    obtain rfl := Option.some.inj H
    go_enter Try.func63, Try.ntmps63
    go_wp2_with (first | ((with_reducible refine gate_dst (N := 2) rfl ?_); refine box_event ?hg (N := 2) ?hd (cs := #[.slice A0_0 l0_0.length c0_0]) (t := 99) ?hr ?_; (case hd => rfl); (case hg => rfl); (case hr => first | (go_simp; done) | (go_simp; rfl)); intro gb1328 hg w7 hbox hb; have n0_ := Aside0.mk (below_step (by repeat (first | (with_reducible first | exact HB.out | apply below_alloc | apply pw_below_drewN | apply below_drew1) | exact HB.out)) hb); have n1_ := Aside0.mk (hbox); have n2_ := Aside0.mk ((by rw [hg]; exact (below_size (by repeat (first | (with_reducible first | exact HB.out | apply below_alloc | apply pw_below_drewN | apply below_drew1) | exact HB.out))) : w.heap.size ≤ gb1328)); have n3_ := Aside0.mk ((by rw [hg]; exact (below_size (by repeat (first | (with_reducible first | exact HB.out | apply below_alloc | apply pw_below_drewN | apply below_drew1) | exact HB.out))) : w.heap.size ≤ gb1328)); clear HB; have HB := n0_; have BK1328 := n1_; have GW1328 := n2_; have GE1328 := n3_; clear n0_ n1_ n2_ n3_; clear hb hbox hg; have hcz8_0 : w7.cell? ⟨gb1328, 0, none⟩ = some (.slice A0_0 l0_0.length c0_0) := (blk_cell BK1328.out 0).trans rfl; have hfz8_0 := blk_frozen BK1328.out 0) | ((with_reducible refine gate_callee (f := 80) rfl ?_); refine goesL_ (some 8) rfl rfl Try.func80 (by kernel_rfl) rfl #[.slice A0_0 l0_0.length c0_0, .int .i64 a1] rfl (by (try simp only [List.map_toArray, List.map_cons, List.map_nil]); first | done | rfl | (simp only [List.length_drop, List.length_take]; rfl)) ?_; (with_reducible refine (laws_szWindowS.calls _ _ l0_0 a1 t1329 _ ?side1 ?side2 A3.out).mono ?_); (case side1 => repeat (first | exact (Kd.C_below HR0_0.out HB.out) | (with_reducible refine Kd.C_alloc ?_ _) | (with_reducible refine Kd.C_drewN ?_ _) | (with_reducible refine Kd.C_drew ?_))); (case side2 => exact HC0_0.out); rintro e w' ⟨rfl, ⟨nd, rfl⟩⟩; refine ⟨_, rfl, ?_⟩))
    go_ret
    exact ⟨by first | rfl | (simp [errW_none, errW_some] <;> rfl) | (simp [*, errW_none, errW_some] <;> rfl), by repeat (first | (with_reducible first | exact HB.out | apply below_alloc | apply pw_below_drewN | apply below_drew1 | refine below_set ?_ GE1328.out) | exact HB.out)⟩

end Go.Proofs.Ytoomjghabiojkaa.P


namespace Go.Proofs.Ytoomjghabiojkaa.P
open Go.RowKit Go.Proofs.YtoomjghabiojkaaW.PrintWords Go.Proofs.YtoomjghabiojkaaW.PrintLast Go.Proofs.YtoomjghabiojkaaW.PrintMore
attribute [local go_sem] max2_int min2_int max_two min_two max_three min_three max_four min_four   -- for this text's walks alone
set_option linter.unusedVariables false
set_option linter.unusedSimpArgs false

def laws_toRope.f (k : Nat) (l0_0 : List (SlawsWindow)) : Option ((List (SimplWindow))) := (laws_toWindowS.f k l0_0).bind fun t1386 => (some t1386)
set_option maxHeartbeats 8000000 in
set_option maxRecDepth 100000 in
theorem laws_toRope.calls (k : Nat) (A0_0 : Option Addr) (c0_0 : Nat) (l0_0 : List (SlawsWindow)) (r : List (SimplWindow)) (w : World) (hr0_0 : Kd.C klawsWindow w A0_0 l0_0.length l0_0) (hc0_0 : l0_0.length ≤ c0_0) (h : laws_toRope.f k l0_0 = some r) :
    Calls Try.prog 65 #[.agg #[.slice A0_0 l0_0.length c0_0]] w fun e w' => ∃ v0_ : Value, e = .returned (.agg #[v0_]) ∧ Kd.R kimplWindow 48 w' w.heap.size (fun _ => True) v0_ r ∧ Below w.heap.size w w' := by
  have hu99 := Try.underlying99
  have hu102 := Try.underlying102
  have HR0_0 := Aside0.mk hr0_0
  have HC0_0 := Aside0.mk hc0_0
  clear hr0_0 hc0_0
  have HB := Aside0.mk (Below.refl w.heap.size w)
  have H : ((laws_toWindowS.f k l0_0).bind fun t1386 => (some t1386)) = some r := h
  clear h
  replace H := Option.bind_eq_some_iff.mp H
  obtain ⟨t1386, A20, H⟩ := H
  replace H : (some t1386) = some r := H
  have A2 := Aside0.mk A20
  clear A20
  obtain rfl := Option.some.inj H
  go_enter Try.func65, Try.ntmps65
  go_wp2_with (first | ((with_reducible refine gate_dst (N := 1) rfl ?_); refine box_event ?hg (N := 1) ?hd (cs := #[.slice A0_0 l0_0.length c0_0]) (t := 99) ?hr ?_; (case hd => rfl); (case hg => rfl); (case hr => first | (go_simp; done) | (go_simp; rfl)); intro gb1383 hg w3 hbox hb; have n0_ := Aside0.mk (below_step (by repeat (first | (with_reducible first | exact HB.out | apply below_alloc | apply pw_below_drewN | apply below_drew1) | exact HB.out)) hb); have n1_ := Aside0.mk (hbox); have n2_ := Aside0.mk ((by rw [hg]; exact (below_size (by repeat (first | (with_reducible first | exact HB.out | apply below_alloc | apply pw_below_drewN | apply below_drew1) | exact HB.out))) : w.heap.size ≤ gb1383)); have n3_ := Aside0.mk ((by rw [hg]; exact (below_size (by repeat (first | (with_reducible first | exact HB.out | apply below_alloc | apply pw_below_drewN | apply below_drew1) | exact HB.out))) : w.heap.size ≤ gb1383)); clear HB; have HB := n0_; have BK1383 := n1_; have GW1383 := n2_; have GE1383 := n3_; clear n0_ n1_ n2_ n3_; clear hb hbox hg) | ((with_reducible refine gate_dst (N := 2) rfl ?_); refine box_event ?hg (N := 2) ?hd (cs := #[.slice none 0 0]) (t := 102) ?hr ?_; (case hd => rfl); (case hg => rfl); (case hr => first | (go_simp; done) | (go_simp; rfl)); intro gb1384 hg w4 hbox hb; have n0_ := Aside0.mk (blk_below (g := gb1383) (o := .cells #[.slice A0_0 l0_0.length c0_0] 99 (0, 0)) (by (with_reducible repeat (first | refine blk_drewN ?_ _ | refine blk_drew ?_ | refine blk_alloc ?_ _)); exact BK1383.out) hb); have n1_ := Aside0.mk (below_step (by repeat (first | (with_reducible first | exact HB.out | apply below_alloc | apply pw_below_drewN | apply below_drew1 | refine below_set ?_ GE1383.out) | exact HB.out)) hb); have n2_ := Aside0.mk (hbox); have n3_ := Aside0.mk ((by rw [hg]; exact (below_size (by repeat (first | (with_reducible first | exact HB.out | apply below_alloc | apply pw_below_drewN | apply below_drew1 | refine below_set ?_ GE1383.out) | exact HB.out))) : w.heap.size ≤ gb1384)); have n4_ := Aside0.mk ((by rw [hg]; exact (below_size (by repeat (first | (with_reducible first | exact HB.out | apply below_alloc | apply pw_below_drewN | apply below_drew1 | refine below_set ?_ GE1383.out) | exact HB.out))) : w.heap.size ≤ gb1384)); have n5_ := Aside0.mk ((by rw [hg]; exact Nat.ne_of_lt (blk_lt (g := gb1383) (o := .cells #[.slice A0_0 l0_0.length c0_0] 99 (0, 0)) (by (with_reducible repeat (first | refine blk_drewN ?_ _ | refine blk_drew ?_ | refine blk_alloc ?_ _)); exact BK1383.out)) : gb1383 ≠ gb1384)); have n6_ := Aside0.mk ((by rw [hg]; exact Nat.ne_of_gt (blk_lt (g := gb1383) (o := .cells #[.slice A0_0 l0_0.length c0_0] 99 (0, 0)) (by (with_reducible repeat (first | refine blk_drewN ?_ _ | refine blk_drew ?_ | refine blk_alloc ?_ _)); exact BK1383.out)) : gb1384 ≠ gb1383)); clear BK1383; clear HB; have BK1383 := n0_; have HB := n1_; have BK1384 := n2_; have GW1384 := n3_; have GE1384 := n4_; have NB1383_1384 := n5_; have NB1384_1383 := n6_; clear n0_ n1_ n2_ n3_ n4_ n5_ n6_; clear hb hbox hg) | ((with_reducible refine gate_dst (N := 3) rfl ?_); refine box_event ?hg (N := 3) ?hd (cs := #[.slice none 0 0]) (t := 102) ?hr ?_; (case hd => rfl); (case hg => rfl); (case hr => first | (go_simp; done) | (go_simp; rfl)); intro gb1385 hg w5 hbox hb; have n0_ := Aside0.mk (blk_below (g := gb1383) (o := .cells #[.slice A0_0 l0_0.length c0_0] 99 (0, 0)) (by (with_reducible repeat (first | refine blk_drewN ?_ _ | refine blk_drew ?_ | refine blk_alloc ?_ _)); exact BK1383.out) hb); have n1_ := Aside0.mk (blk_below (g := gb1384) (o := .cells #[.slice none 0 0] 102 (0, 0)) (by (with_reducible repeat (first | refine blk_drewN ?_ _ | refine blk_drew ?_ | refine blk_alloc ?_ _)); exact BK1384.out) hb); have n2_ := Aside0.mk (below_step (by repeat (first | (with_reducible first | exact HB.out | apply below_alloc | apply pw_below_drewN | apply below_drew1 | refine below_set ?_ GE1383.out | refine below_set ?_ GE1384.out) | exact HB.out)) hb); have n3_ := Aside0.mk (hbox); have n4_ := Aside0.mk ((by rw [hg]; exact (below_size (by repeat (first | (with_reducible first | exact HB.out | apply below_alloc | apply pw_below_drewN | apply below_drew1 | refine below_set ?_ GE1383.out | refine below_set ?_ GE1384.out) | exact HB.out))) : w.heap.size ≤ gb1385)); have n5_ := Aside0.mk ((by rw [hg]; exact (below_size (by repeat (first | (with_reducible first | exact HB.out | apply below_alloc | apply pw_below_drewN | apply below_drew1 | refine below_set ?_ GE1383.out | refine below_set ?_ GE1384.out) | exact HB.out))) : w.heap.size ≤ gb1385)); have n6_ := Aside0.mk ((by rw [hg]; exact Nat.ne_of_lt (blk_lt (g := gb1383) (o := .cells #[.slice A0_0 l0_0.length c0_0] 99 (0, 0)) (by (with_reducible repeat (first | refine blk_drewN ?_ _ | refine blk_drew ?_ | refine blk_alloc ?_ _)); exact BK1383.out)) : gb1383 ≠ gb1385)); have n7_ := Aside0.mk ((by rw [hg]; exact Nat.ne_of_gt (blk_lt (g := gb1383) (o := .cells #[.slice A0_0 l0_0.length c0_0] 99 (0, 0)) (by (with_reducible repeat (first | refine blk_drewN ?_ _ | refine blk_drew ?_ | refine blk_alloc ?_ _)); exact BK1383.out)) : gb1385 ≠ gb1383)); have n8_ := Aside0.mk ((by rw [hg]; exact Nat.ne_of_lt (blk_lt (g := gb1384) (o := .cells #[.slice none 0 0] 102 (0, 0)) (by (with_reducible repeat (first | refine blk_drewN ?_ _ | refine blk_drew ?_ | refine blk_alloc ?_ _)); exact BK1384.out)) : gb1384 ≠ gb1385)); have n9_ := Aside0.mk ((by rw [hg]; exact Nat.ne_of_gt (blk_lt (g := gb1384) (o := .cells #[.slice none 0 0] 102 (0, 0)) (by (with_reducible repeat (first | refine blk_drewN ?_ _ | refine blk_drew ?_ | refine blk_alloc ?_ _)); exact BK1384.out)) : gb1385 ≠ gb1384)); clear BK1383; clear BK1384; clear HB; have BK1383 := n0_; have BK1384 := n1_; have HB := n2_; have BK1385 := n3_; have GW1385 := n4_; have GE1385 := n5_; have NB1383_1385 := n6_; have NB1385_1383 := n7_; have NB1384_1385 := n8_; have NB1385_1384 := n9_; clear n0_ n1_ n2_ n3_ n4_ n5_ n6_ n7_ n8_ n9_; clear hb hbox hg; have hnb6 := NB1383_1384.out; have hnc6 := NB1384_1383.out; have hnb7 := NB1383_1385.out; have hnc7 := NB1385_1383.out; have hcz8_0 : w5.cell? ⟨gb1383, 0, none⟩ = some (.slice A0_0 l0_0.length c0_0) := (blk_cell BK1383.out 0).trans rfl; have hfz8_0 := blk_frozen BK1383.out 0) | ((with_reducible refine gate_callee (f := 83) rfl ?_); refine goesL_ (some 6) rfl rfl Try.func83 (by kernel_rfl) rfl #[.slice A0_0 l0_0.length c0_0] rfl (by (try simp only [List.map_toArray, List.map_cons, List.map_nil]); first | done | rfl | (simp only [List.length_drop, List.length_take]; rfl)) ?_; (with_reducible refine (laws_toWindowS.calls k _ _ l0_0 t1386 _ ?side1 ?side2 A2.out).mono ?_); (case side1 => repeat (first | exact (Kd.C_below HR0_0.out HB.out) | (with_reducible refine Kd.C_alloc ?_ _) | (with_reducible refine Kd.C_drewN ?_ _) | (with_reducible refine Kd.C_drew ?_))); (case side2 => exact HC0_0.out); rintro e w9 ⟨v1387, rfl, ho0, hb⟩; refine ⟨_, rfl, ?_⟩; have n0_ := Aside0.mk (Kd.R_lower ho0 (below_size (by repeat (first | (with_reducible first | exact HB.out | apply below_alloc | apply pw_below_drewN | apply below_drew1 | refine below_set ?_ GE1383.out | refine below_set ?_ GE1384.out | refine below_set ?_ GE1385.out) | exact HB.out)))); have n1_ := Aside0.mk (blk_below (g := gb1383) (o := .cells #[.slice A0_0 l0_0.length c0_0] 99 (0, 0)) (by (with_reducible repeat (first | refine blk_drewN ?_ _ | refine blk_drew ?_ | refine blk_alloc ?_ _)); exact BK1383.out) hb); have n2_ := Aside0.mk (blk_below (g := gb1384) (o := .cells #[.slice none 0 0] 102 (0, 0)) (by (with_reducible repeat (first | refine blk_drewN ?_ _ | refine blk_drew ?_ | refine blk_alloc ?_ _)); exact BK1384.out) hb); have n3_ := Aside0.mk (blk_below (g := gb1385) (o := .cells #[.slice none 0 0] 102 (0, 0)) (by (with_reducible repeat (first | refine blk_drewN ?_ _ | refine blk_drew ?_ | refine blk_alloc ?_ _)); exact BK1385.out) hb); have n4_ := Aside0.mk (below_step (by repeat (first | (with_reducible first | exact HB.out | apply below_alloc | apply pw_below_drewN | apply below_drew1 | refine below_set ?_ GE1383.out | refine below_set ?_ GE1384.out | refine below_set ?_ GE1385.out) | exact HB.out)) hb); clear BK1383; clear BK1384; clear BK1385; clear HB; have HO1388 := n0_; have BK1383 := n1_; have BK1384 := n2_; have BK1385 := n3_; have HB := n4_; clear n0_ n1_ n2_ n3_ n4_; (try clear hb); (try clear hb2); (try clear hk); (try clear hi); (try clear ho0); obtain ⟨Ao10, co10, eo10⟩ := Kd.R_slice HO1388.out; subst eo10; have hnb11 := NB1385_1384.out; have hnc11 := NB1384_1385.out; have hcz12_0 : w9.cell? ⟨gb1385, 0, none⟩ = some (.slice none 0 0) := (blk_cell BK1385.out 0).trans rfl; have hfz12_0 := blk_frozen BK1385.out 0; have hcz13_0 : w9.cell? ⟨gb1384, 0, none⟩ = some (.slice none 0 0) := (blk_cell BK1384.out 0).trans rfl; have hfz13_0 := blk_frozen BK1384.out 0))
  refine bodyPost_ret (results_cell_row rfl _ _ gb1384 102 #[.slice Ao10 t1386.length co10] (0, 0) _ rfl (by (with_reducible repeat (first | refine blk_drewN ?_ _ | refine blk_drew ?_ | refine blk_alloc ?_ _)); refine blk_put (cs := #[.slice none 0 0]) ?_ 0 _ rfl; (with_reducible repeat (first | refine blk_drewN ?_ _ | refine blk_drew ?_ | refine blk_alloc ?_ _)); refine blk_far ?_ NB1384_1385.out _; (with_reducible repeat (first | refine blk_drewN ?_ _ | refine blk_drew ?_ | refine blk_alloc ?_ _)); exact BK1384.out) Try.underlying102 rfl (by kernel_rfl)) rfl ?_
  exact ⟨_, by first | rfl | (simp [errW_none, errW_some] <;> rfl) | (simp [*, errW_none, errW_some] <;> rfl), by (with_reducible repeat (first | apply Kd.R_alloc | apply Kd.R_drewN | apply Kd.R_drew)); exact Kd.R_mono (Kd.R_far (p := ⟨gb1384, 0, none⟩) (Kd.R_far (p := ⟨gb1385, 0, none⟩) (Kd.R_types (Kd.R_types HO1388.out BK1385.out (by decide)) BK1384.out (by decide)) (fun _ hk => hk.1.2) (.slice Ao10 t1386.length co10)) (fun _ hk => hk.2) (.slice Ao10 t1386.length co10)) (fun _ hk => trivial), by repeat (first | (with_reducible first | exact HB.out | apply below_alloc | apply pw_below_drewN | apply below_drew1 | refine below_set ?_ GE1383.out | refine below_set ?_ GE1384.out | refine below_set ?_ GE1385.out) | exact HB.out)⟩

end Go.Proofs.Ytoomjghabiojkaa.P


namespace Go.Proofs.Ytoomjghabiojkaa.P
open Go.RowKit Go.Proofs.YtoomjghabiojkaaW.PrintWords Go.Proofs.YtoomjghabiojkaaW.PrintLast Go.Proofs.YtoomjghabiojkaaW.PrintMore
attribute [local go_sem] max2_int min2_int max_two min_two max_three min_three max_four min_four   -- for this text's walks alone
set_option linter.unusedVariables false
set_option linter.unusedSimpArgs false

def laws_eqRope.f (k : Nat) (l0_0 : List (SimplWindow)) (l1_0 : List (SimplWindow)) : Option (Bool) := (laws_eqWindowS.f k l0_0 l1_0).bind fun t1422 => (if t1422 = true then (some true) else (some false))
set_option maxHeartbeats 8000000 in
set_option maxRecDepth 100000 in
theorem laws_eqRope.calls (k : Nat) (A0_0 : Option Addr) (c0_0 : Nat) (l0_0 : List (SimplWindow)) (A1_0 : Option Addr) (c1_0 : Nat) (l1_0 : List (SimplWindow)) (r : Bool) (w : World) (hr0_0 : Kd.C kimplWindow w A0_0 l0_0.length l0_0) (hc0_0 : l0_0.length ≤ c0_0) (hr1_0 : Kd.C kimplWindow w A1_0 l1_0.length l1_0) (hc1_0 : l1_0.length ≤ c1_0) (h : laws_eqRope.f k l0_0 l1_0 = some r) :
    Calls Try.prog 67 #[.agg #[.slice A0_0 l0_0.length c0_0], .agg #[.slice A1_0 l1_0.length c1_0]] w fun e w' => e = .returned (.bool r) ∧ Below w.heap.size w w' := by
  have hu102 := Try.underlying102
  have HR0_0 := Aside0.mk hr0_0
  have HC0_0 := Aside0.mk hc0_0
  clear hr0_0 hc0_0
  have HR1_0 := Aside0.mk hr1_0
  have HC1_0 := Aside0.mk hc1_0
  clear hr1_0 hc1_0
  have HB := Aside0.mk (Below.refl w.heap.size w)
  have H : ((laws_eqWindowS.f k l0_0 l1_0).bind fun t1422 => (if t1422 = true then (some true) else (some false))) = some r := h
  clear h
  replace H := Option.bind_eq_some_iff.mp H
  obtain ⟨t1422, A30, H⟩ := H
  replace H : (if t1422 = true then (some true) else (some false)) = some r := H
  have A3 := Aside0.mk A30
  clear A30
  by_cases c4 : t1422 = true
  · subst c4
    have H1 : (some true) = some r := by rw [if_pos rfl] at H; exact H
    clear H
    have H := H1
    clear H1
    obtain rfl := Option.some.inj H
    go_enter Try.func67, Try.ntmps67
    go_wp2_with (first | ((with_reducible refine gate_dst (N := 2) rfl ?_); refine box_event ?hg (N := 2) ?hd (cs := #[.slice A0_0 l0_0.length c0_0]) (t := 102) ?hr ?_; (case hd => rfl); (case hg => rfl); (case hr => first | (go_simp; done) | (go_simp; rfl)); intro gb1420 hg w5 hbox hb; have n0_ := Aside0.mk (below_step (by repeat (first | (with_reducible first | exact HB.out | apply below_alloc | apply pw_below_drewN | apply below_drew1) | exact HB.out)) hb); have n1_ := Aside0.mk (hbox); have n2_ := Aside0.mk ((by rw [hg]; exact (below_size (by repeat (first | (with_reducible first | exact HB.out | apply below_alloc | apply pw_below_drewN | apply below_drew1) | exact HB.out))) : w.heap.size ≤ gb1420)); have n3_ := Aside0.mk ((by rw [hg]; exact (below_size (by repeat (first | (with_reducible first | exact HB.out | apply below_alloc | apply pw_below_drewN | apply below_drew1) | exact HB.out))) : w.heap.size ≤ gb1420)); clear HB; have HB := n0_; have BK1420 := n1_; have GW1420 := n2_; have GE1420 := n3_; clear n0_ n1_ n2_ n3_; clear hb hbox hg) | ((with_reducible refine gate_dst (N := 3) rfl ?_); refine box_event ?hg (N := 3) ?hd (cs := #[.slice A1_0 l1_0.length c1_0]) (t := 102) ?hr ?_; (case hd => rfl); (case hg => rfl); (case hr => first | (go_simp; done) | (go_simp; rfl)); intro gb1421 hg w6 hbox hb; have n0_ := Aside0.mk (blk_below (g := gb1420) (o := .cells #[.slice A0_0 l0_0.length c0_0] 102 (0, 0)) (by (with_reducible repeat (first | refine blk_drewN ?_ _ | refine blk_drew ?_ | refine blk_alloc ?_ _)); exact BK1420.out) hb); have n1_ := Aside0.mk (below_step (by repeat (first | (with_reducible first | exact HB.out | apply below_alloc | apply pw_below_drewN | apply below_drew1 | refine below_set ?_ GE1420.out) | exact HB.out)) hb); have n2_ := Aside0.mk (hbox); have n3_ := Aside0.mk ((by rw [hg]; exact (below_size (by repeat (first | (with_reducible first | exact HB.out | apply below_alloc | apply pw_below_drewN | apply below_drew1 | refine below_set ?_ GE1420.out) | exact HB.out))) : w.heap.size ≤ gb1421)); have n4_ := Aside0.mk ((by rw [hg]; exact (below_size (by repeat (first | (with_reducible first | exact HB.out | apply below_alloc | apply pw_below_drewN | apply below_drew1 | refine below_set ?_ GE1420.out) | exact HB.out))) : w.heap.size ≤ gb1421)); have n5_ := Aside0.mk ((by rw [hg]; exact Nat.ne_of_lt (blk_lt (g := gb1420) (o := .cells #[.slice A0_0 l0_0.length c0_0] 102 (0, 0)) (by (with_reducible repeat (first | refine blk_drewN ?_ _ | refine blk_drew ?_ | refine blk_alloc ?_ _)); exact BK1420.out)) : gb1420 ≠ gb1421)); have n6_ := Aside0.mk ((by rw [hg]; exact Nat.ne_of_gt (blk_lt (g := gb1420) (o := .cells #[.slice A0_0 l0_0.length c0_0] 102 (0, 0)) (by (with_reducible repeat (first | refine blk_drewN ?_ _ | refine blk_drew ?_ | refine blk_alloc ?_ _)); exact BK1420.out)) : gb1421 ≠ gb1420)); clear BK1420; clear HB; have BK1420 := n0_; have HB := n1_; have BK1421 := n2_; have GW1421 := n3_; have GE1421 := n4_; have NB1420_1421 := n5_; have NB1421_1420 := n6_; clear n0_ n1_ n2_ n3_ n4_ n5_ n6_; clear hb hbox hg; have hnb7 := NB1420_1421.out; have hnc7 := NB1421_1420.out; have hcz8_0 : w6.cell? ⟨gb1420, 0, none⟩ = some (.slice A0_0 l0_0.length c0_0) := (blk_cell BK1420.out 0).trans rfl; have hfz8_0 := blk_frozen BK1420.out 0; have hcz9_0 : w6.cell? ⟨gb1421, 0, none⟩ = some (.slice A1_0 l1_0.length c1_0) := (blk_cell BK1421.out 0).trans rfl; have hfz9_0 := blk_frozen BK1421.out 0) | ((with_reducible refine gate_callee (f := 77) rfl ?_); refine goesL_ (some 9) rfl rfl Try.func77 (by kernel_rfl) rfl #[.slice A0_0 l0_0.length c0_0, .slice A1_0 l1_0.length c1_0] rfl (by (try simp only [List.map_toArray, List.map_cons, List.map_nil]); first | done | rfl | (simp only [List.length_drop, List.length_take]; rfl)) ?_; (with_reducible refine (laws_eqWindowS.calls k _ _ l0_0 _ _ l1_0 true _ ?side1 ?side2 ?side3 ?side4 A3.out).mono ?_); (case side1 => repeat (first | exact (Kd.C_below HR0_0.out HB.out) | (with_reducible refine Kd.C_alloc ?_ _) | (with_reducible refine Kd.C_drewN ?_ _) | (with_reducible refine Kd.C_drew ?_))); (case side2 => exact HC0_0.out); (case side3 => repeat (first | exact (Kd.C_below HR1_0.out HB.out) | (with_reducible refine Kd.C_alloc ?_ _) | (with_reducible refine Kd.C_drewN ?_ _) | (with_reducible refine Kd.C_drew ?_))); (case side4 => exact HC1_0.out); rintro e w10 ⟨rfl, hb⟩; refine ⟨_, rfl, ?_⟩; have n0_ := Aside0.mk (blk_below (g := gb1420) (o := .cells #[.slice A0_0 l0_0.length c0_0] 102 (0, 0)) (by (with_reducible repeat (first | refine blk_drewN ?_ _ | refine blk_drew ?_ | refine blk_alloc ?_ _)); exact BK1420.out) hb); have n1_ := Aside0.mk (blk_below (g := gb1421) (o := .cells #[.slice A1_0 l1_0.length c1_0] 102 (0, 0)) (by (with_reducible repeat (first | refine blk_drewN ?_ _ | refine blk_drew ?_ | refine blk_alloc ?_ _)); exact BK1421.out) hb); have n2_ := Aside0.mk (below_step (by repeat (first | (with_reducible first | exact HB.out | apply below_alloc | apply pw_below_drewN | apply below_drew1 | refine below_set ?_ GE1420.out | refine below_set ?_ GE1421.out) | exact HB.out)) hb); clear BK1420; clear BK1421; clear HB; have BK1420 := n0_; have BK1421 := n1_; have HB := n2_; clear n0_ n1_ n2_; (try clear hb); (try clear hb2); (try clear hk); (try clear hi)))
    go_ret
    exact ⟨by first | rfl | (simp [errW_none, errW_some] <;> rfl) | (simp [*, errW_none, errW_some] <;> rfl), by repeat (first | (with_reducible first | exact HB.out | apply below_alloc | apply pw_below_drewN | apply below_drew1 | refine below_set ?_ GE1420.out | refine below_set ?_ GE1421.out) | exact HB.out)⟩
  · replace c4 := Bool.eq_false_iff.mpr c4
    subst c4
    have H1 : (some false) = some r := by rw [if_neg (show ¬ (false = true) by decide)] at H; exact H
    clear H
    have H := H1
    clear H1
    obtain rfl := Option.some.inj H
    go_enter Try.func67, Try.ntmps67
    go_wp2_with (first | ((with_reducible refine gate_dst (N := 2) rfl ?_); refine box_event ?hg (N := 2) ?hd (cs := #[.slice A0_0 l0_0.length c0_0]) (t := 102) ?hr ?_; (case hd => rfl); (case hg => rfl); (case hr => first | (go_simp; done) | (go_simp; rfl)); intro gb1420 hg w11 hbox hb; have n0_ := Aside0.mk (below_step (by repeat (first | (with_reducible first | exact HB.out | apply below_alloc | apply pw_below_drewN | apply below_drew1) | exact HB.out)) hb); have n1_ := Aside0.mk (hbox); have n2_ := Aside0.mk ((by rw [hg]; exact (below_size (by repeat (first | (with_reducible first | exact HB.out | apply below_alloc | apply pw_below_drewN | apply below_drew1) | exact HB.out))) : w.heap.size ≤ gb1420)); have n3_ := Aside0.mk ((by rw [hg]; exact (below_size (by repeat (first | (with_reducible first | exact HB.out | apply below_alloc | apply pw_below_drewN | apply below_drew1) | exact HB.out))) : w.heap.size ≤ gb1420)); clear HB; have HB := n0_; have BK1420 := n1_; have GW1420 := n2_; have GE1420 := n3_; clear n0_ n1_ n2_ n3_; clear hb hbox hg) | ((with_reducible refine gate_dst (N := 3) rfl ?_); refine box_event ?hg (N := 3) ?hd (cs := #[.slice A1_0 l1_0.length c1_0]) (t := 102) ?hr ?_; (case hd => rfl); (case hg => rfl); (case hr => first | (go_simp; done) | (go_simp; rfl)); intro gb1421 hg w12 hbox hb; have n0_ := Aside0.mk (blk_below (g := gb1420) (o := .cells #[.slice A0_0 l0_0.length c0_0] 102 (0, 0)) (by (with_reducible repeat (first | refine blk_drewN ?_ _ | refine blk_drew ?_ | refine blk_alloc ?_ _)); exact BK1420.out) hb); have n1_ := Aside0.mk (below_step (by repeat (first | (with_reducible first | exact HB.out | apply below_alloc | apply pw_below_drewN | apply below_drew1 | refine below_set ?_ GE1420.out) | exact HB.out)) hb); have n2_ := Aside0.mk (hbox); have n3_ := Aside0.mk ((by rw [hg]; exact (below_size (by repeat (first | (with_reducible first | exact HB.out | apply below_alloc | apply pw_below_drewN | apply below_drew1 | refine below_set ?_ GE1420.out) | exact HB.out))) : w.heap.size ≤ gb1421)); have n4_ := Aside0.mk ((by rw [hg]; exact (below_size (by repeat (first | (with_reducible first | exact HB.out | apply below_alloc | apply pw_below_drewN | apply below_drew1 | refine below_set ?_ GE1420.out) | exact HB.out))) : w.heap.size ≤ gb1421)); have n5_ := Aside0.mk ((by rw [hg]; exact Nat.ne_of_lt (blk_lt (g := gb1420) (o := .cells #[.slice A0_0 l0_0.length c0_0] 102 (0, 0)) (by (with_reducible repeat (first | refine blk_drewN ?_ _ | refine blk_drew ?_ | refine blk_alloc ?_ _)); exact BK1420.out)) : gb1420 ≠ gb1421)); have n6_ := Aside0.mk ((by rw [hg]; exact Nat.ne_of_gt (blk_lt (g := gb1420) (o := .cells #[.slice A0_0 l0_0.length c0_0] 102 (0, 0)) (by (with_reducible repeat (first | refine blk_drewN ?_ _ | refine blk_drew ?_ | refine blk_alloc ?_ _)); exact BK1420.out)) : gb1421 ≠ gb1420)); clear BK1420; clear HB; have BK1420 := n0_; have HB := n1_; have BK1421 := n2_; have GW1421 := n3_; have GE1421 := n4_; have NB1420_1421 := n5_; have NB1421_1420 := n6_; clear n0_ n1_ n2_ n3_ n4_ n5_ n6_; clear hb hbox hg; have hnb13 := NB1420_1421.out; have hnc13 := NB1421_1420.out; have hcz14_0 : w12.cell? ⟨gb1420, 0, none⟩ = some (.slice A0_0 l0_0.length c0_0) := (blk_cell BK1420.out 0).trans rfl; have hfz14_0 := blk_frozen BK1420.out 0; have hcz15_0 : w12.cell? ⟨gb1421, 0, none⟩ = some (.slice A1_0 l1_0.length c1_0) := (blk_cell BK1421.out 0).trans rfl; have hfz15_0 := blk_frozen BK1421.out 0) | ((with_reducible refine gate_callee (f := 77) rfl ?_); refine goesL_ (some 9) rfl rfl Try.func77 (by kernel_rfl) rfl #[.slice A0_0 l0_0.length c0_0, .slice A1_0 l1_0.length c1_0] rfl (by (try simp only [List.map_toArray, List.map_cons, List.map_nil]); first | done | rfl | (simp only [List.length_drop, List.length_take]; rfl)) ?_; (with_reducible refine (laws_eqWindowS.calls k _ _ l0_0 _ _ l1_0 false _ ?side1 ?side2 ?side3 ?side4 A3.out).mono ?_); (case side1 => repeat (first | exact (Kd.C_below HR0_0.out HB.out) | (with_reducible refine Kd.C_alloc ?_ _) | (with_reducible refine Kd.C_drewN ?_ _) | (with_reducible refine Kd.C_drew ?_))); (case side2 => exact HC0_0.out); (case side3 => repeat (first | exact (Kd.C_below HR1_0.out HB.out) | (with_reducible refine Kd.C_alloc ?_ _) | (with_reducible refine Kd.C_drewN ?_ _) | (with_reducible refine Kd.C_drew ?_))); (case side4 => exact HC1_0.out); rintro e w16 ⟨rfl, hb⟩; refine ⟨_, rfl, ?_⟩; have n0_ := Aside0.mk (blk_below (g := gb1420) (o := .cells #[.slice A0_0 l0_0.length c0_0] 102 (0, 0)) (by (with_reducible repeat (first | refine blk_drewN ?_ _ | refine blk_drew ?_ | refine blk_alloc ?_ _)); exact BK1420.out) hb); have n1_ := Aside0.mk (blk_below (g := gb1421) (o := .cells #[.slice A1_0 l1_0.length c1_0] 102 (0, 0)) (by (with_reducible repeat (first | refine blk_drewN ?_ _ | refine blk_drew ?_ | refine blk_alloc ?_ _)); exact BK1421.out) hb); have n2_ := Aside0.mk (below_step (by repeat (first | (with_reducible first | exact HB.out | apply below_alloc | apply pw_below_drewN | apply below_drew1 | refine below_set ?_ GE1420.out | refine below_set ?_ GE1421.out) | exact HB.out)) hb); clear BK1420; clear BK1421; clear HB; have BK1420 := n0_; have BK1421 := n1_; have HB := n2_; clear n0_ n1_ n2_; (try clear hb); (try clear hb2); (try clear hk); (try clear hi)))
    go_ret
    exact ⟨by first | rfl | (simp [errW_none, errW_some] <;> rfl) | (simp [*, errW_none, errW_some] <;> rfl), by repeat (first | (with_reducible first | exact HB.out | apply below_alloc | apply pw_below_drewN | apply below_drew1 | refine below_set ?_ GE1420.out | refine below_set ?_ GE1421.out) | exact HB.out)⟩

end Go.Proofs.Ytoomjghabiojkaa.P


namespace Go.Proofs.Ytoomjghabiojkaa.P
open Go.RowKit Go.Proofs.YtoomjghabiojkaaW.PrintWords Go.Proofs.YtoomjghabiojkaaW.PrintLast Go.Proofs.YtoomjghabiojkaaW.PrintMore
attribute [local go_sem] max2_int min2_int max_two min_two max_three min_three max_four min_four   -- for this text's walks alone
set_option linter.unusedVariables false
set_option linter.unusedSimpArgs false

def laws_heldRope.f (k : Nat) (l0_0 : List (SimplWindow)) (a1 : Int) : Option (Int) := (laws_heldWindowS.f k l0_0 a1).bind fun t1424 => (if t1424 < 0 then (some (-1)) else (some t1424))
set_option maxHeartbeats 8000000 in
set_option maxRecDepth 100000 in
theorem laws_heldRope.calls (k : Nat) (A0_0 : Option Addr) (c0_0 : Nat) (l0_0 : List (SimplWindow)) (a1 : Int) (r : Int) (w : World) (hr0_0 : Kd.C kimplWindow w A0_0 l0_0.length l0_0) (hc0_0 : l0_0.length ≤ c0_0) (h : laws_heldRope.f k l0_0 a1 = some r) :
    Calls Try.prog 70 #[.agg #[.slice A0_0 l0_0.length c0_0], .int .i64 a1] w fun e w' => e = .returned (.int .i64 r) ∧ Below w.heap.size w w' := by
  have hu102 := Try.underlying102
  have HR0_0 := Aside0.mk hr0_0
  have HC0_0 := Aside0.mk hc0_0
  clear hr0_0 hc0_0
  have HB := Aside0.mk (Below.refl w.heap.size w)
  have H : ((laws_heldWindowS.f k l0_0 a1).bind fun t1424 => (if t1424 < 0 then (some (-1)) else (some t1424))) = some r := h
  clear h
  replace H := Option.bind_eq_some_iff.mp H
  obtain ⟨t1424, A30, H⟩ := H
  replace H : (if t1424 < 0 then (some (-1)) else (some t1424)) = some r := H
  have A3 := Aside0.mk A30
  clear A30
  by_cases c4 : t1424 < 0
  · rw [if_pos c4] at H
    have c4b0 : decide (t1424 < 0) = true := decide_eq_true c4
    clear c4
    obtain rfl := Option.some.inj H
    go_enter Try.func70, Try.ntmps70
    go_wp2_with (first | ((with_reducible refine gate_dst (N := 2) rfl ?_); refine box_event ?hg (N := 2) ?hd (cs := #[.slice A0_0 l0_0.length c0_0]) (t := 102) ?hr ?_; (case hd => rfl); (case hg => rfl); (case hr => first | (go_simp; done) | (go_simp; rfl)); intro gb1423 hg w5 hbox hb; have n0_ := Aside0.mk (below_step (by repeat (first | (with_reducible first | exact HB.out | apply below_alloc | apply pw_below_drewN | apply below_drew1) | exact HB.out)) hb); have n1_ := Aside0.mk (hbox); have n2_ := Aside0.mk ((by rw [hg]; exact (below_size (by repeat (first | (with_reducible first | exact HB.out | apply below_alloc | apply pw_below_drewN | apply below_drew1) | exact HB.out))) : w.heap.size ≤ gb1423)); have n3_ := Aside0.mk ((by rw [hg]; exact (below_size (by repeat (first | (with_reducible first | exact HB.out | apply below_alloc | apply pw_below_drewN | apply below_drew1) | exact HB.out))) : w.heap.size ≤ gb1423)); clear HB; have HB := n0_; have BK1423 := n1_; have GW1423 := n2_; have GE1423 := n3_; clear n0_ n1_ n2_ n3_; clear hb hbox hg; have hcz6_0 : w5.cell? ⟨gb1423, 0, none⟩ = some (.slice A0_0 l0_0.length c0_0) := (blk_cell BK1423.out 0).trans rfl; have hfz6_0 := blk_frozen BK1423.out 0) | ((with_reducible refine gate_callee (f := 79) rfl ?_); refine goesL_ (some 8) rfl rfl Try.func79 (by kernel_rfl) rfl #[.slice A0_0 l0_0.length c0_0, .int .i64 a1] rfl (by (try simp only [List.map_toArray, List.map_cons, List.map_nil]); first | done | rfl | (simp only [List.length_drop, List.length_take]; rfl)) ?_; (with_reducible refine (laws_heldWindowS.calls k _ _ l0_0 a1 t1424 _ ?side1 ?side2 A3.out).mono ?_); (case side1 => repeat (first | exact (Kd.C_below HR0_0.out HB.out) | (with_reducible refine Kd.C_alloc ?_ _) | (with_reducible refine Kd.C_drewN ?_ _) | (with_reducible refine Kd.C_drew ?_))); (case side2 => exact HC0_0.out); rintro e w' ⟨rfl, ⟨nd, rfl⟩⟩; refine ⟨_, rfl, ?_⟩))
    go_ret
    exact ⟨by first | rfl | (simp [errW_none, errW_some] <;> rfl) | (simp [*, errW_none, errW_some] <;> rfl), by repeat (first | (with_reducible first | exact HB.out | apply below_alloc | apply pw_below_drewN | apply below_drew1 | refine below_set ?_ GE1423.out) | exact HB.out)⟩
  · rw [if_neg c4] at H
    have c4b0 : decide (t1424 < 0) = false := decide_eq_false c4
    clear c4
    obtain rfl := Option.some.inj H
    go_enter Try.func70, Try.ntmps70
    go_wp2_with (first | ((with_reducible refine gate_dst (N := 2) rfl ?_); refine box_event ?hg (N := 2) ?hd (cs := #[.slice A0_0 l0_0.length c0_0]) (t := 102) ?hr ?_; (case hd => rfl); (case hg => rfl); (case hr => first | (go_simp; done) | (go_simp; rfl)); intro gb1423 hg w7 hbox hb; have n0_ := Aside0.mk (below_step (by repeat (first | (with_reducible first | exact HB.out | apply below_alloc | apply pw_below_drewN | apply below_drew1) | exact HB.out)) hb); have n1_ := Aside0.mk (hbox); have n2_ := Aside0.mk ((by rw [hg]; exact (below_size (by repeat (first | (with_reducible first | exact HB.out | apply below_alloc | apply pw_below_drewN | apply below_drew1) | exact HB.out))) : w.heap.size ≤ gb1423)); have n3_ := Aside0.mk ((by rw [hg]; exact (below_size (by repeat (first | (with_reducible first | exact HB.out | apply below_alloc | apply pw_below_drewN | apply below_drew1) | exact HB.out))) : w.heap.size ≤ gb1423)); clear HB; have HB := n0_; have BK1423 := n1_; have GW1423 := n2_; have GE1423 := n3_; clear n0_ n1_ n2_ n3_; clear hb hbox hg; have hcz8_0 : w7.cell? ⟨gb1423, 0, none⟩ = some (.slice A0_0 l0_0.length c0_0) := (blk_cell BK1423.out 0).trans rfl; have hfz8_0 := blk_frozen BK1423.out 0) | ((with_reducible refine gate_callee (f := 79) rfl ?_); refine goesL_ (some 8) rfl rfl Try.func79 (by kernel_rfl) rfl #[.slice A0_0 l0_0.length c0_0, .int .i64 a1] rfl (by (try simp only [List.map_toArray, List.map_cons, List.map_nil]); first | done | rfl | (simp only [List.length_drop, List.length_take]; rfl)) ?_; (with_reducible refine (laws_heldWindowS.calls k _ _ l0_0 a1 t1424 _ ?side1 ?side2 A3.out).mono ?_); (case side1 => repeat (first | exact (Kd.C_below HR0_0.out HB.out) | (with_reducible refine Kd.C_alloc ?_ _) | (with_reducible refine Kd.C_drewN ?_ _) | (with_reducible refine Kd.C_drew ?_))); (case side2 => exact HC0_0.out); rintro e w' ⟨rfl, ⟨nd, rfl⟩⟩; refine ⟨_, rfl, ?_⟩))
    go_ret
    exact ⟨by first | rfl | (simp [errW_none, errW_some] <;> rfl) | (simp [*, errW_none, errW_some] <;> rfl), by repeat (first | (with_reducible first | exact HB.out | apply below_alloc | apply pw_below_drewN | apply below_drew1 | refine below_set ?_ GE1423.out) | exact HB.out)⟩

end Go.Proofs.Ytoomjghabiojkaa.P


/- FlattenRope: the lemmas that its law needs. -/
namespace Go.Proofs.Ytoomjghabiojkaa.P
open Go.RowKit Go.Proofs.YtoomjghabiojkaaW.PrintWords Go.Proofs.YtoomjghabiojkaaW.Mine
set_option linter.unusedVariables false
theorem szRope_f (l : List SlawsWindow) (a : Int) (h0 : 0 ≤ a) (h1 : a ≤ 1048576) (hl : l.length ≤ 9223372036854775807) : laws_szRope.f l a = some (if (l.length : Int) ≤ a then a - l.length else -1) := by
  unfold laws_szRope.f
  rw [szWindowS_f l a h0 h1 hl, Option.bind_some]
  by_cases h : (l.length : Int) ≤ a
  · rw [if_pos h, if_neg (by omega)]
  · rw [if_neg h, if_pos (by omega)]
theorem toRope_f (l : List SlawsWindow) (h : l.length ≤ 1048576) : Ev (fun k => laws_toRope.f k l) (l.map winOf) := Ev.bind (toWindowS_f l h) (Ev.now _)
theorem eqRope_f (l : List SimplWindow) (h : l.length ≤ 9223372036854775807) : Ev (fun k => laws_eqRope.f k l l) true := by
  refine Ev.bind (eqWindowS_f l h) ?_
  simp only [if_true]
  exact Ev.now _
theorem markRope_f (l : List SimplWindow) (a : Int) (h0 : 0 ≤ a) (h : a + 4 * l.length ≤ 4611686018427387904) : laws_markRope.f l a = some (a + 4 * l.length, marksG markW 4 a l.length) := if_pos ⟨h0, h⟩
theorem heldRope_f (n : Nat) (a : Int) (h0 : 0 ≤ a) (h1 : a + 4 * n ≤ 4611686018427387904) : Ev (fun k => laws_heldRope.f k (marksG markW 4 a n) a) (a + 4 * n) := by
  refine Ev.bind (heldWindowS_f n a h0 h1) ?_
  simp only [if_neg (show ¬ a + 4 * (n : Int) < 0 by omega)]
  exact Ev.now _
theorem flatB_ok (m : List (List Int)) (l : List SimplWindow) (h : okM m) : okM (flatB m l).1 ∧ (flatB m l).2.1.length ≤ 1 := by
  unfold flatB
  split
  · rename_i hr
    obtain ⟨h1, h2, h3⟩ := ropeB_of hr
    split
    · exact ⟨h, by simp⟩
    · split
      · exact ⟨okM_nil, by simp⟩
      · rename_i h4 h5
        have := memB_len h1
        exact ⟨okM_append (by omega) (fun y hy => (memB_rows h1 y hy).2) (by omega), by simp⟩
  · exact ⟨okM_nil, by simp⟩
end Go.Proofs.Ytoomjghabiojkaa.P


/- From a row's reading of an argument to what the print's kinds say of it. -/
namespace Go.Proofs.YtoomjghabiojkaaW.Mine
open Go.RowKit Go.Proofs.YtoomjghabiojkaaW.PrintWords
set_option linter.unusedVariables false
def ReadsK {α : Type} (P : Program) (T : TypeId) (d : Kd α) (ok : α → Prop) : Prop :=
  ∀ {H : Type} {enc : TypeId × Value → H} {w : World} {base : Nat} {spare : Nat → Bool} {held : Bool} {fuel : Nat} {cs : List Value} {x : DataW H × List MemPlace}, DataW.trod enc P w base spare held fuel T cs = some x → ∃ a : α, d.K w a cs ∧ ok a
theorem ReadsK.int {P : Program} {T : TypeId} {k : IntKind} (hT : P.underlying T = some (.int k)) : ReadsK P T (Kd.int k) (fun n => (Lit.int k n).wf = true) := by
  intro H enc w base spare held fuel cs x h
  obtain ⟨n, rfl, _, hw⟩ := DataW.trod_int hT h
  exact ⟨n, rfl, hw⟩
theorem ReadsK.bool {P : Program} {T : TypeId} (hT : P.underlying T = some .bool) : ReadsK P T Kd.bool (fun _ => True) := by
  intro H enc w base spare held fuel cs x h
  obtain ⟨b, rfl, _⟩ := DataW.trod_bool hT h
  exact ⟨b, rfl, trivial⟩
theorem ReadsK.string {P : Program} {T : TypeId} (hT : P.underlying T = some .string) : ReadsK P T Kd.string (fun s => s.size ≤ maxLen) := by
  intro H enc w base spare held fuel cs x h
  obtain ⟨s, rfl, _, hw⟩ := DataW.trod_string hT h
  exact ⟨s, rfl, hw⟩
theorem exists_list {α : Type} {n : Nat} {p : Nat → α → Prop} (h : ∀ i, i < n → ∃ a, p i a) : ∃ l : List α, l.length = n ∧ ∀ i a, l[i]? = some a → p i a := by
  induction n with
  | zero => exact ⟨[], rfl, fun i a hi => by simp at hi⟩
  | succ n ih =>
    obtain ⟨l, hl, hp⟩ := ih (fun i hi => h i (by omega))
    obtain ⟨a, ha⟩ := h n (by omega)
    refine ⟨l ++ [a], by simp [hl], fun i b hb => ?_⟩
    rcases Nat.lt_or_ge i n with hi | hi
    · rw [List.getElem?_append_left (by omega)] at hb
      exact hp i b hb
    · have hi2 : i = n := by
        have := (List.getElem?_eq_some_iff.1 hb).1
        simp [hl] at this
        omega
      subst hi2
      rw [← hl, List.getElem?_append_right (Nat.le_refl _)] at hb
      simp at hb
      rw [← hb]
      exact ha
theorem ReadsK.slice {α : Type} {P : Program} {T e : TypeId} {d : Kd α} {ok : α → Prop} (hT : P.underlying T = some (.slice e)) (hc : P.cellsOf e = d.sz) (h1 : ReadsK P e d ok) : ReadsK P T (Kd.slice e d) (fun xs => ∀ x ∈ xs, ok x) := by
  intro H enc w base spare held fuel cs x h
  rcases Deep.open_slice hT h with ⟨rfl, _⟩ | ⟨a, len, cap, m, n, D, Pl, rfl, hb, hl, hm, hmm, _, hx⟩
  · exact ⟨[], ⟨none, 0, rfl, Nat.le_refl _, rfl, by simp, fun h => absurd h (by simp)⟩, fun x hx => by simp at hx⟩
  · have hlm : len ≤ m := by rw [hmm]; split <;> omega
    obtain ⟨l, hll, hp⟩ := exists_list (n := len) (p := fun i y => ∃ cs', w.cells? base (a.add (i * P.cellsOf e)) (P.cellsOf e) = some cs' ∧ d.K w y cs' ∧ ok y) (fun i hi => by
      obtain ⟨cs', h2, h3⟩ := hx i (by omega)
      obtain ⟨y, hy, hok⟩ := h1 h3
      exact ⟨y, cs', h2, hy, hok⟩)
    refine ⟨l, ⟨some a, cap, by rw [hll], by omega, rfl, ?_, fun hn => ⟨a, rfl, fun j p hj => ?_⟩⟩, fun y hy => ?_⟩
    · rw [hll]; unfold maxLen at hm; omega
    · obtain ⟨cs', h2, h3, _⟩ := hp j p hj
      obtain ⟨_, hlen, hcell⟩ := World.cells?_some h2
      refine ⟨cs', by rw [hlen, hc], h3, fun i u hu => ?_⟩
      have hi : i < P.cellsOf e := by
        have := (List.getElem?_eq_some_iff.1 hu).1
        omega
      have h4 := hcell i hi
      rw [hu] at h4
      rw [← h4, ← hc]
      congr 1
      unfold Addr.add
      by_cases z1 : j * P.cellsOf e = 0 <;> by_cases z2 : i = 0 <;> simp [z1, z2, Nat.add_assoc]
    · obtain ⟨j, hj, rfl⟩ := List.mem_iff_getElem.1 hy
      obtain ⟨_, _, _, hok⟩ := hp j _ (List.getElem?_eq_getElem hj)
      exact hok
def ReadsF {α : Type} (P : Program) (o : Nat) (fs : List Field) (d : Kd α) (ok : α → Prop) : Prop :=
  ∀ {H : Type} {enc : TypeId × Value → H} {w : World} {base : Nat} {spare : Nat → Bool} {held : Bool} {n : Nat} {cs : List Value}, (∀ f ∈ fs, ∃ x, DataW.trod enc P w base spare held n f.type ((cs.drop f.offset).take (P.cellsOf f.type)) = some x) → ∃ a : α, d.K w a ((cs.drop o).take d.sz) ∧ ok a
theorem ReadsF.last {α : Type} {P : Program} {o : Nat} {f : Field} {d : Kd α} {ok : α → Prop} (ho : f.offset = o) (h : ReadsK P f.type d ok) (hc : P.cellsOf f.type = d.sz) : ReadsF P o [f] d ok := by
  intro H enc w base spare held n cs hh
  obtain ⟨x, hx⟩ := hh f (by simp)
  rw [ho, hc] at hx
  exact h hx
theorem ReadsF.cons {α β : Type} {P : Program} {o : Nat} {f : Field} {fs : List Field} {d : Kd α} {d2 : Kd β} {ok : α → Prop} {ok2 : β → Prop} (ho : f.offset = o) (h : ReadsK P f.type d ok) (hc : P.cellsOf f.type = d.sz) (h2 : ReadsF P (o + d.sz) fs d2 ok2) : ReadsF P o (f :: fs) (Kd.pair d d2) (fun p => ok p.1 ∧ ok2 p.2) := by
  intro H enc w base spare held n cs hh
  obtain ⟨x, hx⟩ := hh f (by simp)
  rw [ho, hc] at hx
  obtain ⟨a, ha, hok⟩ := h hx
  obtain ⟨b, hb, hok2⟩ := h2 (fun g hg => hh g (by simp [hg]))
  refine ⟨(a, b), ⟨_, _, ?_, ha, hb⟩, hok, hok2⟩
  show (cs.drop o).take (d.sz + d2.sz) = _
  rw [List.take_add, List.drop_drop]
theorem ReadsK.struct {α : Type} {P : Program} {T : TypeId} {fs : Array Field} {d : Kd α} {ok : α → Prop} (hT : P.underlying T = some (.struct fs)) (hc : P.cellsOf T = d.sz) (h : ReadsF P 0 fs.toList d ok) : ReadsK P T d ok := by
  intro H enc w base spare held fuel cs x hx
  obtain ⟨xs, n, _, _, hl, hlen, hf⟩ := DataW.trod_struct hT hx
  obtain ⟨a, ha, hok⟩ := h (n := n) (cs := cs) (enc := enc) (w := w) (base := base) (spare := spare) (held := held) (fun f hf2 => by
    obtain ⟨i, hi, rfl⟩ := List.mem_iff_getElem.1 hf2
    have h1 := hf i fs[i] (by simp at hi; exact Array.getElem?_eq_getElem hi)
    have hi2 : i < xs.length := by simp at hi; omega
    rw [List.getElem?_eq_getElem hi2] at h1
    exact ⟨_, by simpa using h1⟩)
  refine ⟨a, ?_, hok⟩
  rwa [List.drop_zero, ← hc, ← hl, List.take_length] at ha
theorem ReadsK.iso {α β : Type} {P : Program} {T : TypeId} {d : Kd α} {ok : α → Prop} (h : ReadsK P T d ok) (f : β → α) (g : α → β) (hfg : ∀ a, f (g a) = a) : ReadsK P T (Kd.iso d f) (fun b => ok (f b)) := by
  intro H enc w base spare held fuel cs x hx
  obtain ⟨a, ha, hok⟩ := h hx
  refine ⟨g a, ?_, by show ok (f (g a)); rw [hfg]; exact hok⟩
  show d.K w (f (g a)) cs
  rw [hfg]
  exact ha
theorem agg_of {cs : Array Value} {L : List Value} (h : cs.toList = L) : cs = L.toArray := by rw [← h]
end Go.Proofs.YtoomjghabiojkaaW.Mine


-- written by wip/gen_law.py
namespace Go.Proofs.Ytoomjghabiojkaa.P
open Go.RowKit Go.Proofs.YtoomjghabiojkaaW.PrintWords Go.Proofs.YtoomjghabiojkaaW.PrintLast Go.Proofs.YtoomjghabiojkaaW.PrintMore Go.Proofs.YtoomjghabiojkaaW.Mine
open List (setIfInBounds_toArray set_cons_zero set_cons_succ)
attribute [local go_sem] max2_int min2_int max_two min_two max_three min_three max_four min_four
set_option linter.unusedVariables false
set_option linter.unusedSimpArgs false
set_option maxHeartbeats 8000000 in
set_option maxRecDepth 100000 in
theorem FnExactFlattenRope_run0 (A0_0 : Option Addr) (c0_0 : Nat) (l0_0 : List (List Int)) (A1_0 : Option Addr) (c1_0 : Nat) (l1_0 : List (SlawsWindow)) (r1_0 : Int) (w : World) (hr0_0 : Kd.C (Kd.slice 5 (Kd.int .u8)) w A0_0 l0_0.length l0_0) (hc0_0 : l0_0.length ≤ c0_0) (hr1_0 : Kd.C klawsWindow w A1_0 l1_0.length l1_0) (hc1_0 : l1_0.length ≤ c1_0) (H1 : ∃ k, laws_szMemory.f k l0_0 1048576 = some r1_0) (P_ : r1_0 < 0) :
    Calls Try.prog 13 #[.agg #[.slice A0_0 l0_0.length c0_0], .agg #[.slice A1_0 l1_0.length c1_0]] w fun e w' => e = .returned (.bool true) ∧ Below w.heap.size w w' := by
  have HR0_0 := Aside0.mk hr0_0; have HC0_0 := Aside0.mk hc0_0; clear hr0_0 hc0_0
  have HR1_0 := Aside0.mk hr1_0; have HC1_0 := Aside0.mk hc1_0; clear hr1_0 hc1_0
  obtain ⟨k, H1_⟩ := H1; have H1 := Aside0.mk H1_; clear H1_
  have Pb_ : decide (r1_0 < 0) = true := decide_eq_true P_; clear P_
  have HS0 : Aside0 (Stk w [] w) := ⟨Stk.nil w⟩
  go_enter Try.func13, Try.ntmps13
  refine reg (aF := ?_) (nw := ?_) [evB 0 2 [] 24 (fun s => #[.slice A0_0 l0_0.length c0_0]) 9999 [] (fun s => #[.slice A0_0 l0_0.length c0_0]), evB 1 3 [] 99 (fun s => #[.slice A1_0 l1_0.length c1_0]) 9999 [] (fun s => #[.slice A1_0 l1_0.length c1_0]), evP 2 4 [] (fun s => .bool false)] [] [] false 3 rfl rfl (by kernel_rfl) rfl (mf0) ?aF ?nw HS0.out ?hs ?_
  rotate_left 2
  case aF => intro s; simp only [putE, EvT.val, Act.put, setIfInBounds_toArray, set_cons_zero, set_cons_succ]; rfl
  case nw => intro s; simp only [thA, bsA, List.nil_append, List.cons_append, List.append_nil, if_true, if_false, Nat.reduceLT, set_cons_zero, set_cons_succ]; rfl
  case hs => exact ⟨bv rfl (fun s w => by go_simp; try rfl), bv rfl (fun s w => by go_simp; try rfl), pu rfl, trivial⟩
  intro s1 w1 h; have HS1 := Aside0.mk h; clear h HS0
  refine tl0 ?_
  refine reg0 (aF := ?_) [] [0] false 1 rfl rfl (by kernel_rfl) rfl (fun _ => rfl) ?aF HS1.out ?hs ?_
  rotate_left 1
  case aF => intro s; simp only [putE, EvT.val, Act.put, setIfInBounds_toArray, set_cons_zero, set_cons_succ]; rfl
  case hs => exact trivial
  intro s2 w2 h; have HS2 := Aside0.mk h; clear h HS1
  refine tlP (v := .int .i64 1048576) 5 rfl ?_
  refine tl0 ?_
  refine reg0 (aF := ?_) [evL 0 20 [] (fun s => .agg #[.slice A0_0 l0_0.length c0_0]), evP 1 21 [] (fun s => .int .i64 1048576), evC 2 (some 22) [] (fun s x => .int .i64 r1_0) (fun s x => [])] [3] false 4 rfl rfl (by kernel_rfl) rfl (fun _ => rfl) ?aF HS2.out ?hs ?_
  rotate_left 1
  case aF => intro s; simp only [putE, EvT.val, Act.put, setIfInBounds_toArray, set_cons_zero, set_cons_succ]; rfl
  case hs => exact ⟨ld rfl 0 (fun s => rfl) (fun s w h => by have h0 := h 0 _ rfl; clear h; go_simp; try rfl), pu rfl, cl rfl (fun s => #[.agg #[.slice A0_0 l0_0.length c0_0], .int .i64 1048576]) Try.func14 (fun s w1 h => (laws_szMemory.calls _ _ _ _ _ _ _ (Kd.C_below HR0_0.out h.hb) HC0_0.out H1.out).mono (by rintro e w2 ⟨rfl, hb⟩; exact fin0 hb)), trivial⟩
  intro s3 w3 h; have HS3 := Aside0.mk h; clear h HS2
  refine tlP (v := .int .i64 r1_0) 5 rfl ?_
  refine tl0 ?_
  refine wp_seq ?_
  refine reg0 (aF := ?_) [evP 0 23 [] (fun s => .int .i64 r1_0), evP 1 24 [] (fun s => .bool true)] [] false 2 rfl rfl (by kernel_rfl) rfl (fun _ => rfl) ?aF HS3.out ?hs ?_
  rotate_left 1
  case aF => intro s; simp only [putE, EvT.val, Act.put, setIfInBounds_toArray, set_cons_zero, set_cons_succ]; rfl
  case hs => exact ⟨pu rfl, pb (q := .lss) Pb_ rfl, trivial⟩
  intro s4 w4 h; have HS4 := Aside0.mk h; clear h HS3
  refine tl0 ?_
  refine wp_cond_true rfl ?_
  refine reg0 (aF := ?_) [] [0] false 1 rfl rfl (by kernel_rfl) rfl (fun _ => rfl) ?aF HS4.out ?hs ?_
  rotate_left 1
  case aF => intro s; simp only [putE, EvT.val, Act.put, setIfInBounds_toArray, set_cons_zero, set_cons_succ]; rfl
  case hs => exact trivial
  intro s5 w5 h; have HS5 := Aside0.mk h; clear h HS4
  refine tlP (v := .bool true) 4 rfl ?_
  refine tl0 ?_
  refine wp_ret ?_
  go_ret
  exact ⟨by first | rfl | simp, HS5.out.hb⟩
set_option maxHeartbeats 8000000 in
set_option maxRecDepth 100000 in
theorem FnExactFlattenRope_run1 (A0_0 : Option Addr) (c0_0 : Nat) (l0_0 : List (List Int)) (A1_0 : Option Addr) (c1_0 : Nat) (l1_0 : List (SlawsWindow)) (r1_0 : Int) (r2_0 : Int) (w : World) (hr0_0 : Kd.C (Kd.slice 5 (Kd.int .u8)) w A0_0 l0_0.length l0_0) (hc0_0 : l0_0.length ≤ c0_0) (hr1_0 : Kd.C klawsWindow w A1_0 l1_0.length l1_0) (hc1_0 : l1_0.length ≤ c1_0) (H1 : ∃ k, laws_szMemory.f k l0_0 1048576 = some r1_0) (H2 : laws_szRope.f l1_0 r1_0 = some r2_0) (N_r1_0 : ¬ r1_0 < 0) (P_ : r2_0 < 0) :
    Calls Try.prog 13 #[.agg #[.slice A0_0 l0_0.length c0_0], .agg #[.slice A1_0 l1_0.length c1_0]] w fun e w' => e = .returned (.bool true) ∧ Below w.heap.size w w' := by
  have HR0_0 := Aside0.mk hr0_0; have HC0_0 := Aside0.mk hc0_0; clear hr0_0 hc0_0
  have HR1_0 := Aside0.mk hr1_0; have HC1_0 := Aside0.mk hc1_0; clear hr1_0 hc1_0
  obtain ⟨k, H1_⟩ := H1; have H1 := Aside0.mk H1_; clear H1_
  have H2_ := Aside0.mk H2; clear H2; have H2 := H2_; clear H2_
  have Nb_r1_0 : decide (r1_0 < 0) = false := decide_eq_false N_r1_0; clear N_r1_0
  have Pb_ : decide (r2_0 < 0) = true := decide_eq_true P_; clear P_
  have HS0 : Aside0 (Stk w [] w) := ⟨Stk.nil w⟩
  go_enter Try.func13, Try.ntmps13
  refine reg (aF := ?_) (nw := ?_) [evB 0 2 [] 24 (fun s => #[.slice A0_0 l0_0.length c0_0]) 9999 [] (fun s => #[.slice A0_0 l0_0.length c0_0]), evB 1 3 [] 99 (fun s => #[.slice A1_0 l1_0.length c1_0]) 9999 [] (fun s => #[.slice A1_0 l1_0.length c1_0]), evP 2 4 [] (fun s => .bool false)] [] [] false 3 rfl rfl (by kernel_rfl) rfl (mf0) ?aF ?nw HS0.out ?hs ?_
  rotate_left 2
  case aF => intro s; simp only [putE, EvT.val, Act.put, setIfInBounds_toArray, set_cons_zero, set_cons_succ]; rfl
  case nw => intro s; simp only [thA, bsA, List.nil_append, List.cons_append, List.append_nil, if_true, if_false, Nat.reduceLT, set_cons_zero, set_cons_succ]; rfl
  case hs => exact ⟨bv rfl (fun s w => by go_simp; try rfl), bv rfl (fun s w => by go_simp; try rfl), pu rfl, trivial⟩
  intro s1 w1 h; have HS1 := Aside0.mk h; clear h HS0
  refine tl0 ?_
  refine reg0 (aF := ?_) [] [0] false 1 rfl rfl (by kernel_rfl) rfl (fun _ => rfl) ?aF HS1.out ?hs ?_
  rotate_left 1
  case aF => intro s; simp only [putE, EvT.val, Act.put, setIfInBounds_toArray, set_cons_zero, set_cons_succ]; rfl
  case hs => exact trivial
  intro s2 w2 h; have HS2 := Aside0.mk h; clear h HS1
  refine tlP (v := .int .i64 1048576) 5 rfl ?_
  refine tl0 ?_
  refine reg0 (aF := ?_) [evL 0 20 [] (fun s => .agg #[.slice A0_0 l0_0.length c0_0]), evP 1 21 [] (fun s => .int .i64 1048576), evC 2 (some 22) [] (fun s x => .int .i64 r1_0) (fun s x => [])] [3] false 4 rfl rfl (by kernel_rfl) rfl (fun _ => rfl) ?aF HS2.out ?hs ?_
  rotate_left 1
  case aF => intro s; simp only [putE, EvT.val, Act.put, setIfInBounds_toArray, set_cons_zero, set_cons_succ]; rfl
  case hs => exact ⟨ld rfl 0 (fun s => rfl) (fun s w h => by have h0 := h 0 _ rfl; clear h; go_simp; try rfl), pu rfl, cl rfl (fun s => #[.agg #[.slice A0_0 l0_0.length c0_0], .int .i64 1048576]) Try.func14 (fun s w1 h => (laws_szMemory.calls _ _ _ _ _ _ _ (Kd.C_below HR0_0.out h.hb) HC0_0.out H1.out).mono (by rintro e w2 ⟨rfl, hb⟩; exact fin0 hb)), trivial⟩
  intro s3 w3 h; have HS3 := Aside0.mk h; clear h HS2
  refine tlP (v := .int .i64 r1_0) 5 rfl ?_
  refine tl0 ?_
  refine wp_seq ?_
  refine reg0 (aF := ?_) [evP 0 23 [] (fun s => .int .i64 r1_0), evP 1 24 [] (fun s => .bool false)] [] false 2 rfl rfl (by kernel_rfl) rfl (fun _ => rfl) ?aF HS3.out ?hs ?_
  rotate_left 1
  case aF => intro s; simp only [putE, EvT.val, Act.put, setIfInBounds_toArray, set_cons_zero, set_cons_succ]; rfl
  case hs => exact ⟨pu rfl, pb (q := .lss) Nb_r1_0 rfl, trivial⟩
  intro s4 w4 h; have HS4 := Aside0.mk h; clear h HS3
  refine tl0 ?_
  refine wp_cond_false rfl ?_
  refine wp_skip ?_
  refine thN ?_
  refine reg0 (aF := ?_) [evL 0 25 [] (fun s => .agg #[.slice A1_0 l1_0.length c1_0]), evP 1 26 [] (fun s => .int .i64 r1_0), evC 2 (some 27) [] (fun s x => .int .i64 r2_0) (fun s x => [])] [3] false 4 rfl rfl (by kernel_rfl) rfl (fun _ => rfl) ?aF HS4.out ?hs ?_
  rotate_left 1
  case aF => intro s; simp only [putE, EvT.val, Act.put, setIfInBounds_toArray, set_cons_zero, set_cons_succ]; rfl
  case hs => exact ⟨ld rfl 1 (fun s => rfl) (fun s w h => by have h0 := h 0 _ rfl; clear h; go_simp; try rfl), pu rfl, cl rfl (fun s => #[.agg #[.slice A1_0 l1_0.length c1_0], .int .i64 r1_0]) Try.func63 (fun s w1 h => (laws_szRope.calls _ _ _ _ _ _ (Kd.C_below HR1_0.out h.hb) HC1_0.out H2.out).mono (by rintro e w2 ⟨rfl, hb⟩; exact fin0 hb)), trivial⟩
  intro s5 w5 h; have HS5 := Aside0.mk h; clear h HS4
  refine tlP (v := .int .i64 r2_0) 5 rfl ?_
  refine tl0 ?_
  refine wp_seq ?_
  refine reg0 (aF := ?_) [evP 0 28 [] (fun s => .int .i64 r2_0), evP 1 29 [] (fun s => .bool true)] [] false 2 rfl rfl (by kernel_rfl) rfl (fun _ => rfl) ?aF HS5.out ?hs ?_
  rotate_left 1
  case aF => intro s; simp only [putE, EvT.val, Act.put, setIfInBounds_toArray, set_cons_zero, set_cons_succ]; rfl
  case hs => exact ⟨pu rfl, pb (q := .lss) Pb_ rfl, trivial⟩
  intro s6 w6 h; have HS6 := Aside0.mk h; clear h HS5
  refine tl0 ?_
  refine wp_cond_true rfl ?_
  refine reg0 (aF := ?_) [] [0] false 1 rfl rfl (by kernel_rfl) rfl (fun _ => rfl) ?aF HS6.out ?hs ?_
  rotate_left 1
  case aF => intro s; simp only [putE, EvT.val, Act.put, setIfInBounds_toArray, set_cons_zero, set_cons_succ]; rfl
  case hs => exact trivial
  intro s7 w7 h; have HS7 := Aside0.mk h; clear h HS6
  refine tlP (v := .bool true) 4 rfl ?_
  refine tl0 ?_
  refine wp_ret ?_
  go_ret
  exact ⟨by first | rfl | simp, HS7.out.hb⟩
set_option maxHeartbeats 8000000 in
set_option maxRecDepth 100000 in
theorem FnExactFlattenRope_run (A0_0 : Option Addr) (c0_0 : Nat) (l0_0 : List (List Int)) (A1_0 : Option Addr) (c1_0 : Nat) (l1_0 : List (SlawsWindow)) (r1_0 : Int) (r2_0 : Int) (r3_0 : List (List Int)) (r4_0 : List (SimplWindow)) (r5_0 : List (List Int)) (r5_1 : List (SimplWindow)) (r5_2 : Bool) (r11_0 : Int) (r11_1 : List (List Int)) (r12_0 : Int) (r12_1 : List SimplWindow) (r13_0 : Int) (r13_1 : List (List Int)) (r14_0 : Int) (r14_1 : List SimplWindow) (w : World) (hr0_0 : Kd.C (Kd.slice 5 (Kd.int .u8)) w A0_0 l0_0.length l0_0) (hc0_0 : l0_0.length ≤ c0_0) (hr1_0 : Kd.C klawsWindow w A1_0 l1_0.length l1_0) (hc1_0 : l1_0.length ≤ c1_0) (H1 : ∃ k, laws_szMemory.f k l0_0 1048576 = some r1_0) (H2 : laws_szRope.f l1_0 r1_0 = some r2_0) (H3 : laws_toMemory.f l0_0 = some r3_0) (H4 : ∃ k, laws_toRope.f k l1_0 = some r4_0) (H5 : ∃ k, spec_FlattenRope.f k r3_0 r4_0 = some (r5_0, r5_1, r5_2)) (H6 : impl_FlattenRope.f r3_0 r4_0 = some (r5_0, r5_1, r5_2)) (H7 : ∃ k, laws_eqMemory.f k r5_0 r5_0 = some true) (H8 : ∃ k, laws_eqRope.f k r5_1 r5_1 = some true) (H9 : ∃ k, laws_eqMemory.f k r3_0 r3_0 = some true) (H10 : ∃ k, laws_eqRope.f k r4_0 r4_0 = some true) (H11 : laws_markMemory.f r3_0 1 = some (r11_0, r11_1)) (H12 : laws_markRope.f r4_0 r11_0 = some (r12_0, r12_1)) (H13 : laws_markMemory.f r5_0 1 = some (r13_0, r13_1)) (H14 : laws_markRope.f r5_1 r13_0 = some (r14_0, r14_1)) (H15 : ∃ k, laws_heldMemory.f k r13_1 1 = some r13_0) (H16 : ∃ k, laws_heldRope.f k r14_1 r13_0 = some r14_0) (N_r12_0 : ¬ r12_0 < 0) (N_r13_0 : ¬ r13_0 < 0) (N_r14_0 : ¬ r14_0 < 0) (N_r1_0 : ¬ r1_0 < 0) (N_r2_0 : ¬ r2_0 < 0) :
    Calls Try.prog 13 #[.agg #[.slice A0_0 l0_0.length c0_0], .agg #[.slice A1_0 l1_0.length c1_0]] w fun e w' => e = .returned (.bool true) ∧ Below w.heap.size w w' := by
  have HR0_0 := Aside0.mk hr0_0; have HC0_0 := Aside0.mk hc0_0; clear hr0_0 hc0_0
  have HR1_0 := Aside0.mk hr1_0; have HC1_0 := Aside0.mk hc1_0; clear hr1_0 hc1_0
  obtain ⟨k, H1_⟩ := H1; have H1 := Aside0.mk H1_; clear H1_
  have H2_ := Aside0.mk H2; clear H2; have H2 := H2_; clear H2_
  have H3_ := Aside0.mk H3; clear H3; have H3 := H3_; clear H3_
  obtain ⟨k, H4_⟩ := H4; have H4 := Aside0.mk H4_; clear H4_
  obtain ⟨k, H5_⟩ := H5; have H5 := Aside0.mk H5_; clear H5_
  have H6_ := Aside0.mk H6; clear H6; have H6 := H6_; clear H6_
  obtain ⟨k, H7_⟩ := H7; have H7 := Aside0.mk H7_; clear H7_
  obtain ⟨k, H8_⟩ := H8; have H8 := Aside0.mk H8_; clear H8_
  obtain ⟨k, H9_⟩ := H9; have H9 := Aside0.mk H9_; clear H9_
  obtain ⟨k, H10_⟩ := H10; have H10 := Aside0.mk H10_; clear H10_
  have H11_ := Aside0.mk H11; clear H11; have H11 := H11_; clear H11_
  have H12_ := Aside0.mk H12; clear H12; have H12 := H12_; clear H12_
  have H13_ := Aside0.mk H13; clear H13; have H13 := H13_; clear H13_
  have H14_ := Aside0.mk H14; clear H14; have H14 := H14_; clear H14_
  obtain ⟨k, H15_⟩ := H15; have H15 := Aside0.mk H15_; clear H15_
  obtain ⟨k, H16_⟩ := H16; have H16 := Aside0.mk H16_; clear H16_
  have Nb_r12_0 : decide (r12_0 < 0) = false := decide_eq_false N_r12_0; clear N_r12_0
  have Nb_r13_0 : decide (r13_0 < 0) = false := decide_eq_false N_r13_0; clear N_r13_0
  have Nb_r14_0 : decide (r14_0 < 0) = false := decide_eq_false N_r14_0; clear N_r14_0
  have Nb_r1_0 : decide (r1_0 < 0) = false := decide_eq_false N_r1_0; clear N_r1_0
  have Nb_r2_0 : decide (r2_0 < 0) = false := decide_eq_false N_r2_0; clear N_r2_0
  have HS0 : Aside0 (Stk w [] w) := ⟨Stk.nil w⟩
  go_enter Try.func13, Try.ntmps13
  refine reg (aF := ?_) (nw := ?_) [evB 0 2 [] 24 (fun s => #[.slice A0_0 l0_0.length c0_0]) 9999 [] (fun s => #[.slice A0_0 l0_0.length c0_0]), evB 1 3 [] 99 (fun s => #[.slice A1_0 l1_0.length c1_0]) 9999 [] (fun s => #[.slice A1_0 l1_0.length c1_0]), evP 2 4 [] (fun s => .bool false)] [] [] false 3 rfl rfl (by kernel_rfl) rfl (mf0) ?aF ?nw HS0.out ?hs ?_
  rotate_left 2
  case aF => intro s; simp only [putE, EvT.val, Act.put, setIfInBounds_toArray, set_cons_zero, set_cons_succ]; rfl
  case nw => intro s; simp only [thA, bsA, List.nil_append, List.cons_append, List.append_nil, if_true, if_false, Nat.reduceLT, set_cons_zero, set_cons_succ]; rfl
  case hs => exact ⟨bv rfl (fun s w => by go_simp; try rfl), bv rfl (fun s w => by go_simp; try rfl), pu rfl, trivial⟩
  intro s1 w1 h; have HS1 := Aside0.mk h; clear h HS0
  refine tl0 ?_
  refine reg0 (aF := ?_) [] [0] false 1 rfl rfl (by kernel_rfl) rfl (fun _ => rfl) ?aF HS1.out ?hs ?_
  rotate_left 1
  case aF => intro s; simp only [putE, EvT.val, Act.put, setIfInBounds_toArray, set_cons_zero, set_cons_succ]; rfl
  case hs => exact trivial
  intro s2 w2 h; have HS2 := Aside0.mk h; clear h HS1
  refine tlP (v := .int .i64 1048576) 5 rfl ?_
  refine tl0 ?_
  refine reg0 (aF := ?_) [evL 0 20 [] (fun s => .agg #[.slice A0_0 l0_0.length c0_0]), evP 1 21 [] (fun s => .int .i64 1048576), evC 2 (some 22) [] (fun s x => .int .i64 r1_0) (fun s x => [])] [3] false 4 rfl rfl (by kernel_rfl) rfl (fun _ => rfl) ?aF HS2.out ?hs ?_
  rotate_left 1
  case aF => intro s; simp only [putE, EvT.val, Act.put, setIfInBounds_toArray, set_cons_zero, set_cons_succ]; rfl
  case hs => exact ⟨ld rfl 0 (fun s => rfl) (fun s w h => by have h0 := h 0 _ rfl; clear h; go_simp; try rfl), pu rfl, cl rfl (fun s => #[.agg #[.slice A0_0 l0_0.length c0_0], .int .i64 1048576]) Try.func14 (fun s w1 h => (laws_szMemory.calls _ _ _ _ _ _ _ (Kd.C_below HR0_0.out h.hb) HC0_0.out H1.out).mono (by rintro e w2 ⟨rfl, hb⟩; exact fin0 hb)), trivial⟩
  intro s3 w3 h; have HS3 := Aside0.mk h; clear h HS2
  refine tlP (v := .int .i64 r1_0) 5 rfl ?_
  refine tl0 ?_
  refine wp_seq ?_
  refine reg0 (aF := ?_) [evP 0 23 [] (fun s => .int .i64 r1_0), evP 1 24 [] (fun s => .bool false)] [] false 2 rfl rfl (by kernel_rfl) rfl (fun _ => rfl) ?aF HS3.out ?hs ?_
  rotate_left 1
  case aF => intro s; simp only [putE, EvT.val, Act.put, setIfInBounds_toArray, set_cons_zero, set_cons_succ]; rfl
  case hs => exact ⟨pu rfl, pb (q := .lss) Nb_r1_0 rfl, trivial⟩
  intro s4 w4 h; have HS4 := Aside0.mk h; clear h HS3
  refine tl0 ?_
  refine wp_cond_false rfl ?_
  refine wp_skip ?_
  refine thN ?_
  refine reg0 (aF := ?_) [evL 0 25 [] (fun s => .agg #[.slice A1_0 l1_0.length c1_0]), evP 1 26 [] (fun s => .int .i64 r1_0), evC 2 (some 27) [] (fun s x => .int .i64 r2_0) (fun s x => [])] [3] false 4 rfl rfl (by kernel_rfl) rfl (fun _ => rfl) ?aF HS4.out ?hs ?_
  rotate_left 1
  case aF => intro s; simp only [putE, EvT.val, Act.put, setIfInBounds_toArray, set_cons_zero, set_cons_succ]; rfl
  case hs => exact ⟨ld rfl 1 (fun s => rfl) (fun s w h => by have h0 := h 0 _ rfl; clear h; go_simp; try rfl), pu rfl, cl rfl (fun s => #[.agg #[.slice A1_0 l1_0.length c1_0], .int .i64 r1_0]) Try.func63 (fun s w1 h => (laws_szRope.calls _ _ _ _ _ _ (Kd.C_below HR1_0.out h.hb) HC1_0.out H2.out).mono (by rintro e w2 ⟨rfl, hb⟩; exact fin0 hb)), trivial⟩
  intro s5 w5 h; have HS5 := Aside0.mk h; clear h HS4
  refine tlP (v := .int .i64 r2_0) 5 rfl ?_
  refine tl0 ?_
  refine wp_seq ?_
  refine reg0 (aF := ?_) [evP 0 28 [] (fun s => .int .i64 r2_0), evP 1 29 [] (fun s => .bool false)] [] false 2 rfl rfl (by kernel_rfl) rfl (fun _ => rfl) ?aF HS5.out ?hs ?_
  rotate_left 1
  case aF => intro s; simp only [putE, EvT.val, Act.put, setIfInBounds_toArray, set_cons_zero, set_cons_succ]; rfl
  case hs => exact ⟨pu rfl, pb (q := .lss) Nb_r2_0 rfl, trivial⟩
  intro s6 w6 h; have HS6 := Aside0.mk h; clear h HS5
  refine tl0 ?_
  refine wp_cond_false rfl ?_
  refine wp_skip ?_
  refine thN ?_
  refine reg (aF := ?_) (nw := ?_) [evL 0 31 [] (fun s => .agg #[.slice A0_0 l0_0.length c0_0]), evC 1 (some 32) [] (fun s x => .agg #[.slice x.A r3_0.length x.c]) (fun s x => [rowS (Kd.slice 5 (Kd.int .u8)) 119 w x.lo x.hi x.A x.c r3_0]), evL 2 33 [] (fun s => .agg #[.slice A1_0 l1_0.length c1_0]), evC 3 (some 34) [] (fun s x => .agg #[.slice x.A r4_0.length x.c]) (fun s x => [rowR kimplWindow 48 w x.lo x.hi x.A x.c r4_0]), evC 4 (some 35) [1, 3] (fun s x => .tuple #[.agg #[.slice x.A r5_0.length x.c], .agg #[.slice x.B r5_1.length x.e], .bool r5_2]) (fun s x => [⟨x.lo, x.hi, fun w_ => Kd.S (Kd.slice 5 (Kd.int .u8)) 119 w_ w.heap.size (fun k_ => x.lo ≤ k_ ∧ k_ < x.hi) (.slice x.A r5_0.length x.c) r5_0 ∧ Kd.R kimplWindow 48 w_ w.heap.size (fun k_ => x.lo ≤ k_ ∧ k_ < x.hi) (.slice x.B r5_1.length x.e) r5_1⟩]), evP 5 30 [4] (fun s => .tuple #[.agg #[.slice (s 4).A r5_0.length (s 4).c], .agg #[.slice (s 4).B r5_1.length (s 4).e], .bool r5_2]), evP 6 36 [4] (fun s => .agg #[.slice (s 4).A r5_0.length (s 4).c]), evP 7 37 [4] (fun s => .agg #[.slice (s 4).B r5_1.length (s 4).e]), evP 8 38 [] (fun s => .bool r5_2), evB 9 6 [] 26 (fun s => #[.slice none 0 0]) 11 [4] (fun s => #[.slice (s 4).A r5_0.length (s 4).c]), evB 10 7 [] 102 (fun s => #[.slice none 0 0]) 12 [4] (fun s => #[.slice (s 4).B r5_1.length (s 4).e]), evS 11, evS 12] [13] [] true 14 rfl rfl (by kernel_rfl) rfl (mf0) ?aF ?nw HS6.out ?hs ?_
  rotate_left 2
  case aF => intro s; simp only [putE, EvT.val, Act.put, setIfInBounds_toArray, set_cons_zero, set_cons_succ]; rfl
  case nw => intro s; simp only [thA, bsA, List.nil_append, List.cons_append, List.append_nil, if_true, if_false, Nat.reduceLT, set_cons_zero, set_cons_succ]; rfl
  case hs => exact ⟨ld rfl 0 (fun s => rfl) (fun s w h => by have h0 := h 0 _ rfl; clear h; go_simp; try rfl), cl rfl (fun s => #[.agg #[.slice A0_0 l0_0.length c0_0]]) Try.func16 (fun s w1 h => (laws_toMemory.calls _ _ _ _ _ (Kd.C_below HR0_0.out h.hb) HC0_0.out H3.out).mono (by rintro e w2 ⟨v0_, rfl, ho0, hb⟩; obtain ⟨x, rfl, hx⟩ := fin_S ho0 hb h.hb.size; exact ⟨x, rfl, hx⟩)), ld rfl 1 (fun s => rfl) (fun s w h => by have h0 := h 0 _ rfl; clear h; go_simp; try rfl), cl rfl (fun s => #[.agg #[.slice A1_0 l1_0.length c1_0]]) Try.func65 (fun s w1 h => (laws_toRope.calls _ _ _ _ _ _ (Kd.C_below HR1_0.out h.hb) HC1_0.out H4.out).mono (by rintro e w2 ⟨v0_, rfl, ho0, hb⟩; obtain ⟨x, rfl, hx⟩ := fin_R ho0 hb h.hb.size; exact ⟨x, rfl, hx⟩)), cl rfl (fun s => #[.agg #[.slice (s 1).A r3_0.length (s 1).c], .agg #[.slice (s 3).A r4_0.length (s 3).c]]) Try.func64 (fun s w1 h => (spec_FlattenRope.calls _ _ _ _ _ _ _ _ _ _ _ (Kd.S_reads' (h.get 0 rfl)).2.2 (Kd.S_reads' (h.get 0 rfl)).2.1 (Kd.R_reads' (h.get 1 rfl)).2.2 (Kd.R_reads' (h.get 1 rfl)).2.1 H5.out).mono (by rintro e w2 ⟨v0_, v1_, rfl, ho0, ho1, hb⟩; obtain ⟨A0, c0, rfl⟩ := Kd.S_slice ho0; obtain ⟨A1, c1, rfl⟩ := Kd.R_slice ho1; obtain ⟨lo, hi, hx⟩ := (Stk.nil w1).push hb (P := fun lo_ hi_ w_ => Kd.S (Kd.slice 5 (Kd.int .u8)) 119 w_ w.heap.size (fun k_ => lo_ ≤ k_ ∧ k_ < hi_) (.slice A0 r5_0.length c0) r5_0 ∧ Kd.R kimplWindow 48 w_ w.heap.size (fun k_ => lo_ ≤ k_ ∧ k_ < hi_) (.slice A1 r5_1.length c1) r5_1) (fun w_ ha => ⟨S_held ho0 h.hb.size ha, R_held ho1 h.hb.size ha⟩); exact ⟨⟨lo, hi, A0, c0, A1, c1, none, 0⟩, rfl, hx⟩)), pu rfl, pu rfl, pu rfl, pu rfl, bv rfl (fun s w => by go_simp; try rfl), bv rfl (fun s w => by go_simp; try rfl), st rfl 9 0 (fun s => [.slice (s 4).A r5_0.length (s 4).c]) rfl (fun s w h hf => by have h0 := h 0 _ rfl; have f0 := hf 0; clear h hf; go_simp; try rfl), st rfl 10 0 (fun s => [.slice (s 4).B r5_1.length (s 4).e]) rfl (fun s w h hf => by have h0 := h 0 _ rfl; have f0 := hf 0; clear h hf; go_simp; try rfl), trivial⟩
  intro s7 w7 h; have HS7 := Aside0.mk h; clear h HS6
  refine tlP (v := .bool r5_2) 8 rfl ?_
  refine tl0 ?_
  refine reg (aF := ?_) (nw := ?_) [evL 0 39 [] (fun s => .agg #[.slice A0_0 l0_0.length c0_0]), evC 1 (some 40) [] (fun s x => .agg #[.slice x.A r3_0.length x.c]) (fun s x => [rowS (Kd.slice 5 (Kd.int .u8)) 119 w x.lo x.hi x.A x.c r3_0]), evB 2 9 [] 26 (fun s => #[.slice none 0 0]) 3 [1] (fun s => #[.slice (s 1).A r3_0.length (s 1).c]), evS 3] [] [] false 4 rfl rfl (by kernel_rfl) rfl (mf0) ?aF ?nw HS7.out ?hs ?_
  rotate_left 2
  case aF => intro s; simp only [putE, EvT.val, Act.put, setIfInBounds_toArray, set_cons_zero, set_cons_succ]; rfl
  case nw => intro s; simp only [thA, bsA, List.nil_append, List.cons_append, List.append_nil, if_true, if_false, Nat.reduceLT, set_cons_zero, set_cons_succ]; rfl
  case hs => exact ⟨ld rfl 5 (fun s => rfl) (fun s w h => by have h0 := h 0 _ rfl; clear h; go_simp; try rfl), cl rfl (fun s => #[.agg #[.slice A0_0 l0_0.length c0_0]]) Try.func16 (fun s w1 h => (laws_toMemory.calls _ _ _ _ _ (Kd.C_below HR0_0.out h.hb) HC0_0.out H3.out).mono (by rintro e w2 ⟨v0_, rfl, ho0, hb⟩; obtain ⟨x, rfl, hx⟩ := fin_S ho0 hb h.hb.size; exact ⟨x, rfl, hx⟩)), bv rfl (fun s w => by go_simp; try rfl), st rfl 2 0 (fun s => [.slice (s 1).A r3_0.length (s 1).c]) rfl (fun s w h hf => by have h0 := h 0 _ rfl; have f0 := hf 0; clear h hf; go_simp; try rfl), trivial⟩
  intro s8 w8 h; have HS8 := Aside0.mk h; clear h HS7
  refine tl0 ?_
  refine reg (aF := ?_) (nw := ?_) [evL 0 41 [] (fun s => .agg #[.slice A1_0 l1_0.length c1_0]), evC 1 (some 42) [] (fun s x => .agg #[.slice x.A r4_0.length x.c]) (fun s x => [rowR kimplWindow 48 w x.lo x.hi x.A x.c r4_0]), evB 2 10 [] 102 (fun s => #[.slice none 0 0]) 3 [1] (fun s => #[.slice (s 1).A r4_0.length (s 1).c]), evS 3] [] [] false 4 rfl rfl (by kernel_rfl) rfl (mf0) ?aF ?nw HS8.out ?hs ?_
  rotate_left 2
  case aF => intro s; simp only [putE, EvT.val, Act.put, setIfInBounds_toArray, set_cons_zero, set_cons_succ]; rfl
  case nw => intro s; simp only [thA, bsA, List.nil_append, List.cons_append, List.append_nil, if_true, if_false, Nat.reduceLT, set_cons_zero, set_cons_succ]; rfl
  case hs => exact ⟨ld rfl 8 (fun s => rfl) (fun s w h => by have h0 := h 0 _ rfl; clear h; go_simp; try rfl), cl rfl (fun s => #[.agg #[.slice A1_0 l1_0.length c1_0]]) Try.func65 (fun s w1 h => (laws_toRope.calls _ _ _ _ _ _ (Kd.C_below HR1_0.out h.hb) HC1_0.out H4.out).mono (by rintro e w2 ⟨v0_, rfl, ho0, hb⟩; obtain ⟨x, rfl, hx⟩ := fin_R ho0 hb h.hb.size; exact ⟨x, rfl, hx⟩)), bv rfl (fun s w => by go_simp; try rfl), st rfl 2 0 (fun s => [.slice (s 1).A r4_0.length (s 1).c]) rfl (fun s w h hf => by have h0 := h 0 _ rfl; have f0 := hf 0; clear h hf; go_simp; try rfl), trivial⟩
  intro s9 w9 h; have HS9 := Aside0.mk h; clear h HS8
  refine tl0 ?_
  refine reg (aF := ?_) (nw := ?_) [evL 0 44 [] (fun s => .agg #[.slice (s8 1).A r3_0.length (s8 1).c]), evL 1 45 [] (fun s => .agg #[.slice (s9 1).A r4_0.length (s9 1).c]), evC 2 (some 46) [] (fun s x => .tuple #[.agg #[.slice x.A r5_0.length x.c], .agg #[.slice x.B r5_1.length x.e], .bool r5_2]) (fun s x => [⟨x.lo, x.hi, fun w_ => Kd.S (Kd.slice 5 (Kd.int .u8)) 119 w_ w.heap.size (fun k_ => x.lo ≤ k_ ∧ k_ < x.hi) (.slice x.A r5_0.length x.c) r5_0 ∧ Kd.R kimplWindow 48 w_ w.heap.size (fun k_ => x.lo ≤ k_ ∧ k_ < x.hi) (.slice x.B r5_1.length x.e) r5_1⟩]), evP 3 43 [2] (fun s => .tuple #[.agg #[.slice (s 2).A r5_0.length (s 2).c], .agg #[.slice (s 2).B r5_1.length (s 2).e], .bool r5_2]), evP 4 47 [2] (fun s => .agg #[.slice (s 2).A r5_0.length (s 2).c]), evP 5 48 [2] (fun s => .agg #[.slice (s 2).B r5_1.length (s 2).e]), evP 6 49 [] (fun s => .bool r5_2), evB 7 11 [] 26 (fun s => #[.slice none 0 0]) 9 [2] (fun s => #[.slice (s 2).A r5_0.length (s 2).c]), evB 8 12 [] 102 (fun s => #[.slice none 0 0]) 10 [2] (fun s => #[.slice (s 2).B r5_1.length (s 2).e]), evS 9, evS 10] [11] [] false 12 rfl rfl (by kernel_rfl) rfl (mf0) ?aF ?nw HS9.out ?hs ?_
  rotate_left 2
  case aF => intro s; simp only [putE, EvT.val, Act.put, setIfInBounds_toArray, set_cons_zero, set_cons_succ]; rfl
  case nw => intro s; simp only [thA, bsA, List.nil_append, List.cons_append, List.append_nil, if_true, if_false, Nat.reduceLT, set_cons_zero, set_cons_succ]; rfl
  case hs => exact ⟨ld rfl 3 (fun s => rfl) (fun s w h => by have h0 := h 0 _ rfl; clear h; go_simp; try rfl), ld rfl 1 (fun s => rfl) (fun s w h => by have h0 := h 0 _ rfl; clear h; go_simp; try rfl), cl rfl (fun s => #[.agg #[.slice (s8 1).A r3_0.length (s8 1).c], .agg #[.slice (s9 1).A r4_0.length (s9 1).c]]) Try.func66 (fun s w1 h => (impl_FlattenRope.calls _ _ _ _ _ _ _ _ _ _ (Kd.S_reads' (h.get 2 rfl)).2.2 (Kd.S_reads' (h.get 2 rfl)).2.1 (Kd.R_reads' (h.get 0 rfl)).2.2 (Kd.R_reads' (h.get 0 rfl)).2.1 H6.out).mono (by rintro e w2 ⟨v0_, v1_, rfl, ho0, ho1, hb⟩; obtain ⟨A0, c0, rfl⟩ := Kd.S_slice ho0; obtain ⟨A1, c1, rfl⟩ := Kd.R_slice ho1; obtain ⟨lo, hi, hx⟩ := (Stk.nil w1).push hb (P := fun lo_ hi_ w_ => Kd.S (Kd.slice 5 (Kd.int .u8)) 119 w_ w.heap.size (fun k_ => lo_ ≤ k_ ∧ k_ < hi_) (.slice A0 r5_0.length c0) r5_0 ∧ Kd.R kimplWindow 48 w_ w.heap.size (fun k_ => lo_ ≤ k_ ∧ k_ < hi_) (.slice A1 r5_1.length c1) r5_1) (fun w_ ha => ⟨S_held ho0 h.hb.size ha, R_held ho1 h.hb.size ha⟩); exact ⟨⟨lo, hi, A0, c0, A1, c1, none, 0⟩, rfl, hx⟩)), pu rfl, pu rfl, pu rfl, pu rfl, bv rfl (fun s w => by go_simp; try rfl), bv rfl (fun s w => by go_simp; try rfl), st rfl 7 0 (fun s => [.slice (s 2).A r5_0.length (s 2).c]) rfl (fun s w h hf => by have h0 := h 0 _ rfl; have f0 := hf 0; clear h hf; go_simp; try rfl), st rfl 8 0 (fun s => [.slice (s 2).B r5_1.length (s 2).e]) rfl (fun s w h hf => by have h0 := h 0 _ rfl; have f0 := hf 0; clear h hf; go_simp; try rfl), trivial⟩
  intro s10 w10 h; have HS10 := Aside0.mk h; clear h HS9
  refine tlP (v := .bool r5_2) 13 rfl ?_
  refine tl0 ?_
  refine wp_seq ?_
  refine reg0 (aF := ?_) [evL 0 50 [] (fun s => .agg #[.slice (s10 2).A r5_0.length (s10 2).c]), evL 1 51 [] (fun s => .agg #[.slice (s7 4).A r5_0.length (s7 4).c]), evC 2 (some 52) [] (fun s x => .bool true) (fun s x => []), evP 3 53 [] (fun s => .bool false), evP 4 54 [] (fun s => .bool false), evL 5 55 [] (fun s => .agg #[.slice (s10 2).B r5_1.length (s10 2).e]), evL 6 56 [] (fun s => .agg #[.slice (s7 4).B r5_1.length (s7 4).e]), evC 7 (some 57) [] (fun s x => .bool true) (fun s x => []), evP 8 58 [] (fun s => .bool false), evP 9 59 [] (fun s => .bool false), evP 10 60 [] (fun s => .bool false), evP 11 61 [] (fun s => .bool r5_2), evP 12 62 [] (fun s => .bool r5_2), evP 13 63 [] (fun s => .bool false), evP 14 64 [] (fun s => .bool false)] [] false 15 rfl rfl (by kernel_rfl) rfl (fun _ => rfl) ?aF HS10.out ?hs ?_
  rotate_left 1
  case aF => intro s; simp only [putE, EvT.val, Act.put, setIfInBounds_toArray, set_cons_zero, set_cons_succ]; rfl
  case hs => exact ⟨ld rfl 1 (fun s => rfl) (fun s w h => by have h0 := h 0 _ rfl; clear h; go_simp; try rfl), ld rfl 10 (fun s => rfl) (fun s w h => by have h0 := h 0 _ rfl; clear h; go_simp; try rfl), cl rfl (fun s => #[.agg #[.slice (s10 2).A r5_0.length (s10 2).c], .agg #[.slice (s7 4).A r5_0.length (s7 4).c]]) Try.func19 (fun s w1 h => (laws_eqMemory.calls _ _ _ _ _ _ _ _ _ (Kd.S_reads' (h.get 0 rfl).1).2.2 (Kd.S_reads' (h.get 0 rfl).1).2.1 (Kd.S_reads' (h.get 9 rfl).1).2.2 (Kd.S_reads' (h.get 9 rfl).1).2.1 H7.out).mono (by rintro e w2 ⟨rfl, hb⟩; exact fin0 hb)), pu rfl, pu rfl, ld rfl 2 (fun s => rfl) (fun s w h => by have h0 := h 0 _ rfl; clear h; go_simp; try rfl), ld rfl 11 (fun s => rfl) (fun s w h => by have h0 := h 0 _ rfl; clear h; go_simp; try rfl), cl rfl (fun s => #[.agg #[.slice (s10 2).B r5_1.length (s10 2).e], .agg #[.slice (s7 4).B r5_1.length (s7 4).e]]) Try.func67 (fun s w1 h => (laws_eqRope.calls _ _ _ _ _ _ _ _ _ (Kd.R_reads' (h.get 0 rfl).2).2.2 (Kd.R_reads' (h.get 0 rfl).2).2.1 (Kd.R_reads' (h.get 9 rfl).2).2.2 (Kd.R_reads' (h.get 9 rfl).2).2.1 H8.out).mono (by rintro e w2 ⟨rfl, hb⟩; exact fin0 hb)), pu rfl, pu rfl, pu rfl, pu rfl, pu rfl, pn Try.underlying4 rfl, pu rfl, trivial⟩
  intro s11 w11 h; have HS11 := Aside0.mk h; clear h HS10
  refine tl0 ?_
  refine wp_cond_false rfl ?_
  refine wp_skip ?_
  refine thN ?_
  refine wp_seq ?_
  refine reg (aF := ?_) (nw := ?_) [evR 0 65 6 (fun s => .agg #[.slice (s8 1).A r3_0.length (s8 1).c]), evL 1 66 [] (fun s => .agg #[.slice A0_0 l0_0.length c0_0]), evC 2 (some 67) [] (fun s x => .agg #[.slice x.A r3_0.length x.c]) (fun s x => [rowS (Kd.slice 5 (Kd.int .u8)) 119 w x.lo x.hi x.A x.c r3_0]), evC 3 (some 68) [2] (fun s x => .bool true) (fun s x => []), evP 4 69 [] (fun s => .bool false)] [] [] true 5 rfl rfl (by kernel_rfl) rfl (mf0) ?aF ?nw HS11.out ?hs ?_
  rotate_left 2
  case aF => intro s; simp only [putE, EvT.val, Act.put, setIfInBounds_toArray, set_cons_zero, set_cons_succ]; rfl
  case nw => intro s; simp only [thA, bsA, List.nil_append, List.cons_append, List.append_nil, if_true, if_false, Nat.reduceLT, set_cons_zero, set_cons_succ]; rfl
  case hs => exact ⟨lr rfl 6 rfl (fun s w h => by have h0 := h 0 _ rfl; clear h; go_simp; try rfl), ld rfl 12 (fun s => rfl) (fun s w h => by have h0 := h 0 _ rfl; clear h; go_simp; try rfl), cl rfl (fun s => #[.agg #[.slice A0_0 l0_0.length c0_0]]) Try.func16 (fun s w1 h => (laws_toMemory.calls _ _ _ _ _ (Kd.C_below HR0_0.out h.hb) HC0_0.out H3.out).mono (by rintro e w2 ⟨v0_, rfl, ho0, hb⟩; obtain ⟨x, rfl, hx⟩ := fin_S ho0 hb h.hb.size; exact ⟨x, rfl, hx⟩)), cl rfl (fun s => #[.agg #[.slice (s8 1).A r3_0.length (s8 1).c], .agg #[.slice (s 2).A r3_0.length (s 2).c]]) Try.func19 (fun s w1 h => (laws_eqMemory.calls _ _ _ _ _ _ _ _ _ (Kd.S_reads' (h.get 6 rfl)).2.2 (Kd.S_reads' (h.get 6 rfl)).2.1 (Kd.S_reads' (h.get 0 rfl)).2.2 (Kd.S_reads' (h.get 0 rfl)).2.1 H9.out).mono (by rintro e w2 ⟨rfl, hb⟩; exact fin0 hb)), pu rfl, trivial⟩
  intro s12 w12 h; have HS12 := Aside0.mk h; clear h HS11
  refine tl0 ?_
  refine wp_cond_false rfl ?_
  refine wp_skip ?_
  refine thN ?_
  refine wp_seq ?_
  refine reg (aF := ?_) (nw := ?_) [evR 0 70 5 (fun s => .agg #[.slice (s9 1).A r4_0.length (s9 1).c]), evL 1 71 [] (fun s => .agg #[.slice A1_0 l1_0.length c1_0]), evC 2 (some 72) [] (fun s x => .agg #[.slice x.A r4_0.length x.c]) (fun s x => [rowR kimplWindow 48 w x.lo x.hi x.A x.c r4_0]), evC 3 (some 73) [2] (fun s x => .bool true) (fun s x => []), evP 4 74 [] (fun s => .bool false)] [] [] true 5 rfl rfl (by kernel_rfl) rfl (mf0) ?aF ?nw HS12.out ?hs ?_
  rotate_left 2
  case aF => intro s; simp only [putE, EvT.val, Act.put, setIfInBounds_toArray, set_cons_zero, set_cons_succ]; rfl
  case nw => intro s; simp only [thA, bsA, List.nil_append, List.cons_append, List.append_nil, if_true, if_false, Nat.reduceLT, set_cons_zero, set_cons_succ]; rfl
  case hs => exact ⟨lr rfl 5 rfl (fun s w h => by have h0 := h 0 _ rfl; clear h; go_simp; try rfl), ld rfl 14 (fun s => rfl) (fun s w h => by have h0 := h 0 _ rfl; clear h; go_simp; try rfl), cl rfl (fun s => #[.agg #[.slice A1_0 l1_0.length c1_0]]) Try.func65 (fun s w1 h => (laws_toRope.calls _ _ _ _ _ _ (Kd.C_below HR1_0.out h.hb) HC1_0.out H4.out).mono (by rintro e w2 ⟨v0_, rfl, ho0, hb⟩; obtain ⟨x, rfl, hx⟩ := fin_R ho0 hb h.hb.size; exact ⟨x, rfl, hx⟩)), cl rfl (fun s => #[.agg #[.slice (s9 1).A r4_0.length (s9 1).c], .agg #[.slice (s 2).A r4_0.length (s 2).c]]) Try.func67 (fun s w1 h => (laws_eqRope.calls _ _ _ _ _ _ _ _ _ (Kd.R_reads' (h.get 5 rfl)).2.2 (Kd.R_reads' (h.get 5 rfl)).2.1 (Kd.R_reads' (h.get 0 rfl)).2.2 (Kd.R_reads' (h.get 0 rfl)).2.1 H10.out).mono (by rintro e w2 ⟨rfl, hb⟩; exact fin0 hb)), pu rfl, trivial⟩
  intro s13 w13 h; have HS13 := Aside0.mk h; clear h HS12
  refine tl0 ?_
  refine wp_cond_false rfl ?_
  refine wp_skip ?_
  refine thN ?_
  refine reg0 (aF := ?_) [] [0] false 1 rfl rfl (by kernel_rfl) rfl (fun _ => rfl) ?aF HS13.out ?hs ?_
  rotate_left 1
  case aF => intro s; simp only [putE, EvT.val, Act.put, setIfInBounds_toArray, set_cons_zero, set_cons_succ]; rfl
  case hs => exact trivial
  intro s14 w14 h; have HS14 := Aside0.mk h; clear h HS13
  refine tlP (v := .int .i64 1) 14 rfl ?_
  refine tl0 ?_
  refine reg (aF := ?_) (nw := ?_) [evL 0 75 [] (fun s => .agg #[.slice (s8 1).A r3_0.length (s8 1).c]), evP 1 76 [] (fun s => .int .i64 1), evW 2 (some 77) [] (fun s => .int .i64 r11_0)] [3] [⟨7, 2, [], fun s => ⟨(s8 1).lo, (s8 1).hi, fun w_ => Kd.S (Kd.slice 5 (Kd.int .u8)) 119 w_ w.heap.size (fun k_ => (s8 1).lo ≤ k_ ∧ k_ < (s8 1).hi) (.slice (s8 1).A r3_0.length (s8 1).c) r11_1⟩⟩] false 4 rfl rfl (by kernel_rfl) rfl ((mf1 mf0)) ?aF ?nw HS14.out ?hs ?_
  rotate_left 2
  case aF => intro s; simp only [putE, EvT.val, Act.put, setIfInBounds_toArray, set_cons_zero, set_cons_succ]; rfl
  case nw => intro s; simp only [thA, bsA, List.nil_append, List.cons_append, List.append_nil, if_true, if_false, Nat.reduceLT, set_cons_zero, set_cons_succ]; rfl
  case hs => exact ⟨ld rfl 8 (fun s => rfl) (fun s w h => by have h0 := h 0 _ rfl; clear h; go_simp; try rfl), pu rfl, cw rfl 0 7 rfl rfl (fun s => #[.agg #[.slice (s8 1).A r3_0.length (s8 1).c], .int .i64 1]) Try.func20 (fun s w1 h => (laws_markMemory.calls (fun k_ => (s8 1).lo ≤ k_ ∧ k_ < (s8 1).hi) _ _ _ _ _ w _ h.hb (h.get 0 rfl) H11.out).mono (by rintro e w2 ⟨rfl, ho0, hb, hk⟩; exact ⟨rfl, Wrote.of 0 h rfl hb hk (fun w_ ha => S_again ho0 ha)⟩)), trivial⟩
  intro s15 w15 h; have HS15 := Aside0.mk h; clear h HS14
  refine tlP (v := .int .i64 r11_0) 14 rfl ?_
  refine tl0 ?_
  refine reg (aF := ?_) (nw := ?_) [evL 0 78 [] (fun s => .agg #[.slice (s9 1).A r4_0.length (s9 1).c]), evP 1 79 [] (fun s => .int .i64 r11_0), evW 2 (some 80) [] (fun s => .int .i64 r12_0)] [3] [⟨5, 2, [], fun s => ⟨(s9 1).lo, (s9 1).hi, fun w_ => Kd.R kimplWindow 48 w_ w.heap.size (fun k_ => (s9 1).lo ≤ k_ ∧ k_ < (s9 1).hi) (.slice (s9 1).A r4_0.length (s9 1).c) r12_1⟩⟩] false 4 rfl rfl (by kernel_rfl) rfl ((mf1 mf0)) ?aF ?nw HS15.out ?hs ?_
  rotate_left 2
  case aF => intro s; simp only [putE, EvT.val, Act.put, setIfInBounds_toArray, set_cons_zero, set_cons_succ]; rfl
  case nw => intro s; simp only [thA, bsA, List.nil_append, List.cons_append, List.append_nil, if_true, if_false, Nat.reduceLT, set_cons_zero, set_cons_succ]; rfl
  case hs => exact ⟨ld rfl 6 (fun s => rfl) (fun s w h => by have h0 := h 0 _ rfl; clear h; go_simp; try rfl), pu rfl, cw rfl 0 5 rfl rfl (fun s => #[.agg #[.slice (s9 1).A r4_0.length (s9 1).c], .int .i64 r11_0]) Try.func68 (fun s w1 h => (laws_markRope.calls (fun k_ => (s9 1).lo ≤ k_ ∧ k_ < (s9 1).hi) _ _ _ _ _ w _ h.hb (h.get 0 rfl) H12.out).mono (by rintro e w2 ⟨rfl, ho0, hb, hk⟩; exact ⟨rfl, Wrote.of 0 h rfl hb hk (fun w_ ha => R_again ho0 ha)⟩)), trivial⟩
  intro s16 w16 h; have HS16 := Aside0.mk h; clear h HS15
  refine tlP (v := .int .i64 r12_0) 14 rfl ?_
  refine tl0 ?_
  refine wp_seq ?_
  refine reg0 (aF := ?_) [evP 0 81 [] (fun s => .int .i64 r12_0), evP 1 82 [] (fun s => .bool false), evP 2 83 [] (fun s => .bool false), evL 3 84 [] (fun s => .agg #[.slice (s10 2).A r5_0.length (s10 2).c]), evL 4 85 [] (fun s => .agg #[.slice (s7 4).A r5_0.length (s7 4).c]), evC 5 (some 86) [] (fun s x => .bool true) (fun s x => []), evP 6 87 [] (fun s => .bool false), evP 7 88 [] (fun s => .bool false), evP 8 89 [] (fun s => .bool false), evL 9 90 [] (fun s => .agg #[.slice (s10 2).B r5_1.length (s10 2).e]), evL 10 91 [] (fun s => .agg #[.slice (s7 4).B r5_1.length (s7 4).e]), evC 11 (some 92) [] (fun s x => .bool true) (fun s x => []), evP 12 93 [] (fun s => .bool false), evP 13 94 [] (fun s => .bool false), evP 14 95 [] (fun s => .bool false), evP 15 96 [] (fun s => .bool r5_2), evP 16 97 [] (fun s => .bool r5_2), evP 17 98 [] (fun s => .bool false), evP 18 99 [] (fun s => .bool false)] [] false 19 rfl rfl (by kernel_rfl) rfl (fun _ => rfl) ?aF HS16.out ?hs ?_
  rotate_left 1
  case aF => intro s; simp only [putE, EvT.val, Act.put, setIfInBounds_toArray, set_cons_zero, set_cons_succ]; rfl
  case hs => exact ⟨pu rfl, pb (q := .lss) Nb_r12_0 rfl, pu rfl, ld rfl 3 (fun s => rfl) (fun s w h => by have h0 := h 0 _ rfl; clear h; go_simp; try rfl), ld rfl 12 (fun s => rfl) (fun s w h => by have h0 := h 0 _ rfl; clear h; go_simp; try rfl), cl rfl (fun s => #[.agg #[.slice (s10 2).A r5_0.length (s10 2).c], .agg #[.slice (s7 4).A r5_0.length (s7 4).c]]) Try.func19 (fun s w1 h => (laws_eqMemory.calls _ _ _ _ _ _ _ _ _ (Kd.S_reads' (h.get 2 rfl).1).2.2 (Kd.S_reads' (h.get 2 rfl).1).2.1 (Kd.S_reads' (h.get 11 rfl).1).2.2 (Kd.S_reads' (h.get 11 rfl).1).2.1 H7.out).mono (by rintro e w2 ⟨rfl, hb⟩; exact fin0 hb)), pu rfl, pu rfl, pu rfl, ld rfl 4 (fun s => rfl) (fun s w h => by have h0 := h 0 _ rfl; clear h; go_simp; try rfl), ld rfl 13 (fun s => rfl) (fun s w h => by have h0 := h 0 _ rfl; clear h; go_simp; try rfl), cl rfl (fun s => #[.agg #[.slice (s10 2).B r5_1.length (s10 2).e], .agg #[.slice (s7 4).B r5_1.length (s7 4).e]]) Try.func67 (fun s w1 h => (laws_eqRope.calls _ _ _ _ _ _ _ _ _ (Kd.R_reads' (h.get 2 rfl).2).2.2 (Kd.R_reads' (h.get 2 rfl).2).2.1 (Kd.R_reads' (h.get 11 rfl).2).2.2 (Kd.R_reads' (h.get 11 rfl).2).2.1 H8.out).mono (by rintro e w2 ⟨rfl, hb⟩; exact fin0 hb)), pu rfl, pu rfl, pu rfl, pu rfl, pu rfl, pn Try.underlying4 rfl, pu rfl, trivial⟩
  intro s17 w17 h; have HS17 := Aside0.mk h; clear h HS16
  refine tl0 ?_
  refine wp_cond_false rfl ?_
  refine wp_skip ?_
  refine thN ?_
  refine reg0 (aF := ?_) [] [0] false 1 rfl rfl (by kernel_rfl) rfl (fun _ => rfl) ?aF HS17.out ?hs ?_
  rotate_left 1
  case aF => intro s; simp only [putE, EvT.val, Act.put, setIfInBounds_toArray, set_cons_zero, set_cons_succ]; rfl
  case hs => exact trivial
  intro s18 w18 h; have HS18 := Aside0.mk h; clear h HS17
  refine tlP (v := .int .i64 1) 15 rfl ?_
  refine tl0 ?_
  refine reg (aF := ?_) (nw := ?_) [evL 0 100 [] (fun s => .agg #[.slice (s10 2).A r5_0.length (s10 2).c]), evP 1 101 [] (fun s => .int .i64 1), evW 2 (some 102) [] (fun s => .int .i64 r13_0)] [3] [⟨2, 2, [], fun s => ⟨(s10 2).lo, (s10 2).hi, fun w_ => Kd.S (Kd.slice 5 (Kd.int .u8)) 119 w_ w.heap.size (fun k_ => (s10 2).lo ≤ k_ ∧ k_ < (s10 2).hi) (.slice (s10 2).A r5_0.length (s10 2).c) r13_1 ∧ Kd.R kimplWindow 48 w_ w.heap.size (fun k_ => (s10 2).lo ≤ k_ ∧ k_ < (s10 2).hi) (.slice (s10 2).B r5_1.length (s10 2).e) r5_1⟩⟩] false 4 rfl rfl (by kernel_rfl) rfl ((mf1 mf0)) ?aF ?nw HS18.out ?hs ?_
  rotate_left 2
  case aF => intro s; simp only [putE, EvT.val, Act.put, setIfInBounds_toArray, set_cons_zero, set_cons_succ]; rfl
  case nw => intro s; simp only [thA, bsA, List.nil_append, List.cons_append, List.append_nil, if_true, if_false, Nat.reduceLT, set_cons_zero, set_cons_succ]; rfl
  case hs => exact ⟨ld rfl 3 (fun s => rfl) (fun s w h => by have h0 := h 0 _ rfl; clear h; go_simp; try rfl), pu rfl, cw rfl 0 2 rfl rfl (fun s => #[.agg #[.slice (s10 2).A r5_0.length (s10 2).c], .int .i64 1]) Try.func20 (fun s w1 h => (laws_markMemory.calls _ _ _ _ _ _ w _ h.hb (S_ty (h.get 0 rfl).1) H13.out).mono (by rintro e w2 ⟨rfl, ho0, hb, hk⟩; exact ⟨rfl, Wrote.of 0 h rfl hb (hk.mono (fun _ hk_ => ⟨hk_.1.1.1, hk_.1.1.2⟩)) (fun w_ ha => ⟨S_again (Kd.S_mono ho0 (fun _ hk_ => hk_.1.1)) ha, R_again (R_tyKept (h.get 0 rfl).2 hk (by intro z hz hz2; revert hz hz2; simp [Kd.slice, Kd.int, Kd.bool, Kd.scalar, kimplWindow, Kd.iso, Kd.pair]; try omega)) ha⟩)⟩)), trivial⟩
  intro s19 w19 h; have HS19 := Aside0.mk h; clear h HS18
  refine tlP (v := .int .i64 r13_0) 15 rfl ?_
  refine tl0 ?_
  refine reg (aF := ?_) (nw := ?_) [evL 0 103 [] (fun s => .agg #[.slice (s10 2).B r5_1.length (s10 2).e]), evP 1 104 [] (fun s => .int .i64 r13_0), evW 2 (some 105) [] (fun s => .int .i64 r14_0)] [3] [⟨2, 2, [], fun s => ⟨(s10 2).lo, (s10 2).hi, fun w_ => Kd.S (Kd.slice 5 (Kd.int .u8)) 119 w_ w.heap.size (fun k_ => (s10 2).lo ≤ k_ ∧ k_ < (s10 2).hi) (.slice (s10 2).A r5_0.length (s10 2).c) r13_1 ∧ Kd.R kimplWindow 48 w_ w.heap.size (fun k_ => (s10 2).lo ≤ k_ ∧ k_ < (s10 2).hi) (.slice (s10 2).B r5_1.length (s10 2).e) r14_1⟩⟩] false 4 rfl rfl (by kernel_rfl) rfl ((mf1 mf0)) ?aF ?nw HS19.out ?hs ?_
  rotate_left 2
  case aF => intro s; simp only [putE, EvT.val, Act.put, setIfInBounds_toArray, set_cons_zero, set_cons_succ]; rfl
  case nw => intro s; simp only [thA, bsA, List.nil_append, List.cons_append, List.append_nil, if_true, if_false, Nat.reduceLT, set_cons_zero, set_cons_succ]; rfl
  case hs => exact ⟨ld rfl 4 (fun s => rfl) (fun s w h => by have h0 := h 0 _ rfl; clear h; go_simp; try rfl), pu rfl, cw rfl 0 2 rfl rfl (fun s => #[.agg #[.slice (s10 2).B r5_1.length (s10 2).e], .int .i64 r13_0]) Try.func68 (fun s w1 h => (laws_markRope.calls _ _ _ _ _ _ w _ h.hb (R_ty (h.get 0 rfl).2) H14.out).mono (by rintro e w2 ⟨rfl, ho0, hb, hk⟩; exact ⟨rfl, Wrote.of 0 h rfl hb (hk.mono (fun _ hk_ => ⟨hk_.1.1.1, hk_.1.1.2⟩)) (fun w_ ha => ⟨S_again (S_tyKept (h.get 0 rfl).1 hk (by intro z hz hz2; revert hz hz2; simp [Kd.slice, Kd.int, Kd.bool, Kd.scalar, kimplWindow, Kd.iso, Kd.pair]; try omega)) ha, R_again (Kd.R_mono ho0 (fun _ hk_ => hk_.1.1)) ha⟩)⟩)), trivial⟩
  intro s20 w20 h; have HS20 := Aside0.mk h; clear h HS19
  refine tlP (v := .int .i64 r14_0) 15 rfl ?_
  refine tl0 ?_
  refine reg0 (aF := ?_) [] [0] false 1 rfl rfl (by kernel_rfl) rfl (fun _ => rfl) ?aF HS20.out ?hs ?_
  rotate_left 1
  case aF => intro s; simp only [putE, EvT.val, Act.put, setIfInBounds_toArray, set_cons_zero, set_cons_succ]; rfl
  case hs => exact trivial
  intro s21 w21 h; have HS21 := Aside0.mk h; clear h HS20
  refine tlP (v := .int .i64 1) 16 rfl ?_
  refine tl0 ?_
  refine reg0 (aF := ?_) [evL 0 106 [] (fun s => .agg #[.slice (s10 2).A r5_0.length (s10 2).c]), evP 1 107 [] (fun s => .int .i64 1), evC 2 (some 108) [] (fun s x => .int .i64 r13_0) (fun s x => [])] [3] false 4 rfl rfl (by kernel_rfl) rfl (fun _ => rfl) ?aF HS21.out ?hs ?_
  rotate_left 1
  case aF => intro s; simp only [putE, EvT.val, Act.put, setIfInBounds_toArray, set_cons_zero, set_cons_succ]; rfl
  case hs => exact ⟨ld rfl 3 (fun s => rfl) (fun s w h => by have h0 := h 0 _ rfl; clear h; go_simp; try rfl), pu rfl, cl rfl (fun s => #[.agg #[.slice (s10 2).A r5_0.length (s10 2).c], .int .i64 1]) Try.func69 (fun s w1 h => by rw [show r5_0.length = r13_1.length from (Kd.S_reads' (h.get 2 rfl).1).1]; exact (laws_heldMemory.calls _ _ _ _ _ _ _ ((Kd.S_reads' (h.get 2 rfl).1).1 ▸ (Kd.S_reads' (h.get 2 rfl).1).2.2) ((Kd.S_reads' (h.get 2 rfl).1).1 ▸ (Kd.S_reads' (h.get 2 rfl).1).2.1) H15.out).mono (by rintro e w2 ⟨rfl, hb⟩; exact fin0 hb)), trivial⟩
  intro s22 w22 h; have HS22 := Aside0.mk h; clear h HS21
  refine tlP (v := .int .i64 r13_0) 16 rfl ?_
  refine tl0 ?_
  refine wp_seq ?_
  refine reg0 (aF := ?_) [evP 0 109 [] (fun s => .int .i64 r13_0), evP 1 110 [] (fun s => .bool false)] [] false 2 rfl rfl (by kernel_rfl) rfl (fun _ => rfl) ?aF HS22.out ?hs ?_
  rotate_left 1
  case aF => intro s; simp only [putE, EvT.val, Act.put, setIfInBounds_toArray, set_cons_zero, set_cons_succ]; rfl
  case hs => exact ⟨pu rfl, pb (q := .lss) Nb_r13_0 rfl, trivial⟩
  intro s23 w23 h; have HS23 := Aside0.mk h; clear h HS22
  refine tl0 ?_
  refine wp_cond_false rfl ?_
  refine wp_skip ?_
  refine thN ?_
  refine reg0 (aF := ?_) [evL 0 111 [] (fun s => .agg #[.slice (s10 2).B r5_1.length (s10 2).e]), evP 1 112 [] (fun s => .int .i64 r13_0), evC 2 (some 113) [] (fun s x => .int .i64 r14_0) (fun s x => [])] [3] false 4 rfl rfl (by kernel_rfl) rfl (fun _ => rfl) ?aF HS23.out ?hs ?_
  rotate_left 1
  case aF => intro s; simp only [putE, EvT.val, Act.put, setIfInBounds_toArray, set_cons_zero, set_cons_succ]; rfl
  case hs => exact ⟨ld rfl 4 (fun s => rfl) (fun s w h => by have h0 := h 0 _ rfl; clear h; go_simp; try rfl), pu rfl, cl rfl (fun s => #[.agg #[.slice (s10 2).B r5_1.length (s10 2).e], .int .i64 r13_0]) Try.func70 (fun s w1 h => by rw [show r5_1.length = r14_1.length from (Kd.R_reads' (h.get 2 rfl).2).1]; exact (laws_heldRope.calls _ _ _ _ _ _ _ ((Kd.R_reads' (h.get 2 rfl).2).1 ▸ (Kd.R_reads' (h.get 2 rfl).2).2.2) ((Kd.R_reads' (h.get 2 rfl).2).1 ▸ (Kd.R_reads' (h.get 2 rfl).2).2.1) H16.out).mono (by rintro e w2 ⟨rfl, hb⟩; exact fin0 hb)), trivial⟩
  intro s24 w24 h; have HS24 := Aside0.mk h; clear h HS23
  refine tlP (v := .int .i64 r14_0) 16 rfl ?_
  refine tl0 ?_
  refine wp_seq ?_
  refine reg0 (aF := ?_) [evP 0 114 [] (fun s => .int .i64 r14_0), evP 1 115 [] (fun s => .bool false)] [] false 2 rfl rfl (by kernel_rfl) rfl (fun _ => rfl) ?aF HS24.out ?hs ?_
  rotate_left 1
  case aF => intro s; simp only [putE, EvT.val, Act.put, setIfInBounds_toArray, set_cons_zero, set_cons_succ]; rfl
  case hs => exact ⟨pu rfl, pb (q := .lss) Nb_r14_0 rfl, trivial⟩
  intro s25 w25 h; have HS25 := Aside0.mk h; clear h HS24
  refine tl0 ?_
  refine wp_cond_false rfl ?_
  refine wp_skip ?_
  refine thN ?_
  refine wp_seq ?_
  refine reg0 (aF := ?_) [evP 0 116 [] (fun s => .int .i64 r14_0), evP 1 117 [] (fun s => .int .i64 r14_0), evP 2 118 [] (fun s => .bool false)] [] false 3 rfl rfl (by kernel_rfl) rfl (fun _ => rfl) ?aF HS25.out ?hs ?_
  rotate_left 1
  case aF => intro s; simp only [putE, EvT.val, Act.put, setIfInBounds_toArray, set_cons_zero, set_cons_succ]; rfl
  case hs => exact ⟨pu rfl, pu rfl, pb (q := .neq) (bne_self_eq_false _) rfl, trivial⟩
  intro s26 w26 h; have HS26 := Aside0.mk h; clear h HS25
  refine tl0 ?_
  refine wp_cond_false rfl ?_
  refine wp_skip ?_
  refine thN ?_
  refine reg (aF := ?_) (nw := ?_) [evL 0 120 [] (fun s => .agg #[.slice A0_0 l0_0.length c0_0]), evC 1 (some 121) [] (fun s x => .agg #[.slice x.A r3_0.length x.c]) (fun s x => [rowS (Kd.slice 5 (Kd.int .u8)) 119 w x.lo x.hi x.A x.c r3_0]), evL 2 122 [] (fun s => .agg #[.slice A1_0 l1_0.length c1_0]), evC 3 (some 123) [] (fun s x => .agg #[.slice x.A r4_0.length x.c]) (fun s x => [rowR kimplWindow 48 w x.lo x.hi x.A x.c r4_0]), evC 4 (some 124) [1, 3] (fun s x => .tuple #[.agg #[.slice x.A r5_0.length x.c], .agg #[.slice x.B r5_1.length x.e], .bool r5_2]) (fun s x => [⟨x.lo, x.hi, fun w_ => Kd.S (Kd.slice 5 (Kd.int .u8)) 119 w_ w.heap.size (fun k_ => x.lo ≤ k_ ∧ k_ < x.hi) (.slice x.A r5_0.length x.c) r5_0 ∧ Kd.R kimplWindow 48 w_ w.heap.size (fun k_ => x.lo ≤ k_ ∧ k_ < x.hi) (.slice x.B r5_1.length x.e) r5_1⟩]), evP 5 119 [4] (fun s => .tuple #[.agg #[.slice (s 4).A r5_0.length (s 4).c], .agg #[.slice (s 4).B r5_1.length (s 4).e], .bool r5_2]), evP 6 125 [4] (fun s => .agg #[.slice (s 4).A r5_0.length (s 4).c]), evP 7 126 [4] (fun s => .agg #[.slice (s 4).B r5_1.length (s 4).e]), evP 8 127 [] (fun s => .bool r5_2), evB 9 17 [] 26 (fun s => #[.slice none 0 0]) 11 [4] (fun s => #[.slice (s 4).A r5_0.length (s 4).c]), evB 10 18 [] 102 (fun s => #[.slice none 0 0]) 12 [4] (fun s => #[.slice (s 4).B r5_1.length (s 4).e]), evS 11, evS 12] [13] [] true 14 rfl rfl (by kernel_rfl) rfl (mf0) ?aF ?nw HS26.out ?hs ?_
  rotate_left 2
  case aF => intro s; simp only [putE, EvT.val, Act.put, setIfInBounds_toArray, set_cons_zero, set_cons_succ]; rfl
  case nw => intro s; simp only [thA, bsA, List.nil_append, List.cons_append, List.append_nil, if_true, if_false, Nat.reduceLT, set_cons_zero, set_cons_succ]; rfl
  case hs => exact ⟨ld rfl 14 (fun s => rfl) (fun s w h => by have h0 := h 0 _ rfl; clear h; go_simp; try rfl), cl rfl (fun s => #[.agg #[.slice A0_0 l0_0.length c0_0]]) Try.func16 (fun s w1 h => (laws_toMemory.calls _ _ _ _ _ (Kd.C_below HR0_0.out h.hb) HC0_0.out H3.out).mono (by rintro e w2 ⟨v0_, rfl, ho0, hb⟩; obtain ⟨x, rfl, hx⟩ := fin_S ho0 hb h.hb.size; exact ⟨x, rfl, hx⟩)), ld rfl 15 (fun s => rfl) (fun s w h => by have h0 := h 0 _ rfl; clear h; go_simp; try rfl), cl rfl (fun s => #[.agg #[.slice A1_0 l1_0.length c1_0]]) Try.func65 (fun s w1 h => (laws_toRope.calls _ _ _ _ _ _ (Kd.C_below HR1_0.out h.hb) HC1_0.out H4.out).mono (by rintro e w2 ⟨v0_, rfl, ho0, hb⟩; obtain ⟨x, rfl, hx⟩ := fin_R ho0 hb h.hb.size; exact ⟨x, rfl, hx⟩)), cl rfl (fun s => #[.agg #[.slice (s 1).A r3_0.length (s 1).c], .agg #[.slice (s 3).A r4_0.length (s 3).c]]) Try.func66 (fun s w1 h => (impl_FlattenRope.calls _ _ _ _ _ _ _ _ _ _ (Kd.S_reads' (h.get 0 rfl)).2.2 (Kd.S_reads' (h.get 0 rfl)).2.1 (Kd.R_reads' (h.get 1 rfl)).2.2 (Kd.R_reads' (h.get 1 rfl)).2.1 H6.out).mono (by rintro e w2 ⟨v0_, v1_, rfl, ho0, ho1, hb⟩; obtain ⟨A0, c0, rfl⟩ := Kd.S_slice ho0; obtain ⟨A1, c1, rfl⟩ := Kd.R_slice ho1; obtain ⟨lo, hi, hx⟩ := (Stk.nil w1).push hb (P := fun lo_ hi_ w_ => Kd.S (Kd.slice 5 (Kd.int .u8)) 119 w_ w.heap.size (fun k_ => lo_ ≤ k_ ∧ k_ < hi_) (.slice A0 r5_0.length c0) r5_0 ∧ Kd.R kimplWindow 48 w_ w.heap.size (fun k_ => lo_ ≤ k_ ∧ k_ < hi_) (.slice A1 r5_1.length c1) r5_1) (fun w_ ha => ⟨S_held ho0 h.hb.size ha, R_held ho1 h.hb.size ha⟩); exact ⟨⟨lo, hi, A0, c0, A1, c1, none, 0⟩, rfl, hx⟩)), pu rfl, pu rfl, pu rfl, pu rfl, bv rfl (fun s w => by go_simp; try rfl), bv rfl (fun s w => by go_simp; try rfl), st rfl 9 0 (fun s => [.slice (s 4).A r5_0.length (s 4).c]) rfl (fun s w h hf => by have h0 := h 0 _ rfl; have f0 := hf 0; clear h hf; go_simp; try rfl), st rfl 10 0 (fun s => [.slice (s 4).B r5_1.length (s 4).e]) rfl (fun s w h hf => by have h0 := h 0 _ rfl; have f0 := hf 0; clear h hf; go_simp; try rfl), trivial⟩
  intro s27 w27 h; have HS27 := Aside0.mk h; clear h HS26
  refine tlP (v := .bool r5_2) 19 rfl ?_
  refine tl0 ?_
  refine wp_seq ?_
  refine reg0 (aF := ?_) [evL 0 128 [] (fun s => .agg #[.slice (s27 4).A r5_0.length (s27 4).c]), evL 1 129 [] (fun s => .agg #[.slice (s7 4).A r5_0.length (s7 4).c]), evC 2 (some 130) [] (fun s x => .bool true) (fun s x => []), evP 3 131 [] (fun s => .bool false), evP 4 132 [] (fun s => .bool false), evL 5 133 [] (fun s => .agg #[.slice (s27 4).B r5_1.length (s27 4).e]), evL 6 134 [] (fun s => .agg #[.slice (s7 4).B r5_1.length (s7 4).e]), evC 7 (some 135) [] (fun s x => .bool true) (fun s x => []), evP 8 136 [] (fun s => .bool false), evP 9 137 [] (fun s => .bool false), evP 10 138 [] (fun s => .bool false), evP 11 139 [] (fun s => .bool r5_2), evP 12 140 [] (fun s => .bool r5_2), evP 13 141 [] (fun s => .bool false), evP 14 142 [] (fun s => .bool false)] [] false 15 rfl rfl (by kernel_rfl) rfl (fun _ => rfl) ?aF HS27.out ?hs ?_
  rotate_left 1
  case aF => intro s; simp only [putE, EvT.val, Act.put, setIfInBounds_toArray, set_cons_zero, set_cons_succ]; rfl
  case hs => exact ⟨ld rfl 3 (fun s => rfl) (fun s w h => by have h0 := h 0 _ rfl; clear h; go_simp; try rfl), ld rfl 17 (fun s => rfl) (fun s w h => by have h0 := h 0 _ rfl; clear h; go_simp; try rfl), cl rfl (fun s => #[.agg #[.slice (s27 4).A r5_0.length (s27 4).c], .agg #[.slice (s7 4).A r5_0.length (s7 4).c]]) Try.func19 (fun s w1 h => (laws_eqMemory.calls _ _ _ _ _ _ _ _ _ (Kd.S_reads' (h.get 2 rfl).1).2.2 (Kd.S_reads' (h.get 2 rfl).1).2.1 (Kd.S_reads' (h.get 16 rfl).1).2.2 (Kd.S_reads' (h.get 16 rfl).1).2.1 H7.out).mono (by rintro e w2 ⟨rfl, hb⟩; exact fin0 hb)), pu rfl, pu rfl, ld rfl 4 (fun s => rfl) (fun s w h => by have h0 := h 0 _ rfl; clear h; go_simp; try rfl), ld rfl 18 (fun s => rfl) (fun s w h => by have h0 := h 0 _ rfl; clear h; go_simp; try rfl), cl rfl (fun s => #[.agg #[.slice (s27 4).B r5_1.length (s27 4).e], .agg #[.slice (s7 4).B r5_1.length (s7 4).e]]) Try.func67 (fun s w1 h => (laws_eqRope.calls _ _ _ _ _ _ _ _ _ (Kd.R_reads' (h.get 2 rfl).2).2.2 (Kd.R_reads' (h.get 2 rfl).2).2.1 (Kd.R_reads' (h.get 16 rfl).2).2.2 (Kd.R_reads' (h.get 16 rfl).2).2.1 H8.out).mono (by rintro e w2 ⟨rfl, hb⟩; exact fin0 hb)), pu rfl, pu rfl, pu rfl, pu rfl, pu rfl, pn Try.underlying4 rfl, pu rfl, trivial⟩
  intro s28 w28 h; have HS28 := Aside0.mk h; clear h HS27
  refine tl0 ?_
  refine wp_cond_false rfl ?_
  refine wp_skip ?_
  refine thN ?_
  refine reg0 (aF := ?_) [] [0] false 1 rfl rfl (by kernel_rfl) rfl (fun _ => rfl) ?aF HS28.out ?hs ?_
  rotate_left 1
  case aF => intro s; simp only [putE, EvT.val, Act.put, setIfInBounds_toArray, set_cons_zero, set_cons_succ]; rfl
  case hs => exact trivial
  intro s29 w29 h; have HS29 := Aside0.mk h; clear h HS28
  refine tlP (v := .int .i64 1) 16 rfl ?_
  refine tl0 ?_
  refine reg0 (aF := ?_) [evL 0 143 [] (fun s => .agg #[.slice (s10 2).A r5_0.length (s10 2).c]), evP 1 144 [] (fun s => .int .i64 1), evC 2 (some 145) [] (fun s x => .int .i64 r13_0) (fun s x => [])] [3] false 4 rfl rfl (by kernel_rfl) rfl (fun _ => rfl) ?aF HS29.out ?hs ?_
  rotate_left 1
  case aF => intro s; simp only [putE, EvT.val, Act.put, setIfInBounds_toArray, set_cons_zero, set_cons_succ]; rfl
  case hs => exact ⟨ld rfl 8 (fun s => rfl) (fun s w h => by have h0 := h 0 _ rfl; clear h; go_simp; try rfl), pu rfl, cl rfl (fun s => #[.agg #[.slice (s10 2).A r5_0.length (s10 2).c], .int .i64 1]) Try.func69 (fun s w1 h => by rw [show r5_0.length = r13_1.length from (Kd.S_reads' (h.get 7 rfl).1).1]; exact (laws_heldMemory.calls _ _ _ _ _ _ _ ((Kd.S_reads' (h.get 7 rfl).1).1 ▸ (Kd.S_reads' (h.get 7 rfl).1).2.2) ((Kd.S_reads' (h.get 7 rfl).1).1 ▸ (Kd.S_reads' (h.get 7 rfl).1).2.1) H15.out).mono (by rintro e w2 ⟨rfl, hb⟩; exact fin0 hb)), trivial⟩
  intro s30 w30 h; have HS30 := Aside0.mk h; clear h HS29
  refine tlP (v := .int .i64 r13_0) 16 rfl ?_
  refine tl0 ?_
  refine wp_seq ?_
  refine reg0 (aF := ?_) [evP 0 146 [] (fun s => .int .i64 r13_0), evP 1 147 [] (fun s => .bool false)] [] false 2 rfl rfl (by kernel_rfl) rfl (fun _ => rfl) ?aF HS30.out ?hs ?_
  rotate_left 1
  case aF => intro s; simp only [putE, EvT.val, Act.put, setIfInBounds_toArray, set_cons_zero, set_cons_succ]; rfl
  case hs => exact ⟨pu rfl, pb (q := .lss) Nb_r13_0 rfl, trivial⟩
  intro s31 w31 h; have HS31 := Aside0.mk h; clear h HS30
  refine tl0 ?_
  refine wp_cond_false rfl ?_
  refine wp_skip ?_
  refine thN ?_
  refine reg0 (aF := ?_) [evL 0 148 [] (fun s => .agg #[.slice (s10 2).B r5_1.length (s10 2).e]), evP 1 149 [] (fun s => .int .i64 r13_0), evC 2 (some 150) [] (fun s x => .int .i64 r14_0) (fun s x => [])] [3] false 4 rfl rfl (by kernel_rfl) rfl (fun _ => rfl) ?aF HS31.out ?hs ?_
  rotate_left 1
  case aF => intro s; simp only [putE, EvT.val, Act.put, setIfInBounds_toArray, set_cons_zero, set_cons_succ]; rfl
  case hs => exact ⟨ld rfl 9 (fun s => rfl) (fun s w h => by have h0 := h 0 _ rfl; clear h; go_simp; try rfl), pu rfl, cl rfl (fun s => #[.agg #[.slice (s10 2).B r5_1.length (s10 2).e], .int .i64 r13_0]) Try.func70 (fun s w1 h => by rw [show r5_1.length = r14_1.length from (Kd.R_reads' (h.get 7 rfl).2).1]; exact (laws_heldRope.calls _ _ _ _ _ _ _ ((Kd.R_reads' (h.get 7 rfl).2).1 ▸ (Kd.R_reads' (h.get 7 rfl).2).2.2) ((Kd.R_reads' (h.get 7 rfl).2).1 ▸ (Kd.R_reads' (h.get 7 rfl).2).2.1) H16.out).mono (by rintro e w2 ⟨rfl, hb⟩; exact fin0 hb)), trivial⟩
  intro s32 w32 h; have HS32 := Aside0.mk h; clear h HS31
  refine tlP (v := .int .i64 r14_0) 16 rfl ?_
  refine tl0 ?_
  refine wp_seq ?_
  refine reg0 (aF := ?_) [evP 0 151 [] (fun s => .int .i64 r14_0), evP 1 152 [] (fun s => .bool false)] [] false 2 rfl rfl (by kernel_rfl) rfl (fun _ => rfl) ?aF HS32.out ?hs ?_
  rotate_left 1
  case aF => intro s; simp only [putE, EvT.val, Act.put, setIfInBounds_toArray, set_cons_zero, set_cons_succ]; rfl
  case hs => exact ⟨pu rfl, pb (q := .lss) Nb_r14_0 rfl, trivial⟩
  intro s33 w33 h; have HS33 := Aside0.mk h; clear h HS32
  refine tl0 ?_
  refine wp_cond_false rfl ?_
  refine wp_skip ?_
  refine thN ?_
  refine wp_seq ?_
  refine reg0 (aF := ?_) [evP 0 153 [] (fun s => .int .i64 r14_0), evP 1 154 [] (fun s => .int .i64 r14_0), evP 2 155 [] (fun s => .bool false)] [] false 3 rfl rfl (by kernel_rfl) rfl (fun _ => rfl) ?aF HS33.out ?hs ?_
  rotate_left 1
  case aF => intro s; simp only [putE, EvT.val, Act.put, setIfInBounds_toArray, set_cons_zero, set_cons_succ]; rfl
  case hs => exact ⟨pu rfl, pu rfl, pb (q := .neq) (bne_self_eq_false _) rfl, trivial⟩
  intro s34 w34 h; have HS34 := Aside0.mk h; clear h HS33
  refine tl0 ?_
  refine wp_cond_false rfl ?_
  refine wp_skip ?_
  refine thN ?_
  refine reg0 (aF := ?_) [] [0] false 1 rfl rfl (by kernel_rfl) rfl (fun _ => rfl) ?aF HS34.out ?hs ?_
  rotate_left 1
  case aF => intro s; simp only [putE, EvT.val, Act.put, setIfInBounds_toArray, set_cons_zero, set_cons_succ]; rfl
  case hs => exact trivial
  intro s35 w35 h; have HS35 := Aside0.mk h; clear h HS34
  refine tlP (v := .bool true) 4 rfl ?_
  refine tl0 ?_
  refine wp_ret ?_
  go_ret
  exact ⟨by first | rfl | simp, HS35.out.hb⟩
end Go.Proofs.Ytoomjghabiojkaa.P


/- The law FnExactFlattenRope. -/
namespace Go.Proofs.Ytoomjghabiojkaa.P
open Go.RowKit Go.Proofs.YtoomjghabiojkaaW.PrintWords Go.Proofs.YtoomjghabiojkaaW.Mine
set_option linter.unusedVariables false
theorem FnExactFlattenRope_walk (w : World) (cs0 : Array Value) (a0 : (List (List Int))) (hK0 : (Kd.slice 119 (Kd.slice 5 (Kd.int .u8))).K w a0 cs0.toList) (ok0 : (∀ y1 ∈ a0, (∀ y2 ∈ y1, (Lit.int .u8 y2).wf = true))) (cs1 : Array Value) (a1 : (List SlawsWindow)) (hK1 : (Kd.slice 47 klawsWindow).K w a1 cs1.toList) (ok1 : (∀ y1 ∈ a1, ((Lit.int .i64 y1.f0).wf = true ∧ (Lit.int .i64 y1.f1).wf = true ∧ (Lit.int .i64 y1.f2).wf = true ∧ (Lit.int .i64 y1.f3).wf = true))) :
    Calls Try.prog 13 #[.agg cs0, .agg cs1] w fun e w' => e = .returned (.bool true) ∧ Below w.heap.size w w' := by
  obtain ⟨A0, c0, hcs0, hc0, hr0⟩ := hK0
  obtain rfl := agg_of hcs0
  obtain ⟨A1, c1, hcs1, hc1, hr1⟩ := hK1
  obtain rfl := agg_of hcs1
  have hwf : ∀ x ∈ a1.map winOf, wfW x := by intro x hx; obtain ⟨y, hy, rfl⟩ := List.mem_map.1 hx; have h := ok1 y hy; exact ⟨wf_i64 h.1, wf_i64 h.2.1, wf_i64 h.2.2.1, wf_i64 h.2.2.2⟩
  obtain ⟨r, hz, hh⟩ := szMemory_f a0 1048576 (by omega) (by omega) hr0.2.1 (C_inner_len hr0)
  rcases hh with ⟨hm, h5⟩ | rfl
  · have hz2 := szRope_f a1 r h5.1 (by omega) hr1.2.1
    by_cases hc2 : (a1.length : Int) ≤ r
    · rw [if_pos hc2] at hz2
      have hl1 : (a1.map winOf).length ≤ 1048576 := by rw [List.length_map]; omega
      have ho := flatB_ok a0 (a1.map winOf) hm
      have hs0 := hm.2.2
      have hs1 := ho.1.2.2
      have hs2 := ho.2
      exact FnExactFlattenRope_run A0 c0 a0 A1 c1 a1 _ _ _ _ _ _ _ _ _ _ _ _ _ _ _ w hr0 hc0 hr1 hc1 hz.rounds hz2 (toMemory_f a0 hm) (toRope_f a1 (by omega)).rounds (specFlat_f a0 (a1.map winOf) hm hl1 hwf).rounds (implFlat_f a0 (a1.map winOf)) (eqM _ ho.1).rounds (eqRope_f (flatB a0 (a1.map winOf)).2.1 (by omega)).rounds (eqM _ hm).rounds (eqRope_f (a1.map winOf) (by omega)).rounds (markM _ hm) (markRope_f (a1.map winOf) (1 + (sizeBB a0 : Int)) (by omega) (by omega)) (markM _ ho.1) (markRope_f (flatB a0 (a1.map winOf)).2.1 (1 + (sizeBB (flatB a0 (a1.map winOf)).1 : Int)) (by omega) (by omega)) (heldMemory_f (flatB a0 (a1.map winOf)).1 ho.1).rounds (heldRope_f (flatB a0 (a1.map winOf)).2.1.length (1 + (sizeBB (flatB a0 (a1.map winOf)).1 : Int)) (by omega) (by omega)).rounds (by omega) (by omega) (by omega) (by omega) (by omega)
    · rw [if_neg hc2] at hz2
      exact FnExactFlattenRope_run1 A0 c0 a0 A1 c1 a1 _ _ w hr0 hc0 hr1 hc1 hz.rounds hz2 (by omega) (by omega)
  · exact FnExactFlattenRope_run0 A0 c0 a0 A1 c1 a1 _ w hr0 hc0 hr1 hc1 hz.rounds (by omega)
end Go.Proofs.Ytoomjghabiojkaa.P


namespace Go.Proofs.Ytoomjghabiojkaa.fnExactFlattenRope
open Go.ChangeShapes Go.WideShapes Go.ChangeAt Go.RowKit Go.Proofs.YtoomjghabiojkaaW.PrintWords Go.Proofs.YtoomjghabiojkaaW.Mine Go.Proofs.Ytoomjghabiojkaa.P
open Go.ChangeMaps (open_string shut_string)
set_option linter.unusedVariables false
theorem own : ownKnob Try.prog.godebug = none := by kernel_rfl
theorem laidOut : laidOutB Try.prog = true := by kernel_rfl
set_option maxRecDepth 100000 in
theorem lifted (os : Os) (started : os.Started) (H : Type) (enc : TypeId × Value → H) :
    ReturnsInHanded {} Try.checked os 13 .any (Rows.fnExactFlattenRopeSpec.pre6 enc Try.prog Try.f13 Rows.fnExactFlattenRopeRow.domain false) (Rows.fnExactFlattenRopeSpec.post enc Try.prog Try.f13 false true false false) := by
  refine returnsInHanded_of_change_sized (C := Try.checked) own started (by kernel_rfl) Try.func13
    (ChangeSpec.witness6 (enc := enc) (C := Try.checked) false ⟨#[], #[.agg #[.slice none 0 0], .agg #[.slice none 0 0]], []⟩ 8 (by kernel_rfl) (by kernel_rfl) (by kernel_rfl) (by kernel_rfl)) ?_
  intro W base args ds gs before hval0 hW hcnd hsz0 _
  have hval : ∀ (j : Nat) t v, Try.f13.params[j]? = some t → args[j]? = some v → Value.okWide Try.prog W .any base t v := hval0
  have hW' := hW
  obtain ⟨p, q, hA0, hV, rfl, hfz, hnd⟩ := hW
  have hA : DataW.TrodAll enc Try.prog W 0 (fun _ => true) true Try.f13.params.toList args.toList ds p := hA0
  rw [Try.params13] at hA hval
  obtain ⟨v0, vs0, d0, ds0, p0, q0, hargs, rfl, rfl, h0, r0⟩ := trodAll_cons hA
  obtain ⟨v1, vs1, d1, ds1, p1, q1, rfl, rfl, rfl, h1, r1⟩ := trodAll_cons r0
  obtain ⟨rfl, rfl, rfl⟩ := trodAll_nil r1
  obtain rfl : args = #[v0, v1] := by cases args; simp_all
  obtain ⟨rfl, rfl⟩ := trodVars_none hV
  have k0 := h0
  have lt0 : ∀ x ∈ p0, x.block < W.heap.size := by obtain ⟨m, hm⟩ := k0; exact DataW.trod_lt m _ _ _ hm
  obtain ⟨cs0, rfl, _⟩ := okWide_struct Try.underlying24 (hval 0 24 v0 rfl rfl)
  obtain ⟨a0, hK0, ok0⟩ : ∃ a : (List (List Int)), (Kd.slice 119 (Kd.slice 5 (Kd.int .u8))).K W a cs0.toList ∧ (∀ y1 ∈ a, (∀ y2 ∈ y1, (Lit.int .u8 y2).wf = true)) := by obtain ⟨fuel, hf⟩ := h0; exact (ReadsK.struct Try.underlying24 (by kernel_rfl) (ReadsF.last rfl (ReadsK.slice Try.underlying22 (by kernel_rfl) (ReadsK.slice Try.underlying119 (by kernel_rfl) (ReadsK.int Try.underlying5))) (by kernel_rfl))) hf
  have k1 := h1
  have lt1 : ∀ x ∈ p1, x.block < W.heap.size := by obtain ⟨m, hm⟩ := k1; exact DataW.trod_lt m _ _ _ hm
  obtain ⟨cs1, rfl, _⟩ := okWide_struct Try.underlying99 (hval 1 99 v1 rfl rfl)
  obtain ⟨a1, hK1, ok1⟩ : ∃ a : (List SlawsWindow), (Kd.slice 47 klawsWindow).K W a cs1.toList ∧ (∀ y1 ∈ a, ((Lit.int .i64 y1.f0).wf = true ∧ (Lit.int .i64 y1.f1).wf = true ∧ (Lit.int .i64 y1.f2).wf = true ∧ (Lit.int .i64 y1.f3).wf = true)) := by obtain ⟨fuel, hf⟩ := h1; exact (ReadsK.struct Try.underlying99 (by kernel_rfl) (ReadsF.last rfl (ReadsK.slice Try.underlying38 (by kernel_rfl) (ReadsK.iso (ReadsK.struct Try.underlying47 (by kernel_rfl) (ReadsF.cons rfl (ReadsK.int Try.underlying3) (by kernel_rfl) (ReadsF.cons rfl (ReadsK.int Try.underlying3) (by kernel_rfl) (ReadsF.cons rfl (ReadsK.int Try.underlying3) (by kernel_rfl) (ReadsF.last rfl (ReadsK.int Try.underlying3) (by kernel_rfl)))))) (fun x : SlawsWindow => (x.f0, x.f1, x.f2, x.f3)) (fun a => (⟨a.1, a.2.1, a.2.2.1, a.2.2.2⟩ : SlawsWindow)) (fun _ => rfl))) (by kernel_rfl))) hf
  clear hA0 hval0 hsz0
  refine (FnExactFlattenRope_walk W cs0 a0 hK0 ok0 cs1 a1 hK1 ok1).mono fun e W' ⟨he, bel⟩ => ?_
  subst he
  exact ⟨_, rfl, _, _, _, [], _, [], hW', trodAll_mk1 (shut_bool Try.underlying4 _), (trodAll_cons_mk (Below.trod laidOut (by kernel_rfl) (of_decide_eq_true (by kernel_rfl)) k0 bel lt0) (trodAll_cons_mk (Below.trod laidOut (by kernel_rfl) (of_decide_eq_true (by kernel_rfl)) k1 bel lt1) trodAll_mk0)), rfl, bel.frame _, fun h => by cases h⟩
theorem over : Rows.fnExactFlattenRopeRow.holds Try.pinned (OpenSpec.ofChange Rows.fnExactFlattenRopeSpec) :=
  OpenClaim.holds_of_wide 13 Try.f13 rfl rfl rfl rfl rfl rfl rfl ⟨rfl, rfl, rfl, rfl, rfl⟩ rfl rfl rfl rfl rfl (by kernel_rfl) Try.func13 (by kernel_rfl)
    (of_decide_eq_true (by kernel_rfl)) (by unfold Func.isWrapper; first | (rw [if_pos (by decide +kernel)]; kernel_rfl) | (rw [if_neg (by decide +kernel)]; exact ⟨rfl, rfl⟩))
    (fun os started H enc _ => lifted os started H enc)
theorem proved : Rows.FnExactFlattenRopeSaid := over
end Go.Proofs.Ytoomjghabiojkaa.fnExactFlattenRope
namespace Go.Proofs.Ytoomjghabiojkaa
theorem fnExactFlattenRope_holds : Rows.FnExactFlattenRopeSaid := fnExactFlattenRope.proved
#print axioms fnExactFlattenRope_holds
end Go.Proofs.Ytoomjghabiojkaa


