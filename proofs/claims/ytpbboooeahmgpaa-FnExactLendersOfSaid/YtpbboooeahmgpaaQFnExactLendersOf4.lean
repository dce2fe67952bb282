/- For all arguments, impl.LendersOf answers what spec.LendersOf answers, leaves its arguments alone, and shares nothing of what it returns.
   The row of the law FnExactLendersOf, out of its walk. Conditions: none. -/
import Derived.Test.YtpbboooeahmgpaaQFnExactLendersOf3
import Derived.Test.YtpbboooeahmgpaaRows
import Derived.WalkKit
import Derived.ProofKit
import Derived.OpenShut
import Derived.ShutString
import Derived.ChangeOld
import Derived.Below
import Derived.SizedLaws
import Derived.Test.YtpbboooeahmgpaaWApart
import Derived.Test.YtpbboooeahmgpaaWArr
import Derived.Test.YtpbboooeahmgpaaWFoot
import Derived.Test.YtpbboooeahmgpaaWGuard
import Derived.Test.YtpbboooeahmgpaaWKept
import Derived.Test.YtpbboooeahmgpaaWLast
import Derived.Test.YtpbboooeahmgpaaWMore
import Derived.Test.YtpbboooeahmgpaaWN
import Derived.Test.YtpbboooeahmgpaaWRepsOne
import Derived.Test.YtpbboooeahmgpaaWShare
import Derived.Test.YtpbboooeahmgpaaWTab
import Derived.Test.YtpbboooeahmgpaaWWords
/- LendersOf: what both sides come to. -/
namespace Go.Proofs.Ytpbboooeahmgpaa.P
open Go.RowKit Go.Proofs.YtpbboooeahmgpaaW.PrintWords Go.Proofs.YtpbboooeahmgpaaW.Mine
set_option linter.unusedVariables false
def inW (x : SimplLoan) (pl : Int) : Bool := decide (x.f0.f1 ≤ pl ∧ pl ≤ wrap64 (wrap64 (x.f0.f1 + x.f0.f2) - 1))
def lendS (t arr pl : Int) (p : Int × Int) (x : SimplLoan) : Int × Int := if (heldL t x && (decide (x.f0.f0 = arr) && inW x pl)) = true then (wrap64 (p.1 + 1), if x.f1 = true then -1 else p.2) else p
def lendC (t : Int) (l : List SimplLoan) (arr pl : Int) : Int := wrap64 ((l.foldl (lendS t arr pl) (0, 1)).1 * (l.foldl (lendS t arr pl) (0, 1)).2)
def lendR (t : Int) (l : List SimplLoan) (arr : Int) : Nat → Nat → List Int
  | _, 0 => []
  | pl, d + 1 => lendC t l arr (pl : Int) :: lendR t l arr (pl + 1) d
def lendT (t : Int) (l : List SimplLoan) : Nat → List (List Int) → List (List Int)
  | _, [] => []
  | i, x :: xs => lendR t l (i : Int) 0 x.length :: lendT t l (i + 1) xs
theorem lendR_length (t : Int) (l : List SimplLoan) (arr : Int) : ∀ (d pl : Nat), (lendR t l arr pl d).length = d
  | 0, _ => rfl
  | d + 1, pl => by simp [lendR, lendR_length t l arr d]
theorem lendT_length (t : Int) (l : List SimplLoan) (m : List (List Int)) : ∀ i, (lendT t l i m).length = m.length := by
  induction m with
  | nil => intro i; rfl
  | cons x m ih => intro i; simp [lendT, ih]
theorem lendT_size (t : Int) (l : List SimplLoan) (m : List (List Int)) : ∀ i, sizeBB (lendT t l i m) = sizeBB m := by
  induction m with
  | nil => intro i; rfl
  | cons x m ih => intro i; simp [lendT, sizeBB, ih, lendR_length]
theorem lendT_rows (t : Int) (l : List SimplLoan) (m : List (List Int)) (b : Nat) (h : ∀ x ∈ m, x.length ≤ b) : ∀ i, ∀ x ∈ lendT t l i m, x.length ≤ b := by
  induction m with
  | nil => intro i x hx; simp [lendT] at hx
  | cons y m ih =>
    intro i x hx
    rcases List.mem_cons.1 hx with rfl | hx
    · rw [lendR_length]; exact h y (by simp)
    · exact ih (fun z hz => h z (by simp [hz])) (i + 1) x hx
section
variable {l : List SimplLoan} {t : Int} {R : List (List Int) × Bool} {acc m : List (List Int)} {row : List Int} {arr pl : Int}
theorem implL2 (x30 x37 : Int) (hr : row.length < 17592186044416) (suf : List SimplLoan) : ∀ (pre : List SimplLoan) (c s : Int), l = pre ++ suf → l.length ≤ 1000 →
    Ev (fun k => impl_LendersOf.l1 k l t acc arr (row ++ [wrap64 ((suf.foldl (lendS t arr pl) (c, s)).1 * (suf.foldl (lendS t arr pl) (c, s)).2)]) m (m.length : Int) x30 x37 (wrap64 (pl + 1))) R →
    Ev (fun k => impl_LendersOf.l2 k l t acc arr row pl c s m (m.length : Int) x30 x37 pl l (l.length : Int) (pre.length : Int)) R := by
  induction suf with
  | nil =>
    intro pre c s hl h8 hK
    refine Ev.step (fun k => ?_) hK
    simp only [impl_LendersOf.l2]
    rw [if_neg (by subst hl; simp), if_pos hr]
    rfl
  | cons x suf ih =>
    intro pre c s hl h8 hK
    have hlen : l.length = pre.length + (suf.length + 1) := by rw [hl]; simp
    have hrd : rd_TimplLoan l (pre.length : Int) = x := by rw [hl]; exact rdL_mid _ _ _
    have hsee : impl_Window_sees.f x.f0.f0 x.f0.f1 x.f0.f2 x.f0.f3 arr pl = some (decide (x.f0.f0 = arr) && inW x pl) := by
      unfold impl_Window_sees.f
      by_cases h : x.f0.f0 = arr
      · rw [if_pos h, within_f, Option.bind_some, decide_eq_true h]; rfl
      · rw [if_neg h, decide_eq_false h]; rfl
    have hn : wrap64 ((pre.length : Int) + 1) = ((pre ++ [x]).length : Int) := by rw [wrap_len (by omega)]; simp
    have hl2 : l = (pre ++ [x]) ++ suf := by rw [hl]; simp
    have ih2 := fun c s => ih (pre ++ [x]) c s hl2 h8
    have j : ∀ (q : Bool), Ev (fun k => impl_LendersOf.l2 k l t acc arr row pl (lendS t arr pl (c, s) x).1 (lendS t arr pl (c, s) x).2 m (m.length : Int) x30 x37 pl l (l.length : Int) ((pre ++ [x]).length : Int)) R → (heldL t x && (decide (x.f0.f0 = arr) && inW x pl)) = !q →
        Ev (fun k => impl_LendersOf.j4 k l t acc arr row pl c s m (m.length : Int) x30 x37 pl l (l.length : Int) (pre.length : Int) q x.f0.f0 x.f0.f1 x.f0.f2 x.f0.f3 x.f1 x.f2 x.f3) R := by
      intro q hE hq
      refine Ev.step (fun k => ?_) hE
      simp only [impl_LendersOf.j4, lendS, hq, hn]
      cases q
      · simp only [Bool.false_eq_true, if_false, Bool.not_false, if_true]
        cases x.f1 <;> rfl
      · rfl
    have hE := ih2 (lendS t arr pl (c, s) x).1 (lendS t arr pl (c, s) x).2 hK
    have step : ∀ k, impl_LendersOf.l2 (k + 1) l t acc arr row pl c s m (m.length : Int) x30 x37 pl l (l.length : Int) (pre.length : Int) = if heldL t x = true then impl_LendersOf.j4 k l t acc arr row pl c s m (m.length : Int) x30 x37 pl l (l.length : Int) (pre.length : Int) (!(decide (x.f0.f0 = arr) && inW x pl)) x.f0.f0 x.f0.f1 x.f0.f2 x.f0.f3 x.f1 x.f2 x.f3 else impl_LendersOf.j4 k l t acc arr row pl c s m (m.length : Int) x30 x37 pl l (l.length : Int) (pre.length : Int) true x.f0.f0 x.f0.f1 x.f0.f2 x.f0.f3 x.f1 x.f2 x.f3 := by
      intro k
      simp only [impl_LendersOf.l2]
      rw [if_pos (by omega), if_pos (by omega), if_pos (by omega), hrd, loanHeld_f, Option.bind_some, hsee, Option.bind_some]
    by_cases hh : heldL t x = true
    · refine Ev.step (fun k => (step k).trans (if_pos hh)) (j _ hE ?_)
      rw [hh, Bool.true_and, Bool.not_not]
    · refine Ev.step (fun k => (step k).trans (if_neg hh)) (j _ hE ?_)
      rw [Bool.eq_false_iff.2 hh, Bool.false_and]
      rfl
theorem implL1 (h8 : l.length ≤ 1000) (x30 : Int) (n : Nat) (hn : n ≤ 1000) : ∀ (d pl : Nat) (row : List Int), pl + d = n → row.length = pl → acc.length < 5864062014805 →
    Ev (fun k => impl_LendersOf.l0 k l t (acc ++ [row ++ lendR t l arr pl d]) m (m.length : Int) (wrap64 (x30 + 1))) R →
    Ev (fun k => impl_LendersOf.l1 k l t acc arr row m (m.length : Int) x30 (n : Int) (pl : Int)) R := by
  intro d
  induction d with
  | zero =>
    intro pl row hp hr ha hK
    refine Ev.step (fun k => ?_) hK
    simp only [impl_LendersOf.l1, lendR, List.append_nil]
    rw [if_neg (by omega), if_pos ha]
  | succ d ih =>
    intro pl row hp hr ha hK
    refine Ev.step (f := fun k => impl_LendersOf.l2 k l t acc arr row (pl : Int) 0 1 m (m.length : Int) x30 (n : Int) (pl : Int) l (l.length : Int) 0) (fun k => ?_) ?_
    · simp only [impl_LendersOf.l1]
      rw [if_pos (by omega)]
    · refine implL2 (l := l) x30 (n : Int) (by omega) l [] 0 1 rfl h8 ?_
      have := ih (pl + 1) (row ++ [lendC t l arr (pl : Int)]) (by omega) (by simp [hr]) ha (by
        rw [List.append_assoc, List.singleton_append]
        exact hK)
      rw [show wrap64 ((pl : Int) + 1) = ((pl + 1 : Nat) : Int) from wrap_len (by omega)]
      exact this
theorem implL0 (h8 : l.length ≤ 1000) (hm : m.length ≤ 1000) (hrows : ∀ x ∈ m, x.length ≤ 1000) (suf : List (List Int)) : ∀ (pre acc : List (List Int)), m = pre ++ suf → acc.length + suf.length ≤ 1000 →
    Ev (fun k => impl_LendersOf.l0 k l t acc m (m.length : Int) (pre.length : Int)) (acc ++ lendT t l pre.length suf, true) := by
  induction suf with
  | nil =>
    intro pre acc he ha
    refine Ev.step (fun k => ?_) (Ev.now _)
    simp only [impl_LendersOf.l0, lendT, List.append_nil]
    rw [if_neg (by subst he; simp)]
  | cons x suf ih =>
    intro pre acc he ha
    simp only [List.length_cons] at ha
    have hlen : m.length = pre.length + (suf.length + 1) := by rw [he]; simp
    have hrd : rd_Lsu8 m (pre.length : Int) = x := by rw [he]; exact rdB_mid _ _ _
    have hx := hrows x (by rw [he]; simp)
    refine Ev.step (f := fun k => impl_LendersOf.l1 k l t acc (pre.length : Int) [] m (m.length : Int) (pre.length : Int) (x.length : Int) 0) (fun k => ?_) ?_
    · simp only [impl_LendersOf.l0]
      rw [if_pos (by omega), if_pos (by omega), if_pos (by omega), hrd]
    · refine implL1 h8 (pre.length : Int) x.length hx x.length 0 [] (by omega) rfl (by omega) ?_
      have := ih (pre ++ [x]) (acc ++ [lendR t l (pre.length : Int) 0 x.length]) (by rw [he]; simp) (by simp; omega)
      rw [show wrap64 ((pre.length : Int) + 1) = ((pre ++ [x]).length : Int) by rw [wrap_len (by omega)]; simp]
      rw [show acc ++ lendT t l pre.length (x :: suf) = acc ++ [lendR t l (pre.length : Int) 0 x.length] ++ lendT t l (pre ++ [x]).length suf by simp [lendT]]
      simpa using this
theorem specL2 (hr : row.length < 17592186044416) (suf : List SimplLoan) : ∀ (pre : List SimplLoan) (c s : Int), l = pre ++ suf → l.length ≤ 1000 →
    Ev (fun k => spec_LendersOf.l1 k l t acc arr (row ++ [wrap64 ((suf.foldl (lendS t arr pl) (c, s)).1 * (suf.foldl (lendS t arr pl) (c, s)).2)]) (wrap64 (pl + 1)) m) R →
    Ev (fun k => spec_LendersOf.l2 k l t acc arr row pl c s (pre.length : Int) m) R := by
  induction suf with
  | nil =>
    intro pre c s hl h8 hK
    refine Ev.step (fun k => ?_) hK
    simp only [spec_LendersOf.l2]
    rw [if_neg (by subst hl; simp), if_pos hr, Int.mul_comm s c]
    rfl
  | cons x suf ih =>
    intro pre c s hl h8 hK
    have hlen : l.length = pre.length + (suf.length + 1) := by rw [hl]; simp
    have hrd : rd_TimplLoan l (pre.length : Int) = x := by rw [hl]; exact rdL_mid _ _ _
    have hsee : spec_l10Sees.f x.f0.f0 x.f0.f1 x.f0.f2 x.f0.f3 pl = some (inW x pl) := by
      unfold spec_l10Sees.f
      rw [l1In_f, Option.bind_some]
      rfl
    have hn : wrap64 ((pre.length : Int) + 1) = ((pre ++ [x]).length : Int) := by rw [wrap_len (by omega)]; simp
    have hl2 : l = (pre ++ [x]) ++ suf := by rw [hl]; simp
    have hE := ih (pre ++ [x]) (lendS t arr pl (c, s) x).1 (lendS t arr pl (c, s) x).2 hl2 h8 hK
    have j : ∀ (q : Bool), (heldL t x && (decide (x.f0.f0 = arr) && inW x pl)) = q → Ev (fun k => spec_LendersOf.j4 k l t acc arr row pl c s (pre.length : Int) q m) R := by
      intro q hq
      refine Ev.step (fun k => ?_) hE
      simp only [spec_LendersOf.j4, lendS, hq, hn, hrd]
      cases q
      · rfl
      · simp only [if_true]
        rw [if_pos (by omega), if_pos (by omega)]
        cases x.f1 <;> rfl
    by_cases h : x.f0.f0 = arr
    · cases hi : inW x pl
      · refine Ev.step (fun k => ?_) (j false (by rw [decide_eq_true h, hi]; simp))
        simp only [spec_LendersOf.l2]
        rw [if_pos (by omega), if_pos (by omega), hrd, if_pos h, hsee, Option.bind_some, hi, if_neg (by simp)]
      · refine Ev.step (fun k => ?_) (j (heldL t x) (by rw [decide_eq_true h, hi]; simp))
        simp only [spec_LendersOf.l2]
        rw [if_pos (by omega), if_pos (by omega), hrd, if_pos h, hsee, Option.bind_some, hi, if_pos rfl, l10Held_f, Option.bind_some]
    · refine Ev.step (fun k => ?_) (j false (by rw [decide_eq_false h]; simp))
      simp only [spec_LendersOf.l2]
      rw [if_pos (by omega), if_pos (by omega), hrd, if_neg h]
theorem specL1 (h8 : l.length ≤ 1000) (i : Nat) (x : List Int) (hi : m[i]? = some x) (hn : x.length ≤ 1000) : ∀ (d pl : Nat) (row : List Int), pl + d = x.length → row.length = pl → acc.length < 5864062014805 →
    Ev (fun k => spec_LendersOf.l0 k l t (acc ++ [row ++ lendR t l (i : Int) pl d]) (wrap64 ((i : Int) + 1)) m) R →
    Ev (fun k => spec_LendersOf.l1 k l t acc (i : Int) row (pl : Int) m) R := by
  obtain ⟨hil, hix⟩ := List.getElem?_eq_some_iff.1 hi
  have hrd : rd_Lsu8 m (i : Int) = x := by simp [rd_Lsu8, hi]
  intro d
  induction d with
  | zero =>
    intro pl row hp hr ha hK
    refine Ev.step (fun k => ?_) hK
    simp only [spec_LendersOf.l1, lendR, List.append_nil]
    rw [if_pos (by omega), if_pos (by omega), hrd, if_neg (by omega), if_pos ha]
  | succ d ih =>
    intro pl row hp hr ha hK
    refine Ev.step (f := fun k => spec_LendersOf.l2 k l t acc (i : Int) row (pl : Int) 0 1 0 m) (fun k => ?_) ?_
    · simp only [spec_LendersOf.l1]
      rw [if_pos (by omega), if_pos (by omega), hrd, if_pos (by omega)]
    · refine specL2 (l := l) (by omega) l [] 0 1 rfl h8 ?_
      have := ih (pl + 1) (row ++ [lendC t l (i : Int) (pl : Int)]) (by omega) (by simp [hr]) ha (by
        rw [List.append_assoc, List.singleton_append]
        exact hK)
      rw [show wrap64 ((pl : Int) + 1) = ((pl + 1 : Nat) : Int) from wrap_len (by omega)]
      exact this
theorem specL0 (h8 : l.length ≤ 1000) (hm : m.length ≤ 1000) (hrows : ∀ x ∈ m, x.length ≤ 1000) (suf : List (List Int)) : ∀ (pre acc : List (List Int)), m = pre ++ suf → acc.length + suf.length ≤ 1000 →
    Ev (fun k => spec_LendersOf.l0 k l t acc (pre.length : Int) m) (acc ++ lendT t l pre.length suf, true) := by
  induction suf with
  | nil =>
    intro pre acc he ha
    refine Ev.step (fun k => ?_) (Ev.now _)
    simp only [spec_LendersOf.l0, lendT, List.append_nil]
    rw [if_neg (by subst he; simp)]
  | cons x suf ih =>
    intro pre acc he ha
    simp only [List.length_cons] at ha
    have hlen : m.length = pre.length + (suf.length + 1) := by rw [he]; simp
    have hx := hrows x (by rw [he]; simp)
    refine Ev.step (f := fun k => spec_LendersOf.l1 k l t acc (pre.length : Int) [] 0 m) (fun k => ?_) ?_
    · simp only [spec_LendersOf.l0]
      rw [if_pos (by omega)]
    · refine specL1 h8 pre.length x (by rw [he]; simp) hx x.length 0 [] (by omega) rfl (by omega) ?_
      have := ih (pre ++ [x]) (acc ++ [lendR t l (pre.length : Int) 0 x.length]) (by rw [he]; simp) (by simp; omega)
      rw [show wrap64 ((pre.length : Int) + 1) = ((pre ++ [x]).length : Int) by rw [wrap_len (by omega)]; simp]
      rw [show acc ++ lendT t l pre.length (x :: suf) = acc ++ [lendR t l (pre.length : Int) 0 x.length] ++ lendT t l (pre ++ [x]).length suf by simp [lendT]]
      simpa using this
end
def lenders (m : List (List Int)) (l : List SimplLoan) (t : Int) : List (List Int) × Bool := if (loansB m l && decide (0 ≤ t ∧ t ≤ 60)) = true then (lendT t l 0 m, true) else ([], false)
theorem loansB_mem {m : List (List Int)} {l : List SimplLoan} (h : loansB m l = true) : memB m = true := by
  unfold loansB at h
  simp only [Bool.and_eq_true] at h
  exact h.1.1
theorem lenders_ok (m : List (List Int)) (l : List SimplLoan) (t : Int) (hm : okM m) : okM (lenders m l t).1 := by
  unfold lenders
  split
  · exact ⟨by show (lendT t l 0 m).length ≤ _; rw [lendT_length]; exact hm.1, lendT_rows t l m _ hm.2.1 0, by show sizeBB (lendT t l 0 m) ≤ _; rw [lendT_size]; exact hm.2.2⟩
  · exact ⟨by simp, by simp, by simp [sizeBB]⟩
theorem implLenders_f (m : List (List Int)) (l : List SimplLoan) (t : Int) : Ev (fun k => impl_LendersOf.f k m l t) (lenders m l t) := by
  unfold lenders impl_LendersOf.f
  simp only [areLoans_f, isTime_f, Option.bind_some]
  by_cases h : loansB m l = true
  · simp only [h, if_true, Bool.true_and]
    by_cases h2 : 0 ≤ t ∧ t ≤ 60
    · simp only [decide_eq_true h2, if_true]
      have h8 := loansB_len h
      have hmb := loansB_mem h
      have hl := memB_len hmb
      refine Ev.step (fun k => ?_) (by have := implL0 (l := l) (t := t) (m := m) (by omega) (by omega) (fun x hx => by have := (memB_rows hmb x hx).2; omega) m [] [] rfl (by simp; omega); simpa using this)
      simp [impl_LendersOf.j0]
    · simp only [decide_eq_false h2, Bool.false_eq_true, if_false]
      refine Ev.step (fun k => ?_) (Ev.now _)
      simp [impl_LendersOf.j0]
  · simp only [Bool.eq_false_iff.2 h, Bool.false_and, Bool.false_eq_true, if_false]
    refine Ev.step (fun k => ?_) (Ev.now _)
    simp [impl_LendersOf.j0]
theorem specLenders_f (m : List (List Int)) (l : List SimplLoan) (t : Int) (hm : okM m) (hl : l.length ≤ 1048576) (hw : ∀ x ∈ l, wfL x) : Ev (fun k => spec_LendersOf.f k m l t) (lenders m l t) := by
  unfold spec_LendersOf.f
  simp only [Option.bind_some]
  refine Ev.bind (l10Loans_f m l hm (by omega) hw) ?_
  unfold lenders
  simp only [l1In_f, Option.bind_some]
  by_cases h : loansB m l = true
  · simp only [h, if_true, Bool.true_and]
    by_cases h2 : 0 ≤ t ∧ t ≤ 60
    · simp only [decide_eq_true h2, if_true]
      have h8 := loansB_len h
      have hmb := loansB_mem h
      have hl := memB_len hmb
      refine Ev.step (fun k => ?_) (by have := specL0 (l := l) (t := t) (m := m) (by omega) (by omega) (fun x hx => by have := (memB_rows hmb x hx).2; omega) m [] [] rfl (by simp; omega); simpa using this)
      simp [spec_LendersOf.j0]
    · simp only [decide_eq_false h2, Bool.false_eq_true, if_false]
      refine Ev.step (fun k => ?_) (Ev.now _)
      simp [spec_LendersOf.j0]
  · simp only [Bool.eq_false_iff.2 h, Bool.false_and, Bool.false_eq_true, if_false]
    refine Ev.step (fun k => ?_) (Ev.now _)
    simp [spec_LendersOf.j0]
theorem markIIs (l : List (List Int)) (h : okM l) : laws_markIntSS.f l 1 = some ((1 : Int) + (sizeBB l : Int), marksII 1 l) := if_pos ⟨by omega, by have := h.2.2; omega, by have := h.1; omega⟩
end Go.Proofs.Ytpbboooeahmgpaa.P


/- From a row's reading of an argument to what the print's kinds say of it. -/
namespace Go.Proofs.YtpbboooeahmgpaaW.Mine
open Go.RowKit Go.Proofs.YtpbboooeahmgpaaW.PrintWords
set_option linter.unusedVariables false
/-- Whatever reads as data of type T is of the kind d, and ok. -/
def ReadsK {α : Type} (P : Program) (T : TypeId) (d : Kd α) (ok : α → Prop) : Prop :=
  ∀ {H : Type} {enc : TypeId × Value → H} {w : World} {base : Nat} {spare : Nat → Bool} {held : Bool} {fuel : Nat} {cs : List Value} {x : DataW H × List MemPlace}, DataW.trod enc P w base spare held fuel T cs = some x → ∃ a : α, d.K w a cs ∧ ok a
theorem ReadsK.int {P : Program} {T : TypeId} {k : IntKind} (hT : P.underlying T = some (.int k)) : ReadsK P T (Kd.int k) (fun n => (Lit.int k n).wf = true) := by
  intro H enc w base spare held fuel cs x h
  obtain ⟨n, rfl, _, hw⟩ := DataW.trod_int hT h
  exact ⟨n, rfl, hw⟩
theorem ReadsK.bool {P : Program} {T : TypeId} (hT : P.underlying T = some .bool) : ReadsK P T Kd.bool (fun _ => True) := by
  intro H enc w base spare held fuel cs x h
  obtain ⟨b, rfl, _⟩ := DataW.trod_bool hT h
  exact ⟨b, rfl, trivial⟩
theorem exists_list {α : Type} {n : Nat} {p : Nat → α → Prop} (h : ∀ i, i < n → ∃ a, p i a) : ∃ l : List α, l.length = n ∧ ∀ i a, l[i]? = some a → p i a := by
  induction n with
  | zero => exact ⟨[], rfl, fun i a hi => by simp at hi⟩
  | succ n ih =>
    obtain ⟨l, hl, hp⟩ := ih (fun i hi => h i (by omega))
    obtain ⟨a, ha⟩ := h n (by omega)
    refine ⟨l ++ [a], by simp [hl], fun i b hb => ?_⟩
    rcases Nat.lt_or_ge i n with hi | hi
    · rw [List.getElem?_append_left (by omega)] at hb
      exact hp i b hb
    · have hi2 : i = n := by
        have := (List.getElem?_eq_some_iff.1 hb).1
        simp [hl] at this
        omega
      subst hi2
      rw [← hl, List.getElem?_append_right (Nat.le_refl _)] at hb
      simp at hb
      rw [← hb]
      exact ha
theorem ReadsK.slice {α : Type} {P : Program} {T e : TypeId} {d : Kd α} {ok : α → Prop} (hT : P.underlying T = some (.slice e)) (hc : P.cellsOf e = d.sz) (h1 : ReadsK P e d ok) : ReadsK P T (Kd.slice e d) (fun xs => ∀ x ∈ xs, ok x) := by
  intro H enc w base spare held fuel cs x h
  rcases Deep.open_slice hT h with ⟨rfl, _⟩ | ⟨a, len, cap, m, n, D, Pl, rfl, hb, hl, hm, hmm, _, hx⟩
  · exact ⟨[], ⟨none, 0, rfl, Nat.le_refl _, rfl, by simp, fun h => absurd h (by simp)⟩, fun x hx => by simp at hx⟩
  · have hlm : len ≤ m := by rw [hmm]; split <;> omega
    obtain ⟨l, hll, hp⟩ := exists_list (n := len) (p := fun i y => ∃ cs', w.cells? base (a.add (i * P.cellsOf e)) (P.cellsOf e) = some cs' ∧ d.K w y cs' ∧ ok y) (fun i hi => by
      obtain ⟨cs', h2, h3⟩ := hx i (by omega)
      obtain ⟨y, hy, hok⟩ := h1 h3
      exact ⟨y, cs', h2, hy, hok⟩)
    refine ⟨l, ⟨some a, cap, by rw [hll], by omega, rfl, ?_, fun hn => ⟨a, rfl, fun j p hj => ?_⟩⟩, fun y hy => ?_⟩
    · rw [hll]; unfold maxLen at hm; omega
    · obtain ⟨cs', h2, h3, _⟩ := hp j p hj
      obtain ⟨_, hlen, hcell⟩ := World.cells?_some h2
      refine ⟨cs', by rw [hlen, hc], h3, fun i u hu => ?_⟩
      have hi : i < P.cellsOf e := by
        have := (List.getElem?_eq_some_iff.1 hu).1
        omega
      have h4 := hcell i hi
      rw [hu] at h4
      rw [← h4, ← hc]
      congr 1
      unfold Addr.add
      by_cases z1 : j * P.cellsOf e = 0 <;> by_cases z2 : i = 0 <;> simp [z1, z2, Nat.add_assoc]
    · obtain ⟨j, hj, rfl⟩ := List.mem_iff_getElem.1 hy
      obtain ⟨_, _, _, hok⟩ := hp j _ (List.getElem?_eq_getElem hj)
      exact hok
/-- The fields from offset o on. -/
def ReadsF {α : Type} (P : Program) (o : Nat) (fs : List Field) (d : Kd α) (ok : α → Prop) : Prop :=
  ∀ {H : Type} {enc : TypeId × Value → H} {w : World} {base : Nat} {spare : Nat → Bool} {held : Bool} {n : Nat} {cs : List Value}, (∀ f ∈ fs, ∃ x, DataW.trod enc P w base spare held n f.type ((cs.drop f.offset).take (P.cellsOf f.type)) = some x) → ∃ a : α, d.K w a ((cs.drop o).take d.sz) ∧ ok a
theorem ReadsF.last {α : Type} {P : Program} {o : Nat} {f : Field} {d : Kd α} {ok : α → Prop} (ho : f.offset = o) (h : ReadsK P f.type d ok) (hc : P.cellsOf f.type = d.sz) : ReadsF P o [f] d ok := by
  intro H enc w base spare held n cs hh
  obtain ⟨x, hx⟩ := hh f (by simp)
  rw [ho, hc] at hx
  exact h hx
theorem ReadsF.cons {α β : Type} {P : Program} {o : Nat} {f : Field} {fs : List Field} {d : Kd α} {d2 : Kd β} {ok : α → Prop} {ok2 : β → Prop} (ho : f.offset = o) (h : ReadsK P f.type d ok) (hc : P.cellsOf f.type = d.sz) (h2 : ReadsF P (o + d.sz) fs d2 ok2) : ReadsF P o (f :: fs) (Kd.pair d d2) (fun p => ok p.1 ∧ ok2 p.2) := by
  intro H enc w base spare held n cs hh
  obtain ⟨x, hx⟩ := hh f (by simp)
  rw [ho, hc] at hx
  obtain ⟨a, ha, hok⟩ := h hx
  obtain ⟨b, hb, hok2⟩ := h2 (fun g hg => hh g (by simp [hg]))
  refine ⟨(a, b), ⟨_, _, ?_, ha, hb⟩, hok, hok2⟩
  show (cs.drop o).take (d.sz + d2.sz) = _
  rw [List.take_add, List.drop_drop]
theorem ReadsK.struct {α : Type} {P : Program} {T : TypeId} {fs : Array Field} {d : Kd α} {ok : α → Prop} (hT : P.underlying T = some (.struct fs)) (hc : P.cellsOf T = d.sz) (h : ReadsF P 0 fs.toList d ok) : ReadsK P T d ok := by
  intro H enc w base spare held fuel cs x hx
  obtain ⟨xs, n, _, _, hl, hlen, hf⟩ := DataW.trod_struct hT hx
  obtain ⟨a, ha, hok⟩ := h (n := n) (cs := cs) (enc := enc) (w := w) (base := base) (spare := spare) (held := held) (fun f hf2 => by
    obtain ⟨i, hi, rfl⟩ := List.mem_iff_getElem.1 hf2
    have h1 := hf i fs[i] (by simp at hi; exact Array.getElem?_eq_getElem hi)
    have hi2 : i < xs.length := by simp at hi; omega
    rw [List.getElem?_eq_getElem hi2] at h1
    exact ⟨_, by simpa using h1⟩)
  refine ⟨a, ?_, hok⟩
  rwa [List.drop_zero, ← hc, ← hl, List.take_length] at ha
theorem ReadsK.iso {α β : Type} {P : Program} {T : TypeId} {d : Kd α} {ok : α → Prop} (h : ReadsK P T d ok) (f : β → α) (g : α → β) (hfg : ∀ a, f (g a) = a) : ReadsK P T (Kd.iso d f) (fun b => ok (f b)) := by
  intro H enc w base spare held fuel cs x hx
  obtain ⟨a, ha, hok⟩ := h hx
  refine ⟨g a, ?_, by show ok (f (g a)); rw [hfg]; exact hok⟩
  show d.K w (f (g a)) cs
  rw [hfg]
  exact ha
theorem agg_of {cs : Array Value} {L : List Value} (h : cs.toList = L) : cs = L.toArray := by rw [← h]
end Go.Proofs.YtpbboooeahmgpaaW.Mine


-- written by wip/gen_law.py
namespace Go.Proofs.Ytpbboooeahmgpaa.P
open Go.RowKit Go.Proofs.YtpbboooeahmgpaaW.PrintWords Go.Proofs.YtpbboooeahmgpaaW.PrintLast Go.Proofs.YtpbboooeahmgpaaW.PrintMore Go.Proofs.YtpbboooeahmgpaaW.Mine
open List (setIfInBounds_toArray set_cons_zero set_cons_succ)
attribute [local go_sem] max2_int min2_int max_two min_two max_three min_three max_four min_four
set_option linter.unusedVariables false
set_option linter.unusedSimpArgs false
set_option maxHeartbeats 8000000 in
set_option maxRecDepth 100000 in
theorem FnExactLendersOf_run0 (A0_0 : Option Addr) (c0_0 : Nat) (l0_0 : List (List Int)) (A1_0 : Option Addr) (c1_0 : Nat) (l1_0 : List (SlawsLoan)) (a2_0 : Int) (r1_0 : Int) (w : World) (hr0_0 : Kd.C (Kd.slice 5 (Kd.int .u8)) w A0_0 l0_0.length l0_0) (hc0_0 : l0_0.length ≤ c0_0) (hr1_0 : Kd.C klawsLoan w A1_0 l1_0.length l1_0) (hc1_0 : l1_0.length ≤ c1_0) (H1 : ∃ k, laws_szMemory.f k l0_0 1048576 = some r1_0) (P_ : r1_0 < 0) :
    Calls Try.prog 9 #[.agg #[.slice A0_0 l0_0.length c0_0], .slice A1_0 l1_0.length c1_0, .int .i64 a2_0] w fun e w' => e = .returned (.bool true) ∧ Below w.heap.size w w' := by
  have HR0_0 := Aside0.mk hr0_0; have HC0_0 := Aside0.mk hc0_0; clear hr0_0 hc0_0
  have HR1_0 := Aside0.mk hr1_0; have HC1_0 := Aside0.mk hc1_0; clear hr1_0 hc1_0
  obtain ⟨k, H1_⟩ := H1; have H1 := Aside0.mk H1_; clear H1_
  have Pb_ : decide (r1_0 < 0) = true := decide_eq_true P_; clear P_
  have HS0 : Aside0 (Stk w [] w) := ⟨Stk.nil w⟩
  go_enter Try.func9, Try.ntmps9
  refine reg (aF := ?_) (nw := ?_) [evB 0 3 [] 49 (fun s => #[.slice A0_0 l0_0.length c0_0]) 9999 [] (fun s => #[.slice A0_0 l0_0.length c0_0]), evP 1 6 [] (fun s => .bool false)] [] [] false 2 rfl rfl (by kernel_rfl) rfl (mf0) ?aF ?nw HS0.out ?hs ?_
  rotate_left 2
  case aF => intro s; simp only [putE, EvT.val, Act.put, setIfInBounds_toArray, set_cons_zero, set_cons_succ]; rfl
  case nw => intro s; simp only [thA, bsA, List.nil_append, List.cons_append, List.append_nil, if_true, if_false, Nat.reduceLT, set_cons_zero, set_cons_succ]; rfl
  case hs => exact ⟨bv rfl (fun s w => by go_simp; try rfl), pu rfl, trivial⟩
  intro s1 w1 h; have HS1 := Aside0.mk h; clear h HS0
  refine tl0 ?_
  refine reg0 (aF := ?_) [] [0] false 1 rfl rfl (by kernel_rfl) rfl (fun _ => rfl) ?aF HS1.out ?hs ?_
  rotate_left 1
  case aF => intro s; simp only [putE, EvT.val, Act.put, setIfInBounds_toArray, set_cons_zero, set_cons_succ]; rfl
  case hs => exact trivial
  intro s2 w2 h; have HS2 := Aside0.mk h; clear h HS1
  refine tlP (v := .int .i64 1048576) 7 rfl ?_
  refine tl0 ?_
  refine reg0 (aF := ?_) [evL 0 19 [] (fun s => .agg #[.slice A0_0 l0_0.length c0_0]), evP 1 20 [] (fun s => .int .i64 1048576), evC 2 (some 21) [] (fun s x => .int .i64 r1_0) (fun s x => [])] [3] false 4 rfl rfl (by kernel_rfl) rfl (fun _ => rfl) ?aF HS2.out ?hs ?_
  rotate_left 1
  case aF => intro s; simp only [putE, EvT.val, Act.put, setIfInBounds_toArray, set_cons_zero, set_cons_succ]; rfl
  case hs => exact ⟨ld rfl 0 (fun s => rfl) (fun s w h => by have h0 := h 0 _ rfl; clear h; go_simp; try rfl), pu rfl, cl rfl (fun s => #[.agg #[.slice A0_0 l0_0.length c0_0], .int .i64 1048576]) Try.func24 (fun s w1 h => (laws_szMemory.calls _ _ _ _ _ _ _ (Kd.C_below HR0_0.out h.hb) HC0_0.out H1.out).mono (by rintro e w2 ⟨rfl, hb⟩; exact fin0 hb)), trivial⟩
  intro s3 w3 h; have HS3 := Aside0.mk h; clear h HS2
  refine tlP (v := .int .i64 r1_0) 7 rfl ?_
  refine tl0 ?_
  refine wp_seq ?_
  refine reg0 (aF := ?_) [evP 0 22 [] (fun s => .int .i64 r1_0), evP 1 23 [] (fun s => .bool true)] [] false 2 rfl rfl (by kernel_rfl) rfl (fun _ => rfl) ?aF HS3.out ?hs ?_
  rotate_left 1
  case aF => intro s; simp only [putE, EvT.val, Act.put, setIfInBounds_toArray, set_cons_zero, set_cons_succ]; rfl
  case hs => exact ⟨pu rfl, pb (q := .lss) Pb_ rfl, trivial⟩
  intro s4 w4 h; have HS4 := Aside0.mk h; clear h HS3
  refine tl0 ?_
  refine wp_cond_true rfl ?_
  refine reg0 (aF := ?_) [] [0] false 1 rfl rfl (by kernel_rfl) rfl (fun _ => rfl) ?aF HS4.out ?hs ?_
  rotate_left 1
  case aF => intro s; simp only [putE, EvT.val, Act.put, setIfInBounds_toArray, set_cons_zero, set_cons_succ]; rfl
  case hs => exact trivial
  intro s5 w5 h; have HS5 := Aside0.mk h; clear h HS4
  refine tlP (v := .bool true) 6 rfl ?_
  refine tl0 ?_
  refine wp_ret ?_
  go_ret
  exact ⟨by first | rfl | simp, HS5.out.hb⟩
set_option maxHeartbeats 8000000 in
set_option maxRecDepth 100000 in
theorem FnExactLendersOf_run1 (A0_0 : Option Addr) (c0_0 : Nat) (l0_0 : List (List Int)) (A1_0 : Option Addr) (c1_0 : Nat) (l1_0 : List (SlawsLoan)) (a2_0 : Int) (r1_0 : Int) (r2_0 : Int) (w : World) (hr0_0 : Kd.C (Kd.slice 5 (Kd.int .u8)) w A0_0 l0_0.length l0_0) (hc0_0 : l0_0.length ≤ c0_0) (hr1_0 : Kd.C klawsLoan w A1_0 l1_0.length l1_0) (hc1_0 : l1_0.length ≤ c1_0) (H1 : ∃ k, laws_szMemory.f k l0_0 1048576 = some r1_0) (H2 : laws_szLoanS.f l1_0 r1_0 = some r2_0) (N_r1_0 : ¬ r1_0 < 0) (P_ : r2_0 < 0) :
    Calls Try.prog 9 #[.agg #[.slice A0_0 l0_0.length c0_0], .slice A1_0 l1_0.length c1_0, .int .i64 a2_0] w fun e w' => e = .returned (.bool true) ∧ Below w.heap.size w w' := by
  have HR0_0 := Aside0.mk hr0_0; have HC0_0 := Aside0.mk hc0_0; clear hr0_0 hc0_0
  have HR1_0 := Aside0.mk hr1_0; have HC1_0 := Aside0.mk hc1_0; clear hr1_0 hc1_0
  obtain ⟨k, H1_⟩ := H1; have H1 := Aside0.mk H1_; clear H1_
  have H2_ := Aside0.mk H2; clear H2; have H2 := H2_; clear H2_
  have Nb_r1_0 : decide (r1_0 < 0) = false := decide_eq_false N_r1_0; clear N_r1_0
  have Pb_ : decide (r2_0 < 0) = true := decide_eq_true P_; clear P_
  have HS0 : Aside0 (Stk w [] w) := ⟨Stk.nil w⟩
  go_enter Try.func9, Try.ntmps9
  refine reg (aF := ?_) (nw := ?_) [evB 0 3 [] 49 (fun s => #[.slice A0_0 l0_0.length c0_0]) 9999 [] (fun s => #[.slice A0_0 l0_0.length c0_0]), evP 1 6 [] (fun s => .bool false)] [] [] false 2 rfl rfl (by kernel_rfl) rfl (mf0) ?aF ?nw HS0.out ?hs ?_
  rotate_left 2
  case aF => intro s; simp only [putE, EvT.val, Act.put, setIfInBounds_toArray, set_cons_zero, set_cons_succ]; rfl
  case nw => intro s; simp only [thA, bsA, List.nil_append, List.cons_append, List.append_nil, if_true, if_false, Nat.reduceLT, set_cons_zero, set_cons_succ]; rfl
  case hs => exact ⟨bv rfl (fun s w => by go_simp; try rfl), pu rfl, trivial⟩
  intro s1 w1 h; have HS1 := Aside0.mk h; clear h HS0
  refine tl0 ?_
  refine reg0 (aF := ?_) [] [0] false 1 rfl rfl (by kernel_rfl) rfl (fun _ => rfl) ?aF HS1.out ?hs ?_
  rotate_left 1
  case aF => intro s; simp only [putE, EvT.val, Act.put, setIfInBounds_toArray, set_cons_zero, set_cons_succ]; rfl
  case hs => exact trivial
  intro s2 w2 h; have HS2 := Aside0.mk h; clear h HS1
  refine tlP (v := .int .i64 1048576) 7 rfl ?_
  refine tl0 ?_
  refine reg0 (aF := ?_) [evL 0 19 [] (fun s => .agg #[.slice A0_0 l0_0.length c0_0]), evP 1 20 [] (fun s => .int .i64 1048576), evC 2 (some 21) [] (fun s x => .int .i64 r1_0) (fun s x => [])] [3] false 4 rfl rfl (by kernel_rfl) rfl (fun _ => rfl) ?aF HS2.out ?hs ?_
  rotate_left 1
  case aF => intro s; simp only [putE, EvT.val, Act.put, setIfInBounds_toArray, set_cons_zero, set_cons_succ]; rfl
  case hs => exact ⟨ld rfl 0 (fun s => rfl) (fun s w h => by have h0 := h 0 _ rfl; clear h; go_simp; try rfl), pu rfl, cl rfl (fun s => #[.agg #[.slice A0_0 l0_0.length c0_0], .int .i64 1048576]) Try.func24 (fun s w1 h => (laws_szMemory.calls _ _ _ _ _ _ _ (Kd.C_below HR0_0.out h.hb) HC0_0.out H1.out).mono (by rintro e w2 ⟨rfl, hb⟩; exact fin0 hb)), trivial⟩
  intro s3 w3 h; have HS3 := Aside0.mk h; clear h HS2
  refine tlP (v := .int .i64 r1_0) 7 rfl ?_
  refine tl0 ?_
  refine wp_seq ?_
  refine reg0 (aF := ?_) [evP 0 22 [] (fun s => .int .i64 r1_0), evP 1 23 [] (fun s => .bool false)] [] false 2 rfl rfl (by kernel_rfl) rfl (fun _ => rfl) ?aF HS3.out ?hs ?_
  rotate_left 1
  case aF => intro s; simp only [putE, EvT.val, Act.put, setIfInBounds_toArray, set_cons_zero, set_cons_succ]; rfl
  case hs => exact ⟨pu rfl, pb (q := .lss) Nb_r1_0 rfl, trivial⟩
  intro s4 w4 h; have HS4 := Aside0.mk h; clear h HS3
  refine tl0 ?_
  refine wp_cond_false rfl ?_
  refine wp_skip ?_
  refine thN ?_
  refine reg0 (aF := ?_) [evP 0 24 [] (fun s => .slice A1_0 l1_0.length c1_0), evP 1 25 [] (fun s => .int .i64 r1_0), evC 2 (some 26) [] (fun s x => .int .i64 r2_0) (fun s x => [])] [3] false 4 rfl rfl (by kernel_rfl) rfl (fun _ => rfl) ?aF HS4.out ?hs ?_
  rotate_left 1
  case aF => intro s; simp only [putE, EvT.val, Act.put, setIfInBounds_toArray, set_cons_zero, set_cons_succ]; rfl
  case hs => exact ⟨pu rfl, pu rfl, cl rfl (fun s => #[.slice A1_0 l1_0.length c1_0, .int .i64 r1_0]) Try.func25 (fun s w1 h => (laws_szLoanS.calls _ _ _ _ _ _ (Kd.C_below HR1_0.out h.hb) HC1_0.out H2.out).mono (by rintro e w2 ⟨rfl, hd⟩; exact fin0 hd.below)), trivial⟩
  intro s5 w5 h; have HS5 := Aside0.mk h; clear h HS4
  refine tlP (v := .int .i64 r2_0) 7 rfl ?_
  refine tl0 ?_
  refine wp_seq ?_
  refine reg0 (aF := ?_) [evP 0 27 [] (fun s => .int .i64 r2_0), evP 1 28 [] (fun s => .bool true)] [] false 2 rfl rfl (by kernel_rfl) rfl (fun _ => rfl) ?aF HS5.out ?hs ?_
  rotate_left 1
  case aF => intro s; simp only [putE, EvT.val, Act.put, setIfInBounds_toArray, set_cons_zero, set_cons_succ]; rfl
  case hs => exact ⟨pu rfl, pb (q := .lss) Pb_ rfl, trivial⟩
  intro s6 w6 h; have HS6 := Aside0.mk h; clear h HS5
  refine tl0 ?_
  refine wp_cond_true rfl ?_
  refine reg0 (aF := ?_) [] [0] false 1 rfl rfl (by kernel_rfl) rfl (fun _ => rfl) ?aF HS6.out ?hs ?_
  rotate_left 1
  case aF => intro s; simp only [putE, EvT.val, Act.put, setIfInBounds_toArray, set_cons_zero, set_cons_succ]; rfl
  case hs => exact trivial
  intro s7 w7 h; have HS7 := Aside0.mk h; clear h HS6
  refine tlP (v := .bool true) 6 rfl ?_
  refine tl0 ?_
  refine wp_ret ?_
  go_ret
  exact ⟨by first | rfl | simp, HS7.out.hb⟩
set_option maxHeartbeats 8000000 in
set_option maxRecDepth 100000 in
theorem FnExactLendersOf_run (A0_0 : Option Addr) (c0_0 : Nat) (l0_0 : List (List Int)) (A1_0 : Option Addr) (c1_0 : Nat) (l1_0 : List (SlawsLoan)) (a2_0 : Int) (r1_0 : Int) (r2_0 : Int) (r3_0 : List (List Int)) (r4_0 : List (SimplLoan)) (r5_0 : List (List Int)) (r5_1 : Bool) (r10_0 : Int) (r10_1 : List (List Int)) (r11_0 : Int) (r11_1 : List SimplLoan) (r12_0 : Int) (r12_1 : List (List Int)) (w : World) (hr0_0 : Kd.C (Kd.slice 5 (Kd.int .u8)) w A0_0 l0_0.length l0_0) (hc0_0 : l0_0.length ≤ c0_0) (hr1_0 : Kd.C klawsLoan w A1_0 l1_0.length l1_0) (hc1_0 : l1_0.length ≤ c1_0) (H1 : ∃ k, laws_szMemory.f k l0_0 1048576 = some r1_0) (H2 : laws_szLoanS.f l1_0 r1_0 = some r2_0) (H3 : laws_toMemory.f l0_0 = some r3_0) (H4 : ∃ k, laws_toLoanS.f k l1_0 = some r4_0) (H5 : ∃ k, spec_LendersOf.f k r3_0 r4_0 a2_0 = some (r5_0, r5_1)) (H6 : ∃ k, impl_LendersOf.f k r3_0 r4_0 a2_0 = some (r5_0, r5_1)) (H7 : ∃ k, laws_eqIntSS.f k r5_0 r5_0 = some true) (H8 : ∃ k, laws_eqMemory.f k r3_0 r3_0 = some true) (H9 : ∃ k, laws_eqLoanS.f k r4_0 r4_0 = some true) (H10 : laws_markMemory.f r3_0 1 = some (r10_0, r10_1)) (H11 : laws_markLoanS.f r4_0 r10_0 = some (r11_0, r11_1)) (H12 : laws_markIntSS.f r5_0 1 = some (r12_0, r12_1)) (H13 : ∃ k, laws_heldIntSS.f k r12_1 1 = some r12_0) (N_r11_0 : ¬ r11_0 < 0) (N_r12_0 : ¬ r12_0 < 0) (N_r1_0 : ¬ r1_0 < 0) (N_r2_0 : ¬ r2_0 < 0) :
    Calls Try.prog 9 #[.agg #[.slice A0_0 l0_0.length c0_0], .slice A1_0 l1_0.length c1_0, .int .i64 a2_0] w fun e w' => e = .returned (.bool true) ∧ Below w.heap.size w w' := by
  have HR0_0 := Aside0.mk hr0_0; have HC0_0 := Aside0.mk hc0_0; clear hr0_0 hc0_0
  have HR1_0 := Aside0.mk hr1_0; have HC1_0 := Aside0.mk hc1_0; clear hr1_0 hc1_0
  obtain ⟨k, H1_⟩ := H1; have H1 := Aside0.mk H1_; clear H1_
  have H2_ := Aside0.mk H2; clear H2; have H2 := H2_; clear H2_
  have H3_ := Aside0.mk H3; clear H3; have H3 := H3_; clear H3_
  obtain ⟨k, H4_⟩ := H4; have H4 := Aside0.mk H4_; clear H4_
  obtain ⟨k, H5_⟩ := H5; have H5 := Aside0.mk H5_; clear H5_
  obtain ⟨k, H6_⟩ := H6; have H6 := Aside0.mk H6_; clear H6_
  obtain ⟨k, H7_⟩ := H7; have H7 := Aside0.mk H7_; clear H7_
  obtain ⟨k, H8_⟩ := H8; have H8 := Aside0.mk H8_; clear H8_
  obtain ⟨k, H9_⟩ := H9; have H9 := Aside0.mk H9_; clear H9_
  have H10_ := Aside0.mk H10; clear H10; have H10 := H10_; clear H10_
  have H11_ := Aside0.mk H11; clear H11; have H11 := H11_; clear H11_
  have H12_ := Aside0.mk H12; clear H12; have H12 := H12_; clear H12_
  obtain ⟨k, H13_⟩ := H13; have H13 := Aside0.mk H13_; clear H13_
  have Nb_r11_0 : decide (r11_0 < 0) = false := decide_eq_false N_r11_0; clear N_r11_0
  have Nb_r12_0 : decide (r12_0 < 0) = false := decide_eq_false N_r12_0; clear N_r12_0
  have Nb_r1_0 : decide (r1_0 < 0) = false := decide_eq_false N_r1_0; clear N_r1_0
  have Nb_r2_0 : decide (r2_0 < 0) = false := decide_eq_false N_r2_0; clear N_r2_0
  have HS0 : Aside0 (Stk w [] w) := ⟨Stk.nil w⟩
  go_enter Try.func9, Try.ntmps9
  refine reg (aF := ?_) (nw := ?_) [evB 0 3 [] 49 (fun s => #[.slice A0_0 l0_0.length c0_0]) 9999 [] (fun s => #[.slice A0_0 l0_0.length c0_0]), evP 1 6 [] (fun s => .bool false)] [] [] false 2 rfl rfl (by kernel_rfl) rfl (mf0) ?aF ?nw HS0.out ?hs ?_
  rotate_left 2
  case aF => intro s; simp only [putE, EvT.val, Act.put, setIfInBounds_toArray, set_cons_zero, set_cons_succ]; rfl
  case nw => intro s; simp only [thA, bsA, List.nil_append, List.cons_append, List.append_nil, if_true, if_false, Nat.reduceLT, set_cons_zero, set_cons_succ]; rfl
  case hs => exact ⟨bv rfl (fun s w => by go_simp; try rfl), pu rfl, trivial⟩
  intro s1 w1 h; have HS1 := Aside0.mk h; clear h HS0
  refine tl0 ?_
  refine reg0 (aF := ?_) [] [0] false 1 rfl rfl (by kernel_rfl) rfl (fun _ => rfl) ?aF HS1.out ?hs ?_
  rotate_left 1
  case aF => intro s; simp only [putE, EvT.val, Act.put, setIfInBounds_toArray, set_cons_zero, set_cons_succ]; rfl
  case hs => exact trivial
  intro s2 w2 h; have HS2 := Aside0.mk h; clear h HS1
  refine tlP (v := .int .i64 1048576) 7 rfl ?_
  refine tl0 ?_
  refine reg0 (aF := ?_) [evL 0 19 [] (fun s => .agg #[.slice A0_0 l0_0.length c0_0]), evP 1 20 [] (fun s => .int .i64 1048576), evC 2 (some 21) [] (fun s x => .int .i64 r1_0) (fun s x => [])] [3] false 4 rfl rfl (by kernel_rfl) rfl (fun _ => rfl) ?aF HS2.out ?hs ?_
  rotate_left 1
  case aF => intro s; simp only [putE, EvT.val, Act.put, setIfInBounds_toArray, set_cons_zero, set_cons_succ]; rfl
  case hs => exact ⟨ld rfl 0 (fun s => rfl) (fun s w h => by have h0 := h 0 _ rfl; clear h; go_simp; try rfl), pu rfl, cl rfl (fun s => #[.agg #[.slice A0_0 l0_0.length c0_0], .int .i64 1048576]) Try.func24 (fun s w1 h => (laws_szMemory.calls _ _ _ _ _ _ _ (Kd.C_below HR0_0.out h.hb) HC0_0.out H1.out).mono (by rintro e w2 ⟨rfl, hb⟩; exact fin0 hb)), trivial⟩
  intro s3 w3 h; have HS3 := Aside0.mk h; clear h HS2
  refine tlP (v := .int .i64 r1_0) 7 rfl ?_
  refine tl0 ?_
  refine wp_seq ?_
  refine reg0 (aF := ?_) [evP 0 22 [] (fun s => .int .i64 r1_0), evP 1 23 [] (fun s => .bool false)] [] false 2 rfl rfl (by kernel_rfl) rfl (fun _ => rfl) ?aF HS3.out ?hs ?_
  rotate_left 1
  case aF => intro s; simp only [putE, EvT.val, Act.put, setIfInBounds_toArray, set_cons_zero, set_cons_succ]; rfl
  case hs => exact ⟨pu rfl, pb (q := .lss) Nb_r1_0 rfl, trivial⟩
  intro s4 w4 h; have HS4 := Aside0.mk h; clear h HS3
  refine tl0 ?_
  refine wp_cond_false rfl ?_
  refine wp_skip ?_
  refine thN ?_
  refine reg0 (aF := ?_) [evP 0 24 [] (fun s => .slice A1_0 l1_0.length c1_0), evP 1 25 [] (fun s => .int .i64 r1_0), evC 2 (some 26) [] (fun s x => .int .i64 r2_0) (fun s x => [])] [3] false 4 rfl rfl (by kernel_rfl) rfl (fun _ => rfl) ?aF HS4.out ?hs ?_
  rotate_left 1
  case aF => intro s; simp only [putE, EvT.val, Act.put, setIfInBounds_toArray, set_cons_zero, set_cons_succ]; rfl
  case hs => exact ⟨pu rfl, pu rfl, cl rfl (fun s => #[.slice A1_0 l1_0.length c1_0, .int .i64 r1_0]) Try.func25 (fun s w1 h => (laws_szLoanS.calls _ _ _ _ _ _ (Kd.C_below HR1_0.out h.hb) HC1_0.out H2.out).mono (by rintro e w2 ⟨rfl, hd⟩; exact fin0 hd.below)), trivial⟩
  intro s5 w5 h; have HS5 := Aside0.mk h; clear h HS4
  refine tlP (v := .int .i64 r2_0) 7 rfl ?_
  refine tl0 ?_
  refine wp_seq ?_
  refine reg0 (aF := ?_) [evP 0 27 [] (fun s => .int .i64 r2_0), evP 1 28 [] (fun s => .bool false)] [] false 2 rfl rfl (by kernel_rfl) rfl (fun _ => rfl) ?aF HS5.out ?hs ?_
  rotate_left 1
  case aF => intro s; simp only [putE, EvT.val, Act.put, setIfInBounds_toArray, set_cons_zero, set_cons_succ]; rfl
  case hs => exact ⟨pu rfl, pb (q := .lss) Nb_r2_0 rfl, trivial⟩
  intro s6 w6 h; have HS6 := Aside0.mk h; clear h HS5
  refine tl0 ?_
  refine wp_cond_false rfl ?_
  refine wp_skip ?_
  refine thN ?_
  refine reg (aF := ?_) (nw := ?_) [evL 0 30 [] (fun s => .agg #[.slice A0_0 l0_0.length c0_0]), evC 1 (some 31) [] (fun s x => .agg #[.slice x.A r3_0.length x.c]) (fun s x => [rowS (Kd.slice 5 (Kd.int .u8)) 22 w x.lo x.hi x.A x.c r3_0]), evP 2 32 [] (fun s => .slice A1_0 l1_0.length c1_0), evC 3 (some 33) [] (fun s x => .slice x.A r4_0.length x.c) (fun s x => [rowR kimplLoan 30 w x.lo x.hi x.A x.c r4_0]), evP 4 34 [] (fun s => .int .i64 a2_0), evC 5 (some 35) [1, 3] (fun s x => .tuple #[.slice x.A r5_0.length x.c, .bool r5_1]) (fun s x => [rowS (Kd.slice 3 (Kd.int .i64)) 66 w x.lo x.hi x.A x.c r5_0]), evP 6 29 [5] (fun s => .tuple #[.slice (s 5).A r5_0.length (s 5).c, .bool r5_1]), evP 7 36 [5] (fun s => .slice (s 5).A r5_0.length (s 5).c), evP 8 37 [] (fun s => .bool r5_1), evP 9 8 [5] (fun s => .slice (s 5).A r5_0.length (s 5).c)] [10] [] false 11 rfl rfl (by kernel_rfl) rfl (mf0) ?aF ?nw HS6.out ?hs ?_
  rotate_left 2
  case aF => intro s; simp only [putE, EvT.val, Act.put, setIfInBounds_toArray, set_cons_zero, set_cons_succ]; rfl
  case nw => intro s; simp only [thA, bsA, List.nil_append, List.cons_append, List.append_nil, if_true, if_false, Nat.reduceLT, set_cons_zero, set_cons_succ]; rfl
  case hs => exact ⟨ld rfl 0 (fun s => rfl) (fun s w h => by have h0 := h 0 _ rfl; clear h; go_simp; try rfl), cl rfl (fun s => #[.agg #[.slice A0_0 l0_0.length c0_0]]) Try.func27 (fun s w1 h => (laws_toMemory.calls _ _ _ _ _ (Kd.C_below HR0_0.out h.hb) HC0_0.out H3.out).mono (by rintro e w2 ⟨v0_, rfl, ho0, hb⟩; obtain ⟨x, rfl, hx⟩ := fin_S ho0 hb h.hb.size; exact ⟨x, rfl, hx⟩)), pu rfl, cl rfl (fun s => #[.slice A1_0 l1_0.length c1_0]) Try.func28 (fun s w1 h => (laws_toLoanS.calls _ _ _ _ _ _ (Kd.C_below HR1_0.out h.hb) HC1_0.out H4.out).mono (by rintro e w2 ⟨v0_, rfl, ho0, hb⟩; obtain ⟨x, rfl, hx⟩ := fin_R ho0 hb h.hb.size; exact ⟨x, rfl, hx⟩)), pu rfl, cl rfl (fun s => #[.agg #[.slice (s 1).A r3_0.length (s 1).c], .slice (s 3).A r4_0.length (s 3).c, .int .i64 a2_0]) Try.func47 (fun s w1 h => (spec_LendersOf.calls _ _ _ _ _ _ _ _ _ _ _ (Kd.S_reads' (h.get 0 rfl)).2.2 (Kd.S_reads' (h.get 0 rfl)).2.1 (Kd.R_reads' (h.get 1 rfl)).2.2 (Kd.R_reads' (h.get 1 rfl)).2.1 H5.out).mono (by rintro e w2 ⟨v0_, rfl, ho0, hb⟩; obtain ⟨x, rfl, hx⟩ := fin_S ho0 hb h.hb.size; exact ⟨x, rfl, hx⟩)), pu rfl, pu rfl, pu rfl, pu rfl, trivial⟩
  intro s7 w7 h; have HS7 := Aside0.mk h; clear h HS6
  refine tlP (v := .bool r5_1) 9 rfl ?_
  refine tl0 ?_
  refine reg (aF := ?_) (nw := ?_) [evL 0 38 [] (fun s => .agg #[.slice A0_0 l0_0.length c0_0]), evC 1 (some 39) [] (fun s x => .agg #[.slice x.A r3_0.length x.c]) (fun s x => [rowS (Kd.slice 5 (Kd.int .u8)) 22 w x.lo x.hi x.A x.c r3_0]), evB 2 10 [] 26 (fun s => #[.slice none 0 0]) 3 [1] (fun s => #[.slice (s 1).A r3_0.length (s 1).c]), evS 3] [] [] false 4 rfl rfl (by kernel_rfl) rfl (mf0) ?aF ?nw HS7.out ?hs ?_
  rotate_left 2
  case aF => intro s; simp only [putE, EvT.val, Act.put, setIfInBounds_toArray, set_cons_zero, set_cons_succ]; rfl
  case nw => intro s; simp only [thA, bsA, List.nil_append, List.cons_append, List.append_nil, if_true, if_false, Nat.reduceLT, set_cons_zero, set_cons_succ]; rfl
  case hs => exact ⟨ld rfl 3 (fun s => rfl) (fun s w h => by have h0 := h 0 _ rfl; clear h; go_simp; try rfl), cl rfl (fun s => #[.agg #[.slice A0_0 l0_0.length c0_0]]) Try.func27 (fun s w1 h => (laws_toMemory.calls _ _ _ _ _ (Kd.C_below HR0_0.out h.hb) HC0_0.out H3.out).mono (by rintro e w2 ⟨v0_, rfl, ho0, hb⟩; obtain ⟨x, rfl, hx⟩ := fin_S ho0 hb h.hb.size; exact ⟨x, rfl, hx⟩)), bv rfl (fun s w => by go_simp; try rfl), st rfl 2 0 (fun s => [.slice (s 1).A r3_0.length (s 1).c]) rfl (fun s w h hf => by have h0 := h 0 _ rfl; have f0 := hf 0; clear h hf; go_simp; try rfl), trivial⟩
  intro s8 w8 h; have HS8 := Aside0.mk h; clear h HS7
  refine tl0 ?_
  refine reg (aF := ?_) (nw := ?_) [evP 0 40 [] (fun s => .slice A1_0 l1_0.length c1_0), evC 1 (some 41) [] (fun s x => .slice x.A r4_0.length x.c) (fun s x => [rowR kimplLoan 30 w x.lo x.hi x.A x.c r4_0])] [2] [] false 3 rfl rfl (by kernel_rfl) rfl (mf0) ?aF ?nw HS8.out ?hs ?_
  rotate_left 2
  case aF => intro s; simp only [putE, EvT.val, Act.put, setIfInBounds_toArray, set_cons_zero, set_cons_succ]; rfl
  case nw => intro s; simp only [thA, bsA, List.nil_append, List.cons_append, List.append_nil, if_true, if_false, Nat.reduceLT, set_cons_zero, set_cons_succ]; rfl
  case hs => exact ⟨pu rfl, cl rfl (fun s => #[.slice A1_0 l1_0.length c1_0]) Try.func28 (fun s w1 h => (laws_toLoanS.calls _ _ _ _ _ _ (Kd.C_below HR1_0.out h.hb) HC1_0.out H4.out).mono (by rintro e w2 ⟨v0_, rfl, ho0, hb⟩; obtain ⟨x, rfl, hx⟩ := fin_R ho0 hb h.hb.size; exact ⟨x, rfl, hx⟩)), trivial⟩
  intro s9 w9 h; have HS9 := Aside0.mk h; clear h HS8
  refine tlP (v := .slice (s9 1).A r4_0.length (s9 1).c) 11 rfl ?_
  refine tl0 ?_
  refine reg (aF := ?_) (nw := ?_) [evL 0 43 [] (fun s => .agg #[.slice (s8 1).A r3_0.length (s8 1).c]), evP 1 44 [] (fun s => .slice (s9 1).A r4_0.length (s9 1).c), evP 2 45 [] (fun s => .int .i64 a2_0), evC 3 (some 46) [] (fun s x => .tuple #[.slice x.A r5_0.length x.c, .bool r5_1]) (fun s x => [rowS (Kd.slice 3 (Kd.int .i64)) 66 w x.lo x.hi x.A x.c r5_0]), evP 4 42 [3] (fun s => .tuple #[.slice (s 3).A r5_0.length (s 3).c, .bool r5_1]), evP 5 47 [3] (fun s => .slice (s 3).A r5_0.length (s 3).c), evP 6 48 [] (fun s => .bool r5_1), evP 7 12 [3] (fun s => .slice (s 3).A r5_0.length (s 3).c)] [8] [] false 9 rfl rfl (by kernel_rfl) rfl (mf0) ?aF ?nw HS9.out ?hs ?_
  rotate_left 2
  case aF => intro s; simp only [putE, EvT.val, Act.put, setIfInBounds_toArray, set_cons_zero, set_cons_succ]; rfl
  case nw => intro s; simp only [thA, bsA, List.nil_append, List.cons_append, List.append_nil, if_true, if_false, Nat.reduceLT, set_cons_zero, set_cons_succ]; rfl
  case hs => exact ⟨ld rfl 2 (fun s => rfl) (fun s w h => by have h0 := h 0 _ rfl; clear h; go_simp; try rfl), pu rfl, pu rfl, cl rfl (fun s => #[.agg #[.slice (s8 1).A r3_0.length (s8 1).c], .slice (s9 1).A r4_0.length (s9 1).c, .int .i64 a2_0]) Try.func48 (fun s w1 h => (impl_LendersOf.calls _ _ _ _ _ _ _ _ _ _ _ (Kd.S_reads' (h.get 1 rfl)).2.2 (Kd.S_reads' (h.get 1 rfl)).2.1 (Kd.R_reads' (h.get 0 rfl)).2.2 (Kd.R_reads' (h.get 0 rfl)).2.1 H6.out).mono (by rintro e w2 ⟨v0_, rfl, ho0, hb⟩; obtain ⟨x, rfl, hx⟩ := fin_S ho0 hb h.hb.size; exact ⟨x, rfl, hx⟩)), pu rfl, pu rfl, pu rfl, pu rfl, trivial⟩
  intro s10 w10 h; have HS10 := Aside0.mk h; clear h HS9
  refine tlP (v := .bool r5_1) 13 rfl ?_
  refine tl0 ?_
  refine wp_seq ?_
  refine reg0 (aF := ?_) [evP 0 49 [] (fun s => .slice (s10 3).A r5_0.length (s10 3).c), evP 1 50 [] (fun s => .slice (s7 5).A r5_0.length (s7 5).c), evC 2 (some 51) [] (fun s x => .bool true) (fun s x => []), evP 3 52 [] (fun s => .bool false), evP 4 53 [] (fun s => .bool false), evP 5 54 [] (fun s => .bool r5_1), evP 6 55 [] (fun s => .bool r5_1), evP 7 56 [] (fun s => .bool false), evP 8 57 [] (fun s => .bool false)] [] false 9 rfl rfl (by kernel_rfl) rfl (fun _ => rfl) ?aF HS10.out ?hs ?_
  rotate_left 1
  case aF => intro s; simp only [putE, EvT.val, Act.put, setIfInBounds_toArray, set_cons_zero, set_cons_succ]; rfl
  case hs => exact ⟨pu rfl, pu rfl, cl rfl (fun s => #[.slice (s10 3).A r5_0.length (s10 3).c, .slice (s7 5).A r5_0.length (s7 5).c]) Try.func49 (fun s w1 h => (laws_eqIntSS.calls _ _ _ _ _ _ _ _ _ (Kd.S_reads' (h.get 0 rfl)).2.2 (Kd.S_reads' (h.get 0 rfl)).2.1 (Kd.S_reads' (h.get 6 rfl)).2.2 (Kd.S_reads' (h.get 6 rfl)).2.1 H7.out).mono (by rintro e w2 ⟨rfl, hd⟩; exact fin0 hd.below)), pu rfl, pu rfl, pu rfl, pu rfl, pn Try.underlying4 rfl, pu rfl, trivial⟩
  intro s11 w11 h; have HS11 := Aside0.mk h; clear h HS10
  refine tl0 ?_
  refine wp_cond_false rfl ?_
  refine wp_skip ?_
  refine thN ?_
  refine wp_seq ?_
  refine reg (aF := ?_) (nw := ?_) [evR 0 58 3 (fun s => .agg #[.slice (s8 1).A r3_0.length (s8 1).c]), evL 1 59 [] (fun s => .agg #[.slice A0_0 l0_0.length c0_0]), evC 2 (some 60) [] (fun s x => .agg #[.slice x.A r3_0.length x.c]) (fun s x => [rowS (Kd.slice 5 (Kd.int .u8)) 22 w x.lo x.hi x.A x.c r3_0]), evC 3 (some 61) [2] (fun s x => .bool true) (fun s x => []), evP 4 62 [] (fun s => .bool false)] [] [] true 5 rfl rfl (by kernel_rfl) rfl (mf0) ?aF ?nw HS11.out ?hs ?_
  rotate_left 2
  case aF => intro s; simp only [putE, EvT.val, Act.put, setIfInBounds_toArray, set_cons_zero, set_cons_succ]; rfl
  case nw => intro s; simp only [thA, bsA, List.nil_append, List.cons_append, List.append_nil, if_true, if_false, Nat.reduceLT, set_cons_zero, set_cons_succ]; rfl
  case hs => exact ⟨lr rfl 3 rfl (fun s w h => by have h0 := h 0 _ rfl; clear h; go_simp; try rfl), ld rfl 7 (fun s => rfl) (fun s w h => by have h0 := h 0 _ rfl; clear h; go_simp; try rfl), cl rfl (fun s => #[.agg #[.slice A0_0 l0_0.length c0_0]]) Try.func27 (fun s w1 h => (laws_toMemory.calls _ _ _ _ _ (Kd.C_below HR0_0.out h.hb) HC0_0.out H3.out).mono (by rintro e w2 ⟨v0_, rfl, ho0, hb⟩; obtain ⟨x, rfl, hx⟩ := fin_S ho0 hb h.hb.size; exact ⟨x, rfl, hx⟩)), cl rfl (fun s => #[.agg #[.slice (s8 1).A r3_0.length (s8 1).c], .agg #[.slice (s 2).A r3_0.length (s 2).c]]) Try.func31 (fun s w1 h => (laws_eqMemory.calls _ _ _ _ _ _ _ _ _ (Kd.S_reads' (h.get 3 rfl)).2.2 (Kd.S_reads' (h.get 3 rfl)).2.1 (Kd.S_reads' (h.get 0 rfl)).2.2 (Kd.S_reads' (h.get 0 rfl)).2.1 H8.out).mono (by rintro e w2 ⟨rfl, hb⟩; exact fin0 hb)), pu rfl, trivial⟩
  intro s12 w12 h; have HS12 := Aside0.mk h; clear h HS11
  refine tl0 ?_
  refine wp_cond_false rfl ?_
  refine wp_skip ?_
  refine thN ?_
  refine wp_seq ?_
  refine reg (aF := ?_) (nw := ?_) [evP 0 63 [] (fun s => .slice (s9 1).A r4_0.length (s9 1).c), evP 1 64 [] (fun s => .slice A1_0 l1_0.length c1_0), evC 2 (some 65) [] (fun s x => .slice x.A r4_0.length x.c) (fun s x => [rowR kimplLoan 30 w x.lo x.hi x.A x.c r4_0]), evC 3 (some 66) [2] (fun s x => .bool true) (fun s x => []), evP 4 67 [] (fun s => .bool false)] [] [] false 5 rfl rfl (by kernel_rfl) rfl (mf0) ?aF ?nw HS12.out ?hs ?_
  rotate_left 2
  case aF => intro s; simp only [putE, EvT.val, Act.put, setIfInBounds_toArray, set_cons_zero, set_cons_succ]; rfl
  case nw => intro s; simp only [thA, bsA, List.nil_append, List.cons_append, List.append_nil, if_true, if_false, Nat.reduceLT, set_cons_zero, set_cons_succ]; rfl
  case hs => exact ⟨pu rfl, pu rfl, cl rfl (fun s => #[.slice A1_0 l1_0.length c1_0]) Try.func28 (fun s w1 h => (laws_toLoanS.calls _ _ _ _ _ _ (Kd.C_below HR1_0.out h.hb) HC1_0.out H4.out).mono (by rintro e w2 ⟨v0_, rfl, ho0, hb⟩; obtain ⟨x, rfl, hx⟩ := fin_R ho0 hb h.hb.size; exact ⟨x, rfl, hx⟩)), cl rfl (fun s => #[.slice (s9 1).A r4_0.length (s9 1).c, .slice (s 2).A r4_0.length (s 2).c]) Try.func32 (fun s w1 h => (laws_eqLoanS.calls _ _ _ _ _ _ _ _ _ (Kd.R_reads' (h.get 3 rfl)).2.2 (Kd.R_reads' (h.get 3 rfl)).2.1 (Kd.R_reads' (h.get 0 rfl)).2.2 (Kd.R_reads' (h.get 0 rfl)).2.1 H9.out).mono (by rintro e w2 ⟨rfl, hb⟩; exact fin0 hb)), pu rfl, trivial⟩
  intro s13 w13 h; have HS13 := Aside0.mk h; clear h HS12
  refine tl0 ?_
  refine wp_cond_false rfl ?_
  refine wp_skip ?_
  refine thN ?_
  refine reg0 (aF := ?_) [] [0] false 1 rfl rfl (by kernel_rfl) rfl (fun _ => rfl) ?aF HS13.out ?hs ?_
  rotate_left 1
  case aF => intro s; simp only [putE, EvT.val, Act.put, setIfInBounds_toArray, set_cons_zero, set_cons_succ]; rfl
  case hs => exact trivial
  intro s14 w14 h; have HS14 := Aside0.mk h; clear h HS13
  refine tlP (v := .int .i64 1) 14 rfl ?_
  refine tl0 ?_
  refine reg (aF := ?_) (nw := ?_) [evL 0 68 [] (fun s => .agg #[.slice (s8 1).A r3_0.length (s8 1).c]), evP 1 69 [] (fun s => .int .i64 1), evW 2 (some 70) [] (fun s => .int .i64 r10_0)] [3] [⟨4, 2, [], fun s => ⟨(s8 1).lo, (s8 1).hi, fun w_ => Kd.S (Kd.slice 5 (Kd.int .u8)) 22 w_ w.heap.size (fun k_ => (s8 1).lo ≤ k_ ∧ k_ < (s8 1).hi) (.slice (s8 1).A r3_0.length (s8 1).c) r10_1⟩⟩] false 4 rfl rfl (by kernel_rfl) rfl ((mf1 mf0)) ?aF ?nw HS14.out ?hs ?_
  rotate_left 2
  case aF => intro s; simp only [putE, EvT.val, Act.put, setIfInBounds_toArray, set_cons_zero, set_cons_succ]; rfl
  case nw => intro s; simp only [thA, bsA, List.nil_append, List.cons_append, List.append_nil, if_true, if_false, Nat.reduceLT, set_cons_zero, set_cons_succ]; rfl
  case hs => exact ⟨ld rfl 5 (fun s => rfl) (fun s w h => by have h0 := h 0 _ rfl; clear h; go_simp; try rfl), pu rfl, cw rfl 0 4 rfl rfl (fun s => #[.agg #[.slice (s8 1).A r3_0.length (s8 1).c], .int .i64 1]) Try.func38 (fun s w1 h => (laws_markMemory.calls (fun k_ => (s8 1).lo ≤ k_ ∧ k_ < (s8 1).hi) _ _ _ _ _ w _ h.hb (h.get 0 rfl) H10.out).mono (by rintro e w2 ⟨rfl, ho0, hb, hk⟩; exact ⟨rfl, Wrote.of 0 h rfl hb hk (fun w_ ha => S_again ho0 ha)⟩)), trivial⟩
  intro s15 w15 h; have HS15 := Aside0.mk h; clear h HS14
  refine tlP (v := .int .i64 r10_0) 14 rfl ?_
  refine tl0 ?_
  refine reg (aF := ?_) (nw := ?_) [evP 0 71 [] (fun s => .slice (s9 1).A r4_0.length (s9 1).c), evP 1 72 [] (fun s => .int .i64 r10_0), evW 2 (some 73) [] (fun s => .int .i64 r11_0)] [3] [⟨3, 2, [], fun s => ⟨(s9 1).lo, (s9 1).hi, fun w_ => Kd.R kimplLoan 30 w_ w.heap.size (fun k_ => (s9 1).lo ≤ k_ ∧ k_ < (s9 1).hi) (.slice (s9 1).A r4_0.length (s9 1).c) r11_1⟩⟩] false 4 rfl rfl (by kernel_rfl) rfl ((mf1 mf0)) ?aF ?nw HS15.out ?hs ?_
  rotate_left 2
  case aF => intro s; simp only [putE, EvT.val, Act.put, setIfInBounds_toArray, set_cons_zero, set_cons_succ]; rfl
  case nw => intro s; simp only [thA, bsA, List.nil_append, List.cons_append, List.append_nil, if_true, if_false, Nat.reduceLT, set_cons_zero, set_cons_succ]; rfl
  case hs => exact ⟨pu rfl, pu rfl, cw rfl 0 3 rfl rfl (fun s => #[.slice (s9 1).A r4_0.length (s9 1).c, .int .i64 r10_0]) Try.func39 (fun s w1 h => (laws_markLoanS.calls (fun k_ => (s9 1).lo ≤ k_ ∧ k_ < (s9 1).hi) _ _ _ _ _ w _ h.hb (h.get 0 rfl) H11.out).mono (by rintro e w2 ⟨rfl, ho0, hb, hk⟩; exact ⟨rfl, Wrote.of 0 h rfl hb hk (fun w_ ha => R_again ho0 ha)⟩)), trivial⟩
  intro s16 w16 h; have HS16 := Aside0.mk h; clear h HS15
  refine tlP (v := .int .i64 r11_0) 14 rfl ?_
  refine tl0 ?_
  refine wp_seq ?_
  refine reg0 (aF := ?_) [evP 0 74 [] (fun s => .int .i64 r11_0), evP 1 75 [] (fun s => .bool false), evP 2 76 [] (fun s => .bool false), evP 3 77 [] (fun s => .slice (s10 3).A r5_0.length (s10 3).c), evP 4 78 [] (fun s => .slice (s7 5).A r5_0.length (s7 5).c), evC 5 (some 79) [] (fun s x => .bool true) (fun s x => []), evP 6 80 [] (fun s => .bool false), evP 7 81 [] (fun s => .bool false), evP 8 82 [] (fun s => .bool false), evP 9 83 [] (fun s => .bool r5_1), evP 10 84 [] (fun s => .bool r5_1), evP 11 85 [] (fun s => .bool false), evP 12 86 [] (fun s => .bool false)] [] false 13 rfl rfl (by kernel_rfl) rfl (fun _ => rfl) ?aF HS16.out ?hs ?_
  rotate_left 1
  case aF => intro s; simp only [putE, EvT.val, Act.put, setIfInBounds_toArray, set_cons_zero, set_cons_succ]; rfl
  case hs => exact ⟨pu rfl, pb (q := .lss) Nb_r11_0 rfl, pu rfl, pu rfl, pu rfl, cl rfl (fun s => #[.slice (s10 3).A r5_0.length (s10 3).c, .slice (s7 5).A r5_0.length (s7 5).c]) Try.func49 (fun s w1 h => (laws_eqIntSS.calls _ _ _ _ _ _ _ _ _ (Kd.S_reads' (h.get 2 rfl)).2.2 (Kd.S_reads' (h.get 2 rfl)).2.1 (Kd.S_reads' (h.get 8 rfl)).2.2 (Kd.S_reads' (h.get 8 rfl)).2.1 H7.out).mono (by rintro e w2 ⟨rfl, hd⟩; exact fin0 hd.below)), pu rfl, pu rfl, pu rfl, pu rfl, pu rfl, pn Try.underlying4 rfl, pu rfl, trivial⟩
  intro s17 w17 h; have HS17 := Aside0.mk h; clear h HS16
  refine tl0 ?_
  refine wp_cond_false rfl ?_
  refine wp_skip ?_
  refine thN ?_
  refine reg0 (aF := ?_) [] [0] false 1 rfl rfl (by kernel_rfl) rfl (fun _ => rfl) ?aF HS17.out ?hs ?_
  rotate_left 1
  case aF => intro s; simp only [putE, EvT.val, Act.put, setIfInBounds_toArray, set_cons_zero, set_cons_succ]; rfl
  case hs => exact trivial
  intro s18 w18 h; have HS18 := Aside0.mk h; clear h HS17
  refine tlP (v := .int .i64 1) 15 rfl ?_
  refine tl0 ?_
  refine reg (aF := ?_) (nw := ?_) [evP 0 87 [] (fun s => .slice (s10 3).A r5_0.length (s10 3).c), evP 1 88 [] (fun s => .int .i64 1), evW 2 (some 89) [] (fun s => .int .i64 r12_0)] [3] [⟨2, 2, [], fun s => ⟨(s10 3).lo, (s10 3).hi, fun w_ => Kd.S (Kd.slice 3 (Kd.int .i64)) 66 w_ w.heap.size (fun k_ => (s10 3).lo ≤ k_ ∧ k_ < (s10 3).hi) (.slice (s10 3).A r5_0.length (s10 3).c) r12_1⟩⟩] false 4 rfl rfl (by kernel_rfl) rfl ((mf1 mf0)) ?aF ?nw HS18.out ?hs ?_
  rotate_left 2
  case aF => intro s; simp only [putE, EvT.val, Act.put, setIfInBounds_toArray, set_cons_zero, set_cons_succ]; rfl
  case nw => intro s; simp only [thA, bsA, List.nil_append, List.cons_append, List.append_nil, if_true, if_false, Nat.reduceLT, set_cons_zero, set_cons_succ]; rfl
  case hs => exact ⟨pu rfl, pu rfl, cw rfl 0 2 rfl rfl (fun s => #[.slice (s10 3).A r5_0.length (s10 3).c, .int .i64 1]) Try.func50 (fun s w1 h => (laws_markIntSS.calls (fun k_ => (s10 3).lo ≤ k_ ∧ k_ < (s10 3).hi) _ _ _ _ _ w _ h.hb (h.get 0 rfl) H12.out).mono (by rintro e w2 ⟨rfl, ho0, hb, hk⟩; exact ⟨rfl, Wrote.of 0 h rfl hb hk (fun w_ ha => S_again ho0 ha)⟩)), trivial⟩
  intro s19 w19 h; have HS19 := Aside0.mk h; clear h HS18
  refine tlP (v := .int .i64 r12_0) 15 rfl ?_
  refine tl0 ?_
  refine reg0 (aF := ?_) [] [0] false 1 rfl rfl (by kernel_rfl) rfl (fun _ => rfl) ?aF HS19.out ?hs ?_
  rotate_left 1
  case aF => intro s; simp only [putE, EvT.val, Act.put, setIfInBounds_toArray, set_cons_zero, set_cons_succ]; rfl
  case hs => exact trivial
  intro s20 w20 h; have HS20 := Aside0.mk h; clear h HS19
  refine tlP (v := .int .i64 1) 16 rfl ?_
  refine tl0 ?_
  refine reg0 (aF := ?_) [evP 0 90 [] (fun s => .slice (s10 3).A r5_0.length (s10 3).c), evP 1 91 [] (fun s => .int .i64 1), evC 2 (some 92) [] (fun s x => .int .i64 r12_0) (fun s x => [])] [3] false 4 rfl rfl (by kernel_rfl) rfl (fun _ => rfl) ?aF HS20.out ?hs ?_
  rotate_left 1
  case aF => intro s; simp only [putE, EvT.val, Act.put, setIfInBounds_toArray, set_cons_zero, set_cons_succ]; rfl
  case hs => exact ⟨pu rfl, pu rfl, cl rfl (fun s => #[.slice (s10 3).A r5_0.length (s10 3).c, .int .i64 1]) Try.func51 (fun s w1 h => by rw [show r5_0.length = r12_1.length from (Kd.S_reads' (h.get 2 rfl)).1]; exact (laws_heldIntSS.calls _ _ _ _ _ _ _ ((Kd.S_reads' (h.get 2 rfl)).1 ▸ (Kd.S_reads' (h.get 2 rfl)).2.2) ((Kd.S_reads' (h.get 2 rfl)).1 ▸ (Kd.S_reads' (h.get 2 rfl)).2.1) H13.out).mono (by rintro e w2 ⟨rfl, hd⟩; exact fin0 hd.below)), trivial⟩
  intro s21 w21 h; have HS21 := Aside0.mk h; clear h HS20
  refine tlP (v := .int .i64 r12_0) 16 rfl ?_
  refine tl0 ?_
  refine wp_seq ?_
  refine reg0 (aF := ?_) [evP 0 93 [] (fun s => .int .i64 r12_0), evP 1 94 [] (fun s => .bool false)] [] false 2 rfl rfl (by kernel_rfl) rfl (fun _ => rfl) ?aF HS21.out ?hs ?_
  rotate_left 1
  case aF => intro s; simp only [putE, EvT.val, Act.put, setIfInBounds_toArray, set_cons_zero, set_cons_succ]; rfl
  case hs => exact ⟨pu rfl, pb (q := .lss) Nb_r12_0 rfl, trivial⟩
  intro s22 w22 h; have HS22 := Aside0.mk h; clear h HS21
  refine tl0 ?_
  refine wp_cond_false rfl ?_
  refine wp_skip ?_
  refine thN ?_
  refine wp_seq ?_
  refine reg0 (aF := ?_) [evP 0 95 [] (fun s => .int .i64 r12_0), evP 1 96 [] (fun s => .int .i64 r12_0), evP 2 97 [] (fun s => .bool false)] [] false 3 rfl rfl (by kernel_rfl) rfl (fun _ => rfl) ?aF HS22.out ?hs ?_
  rotate_left 1
  case aF => intro s; simp only [putE, EvT.val, Act.put, setIfInBounds_toArray, set_cons_zero, set_cons_succ]; rfl
  case hs => exact ⟨pu rfl, pu rfl, pb (q := .neq) (bne_self_eq_false _) rfl, trivial⟩
  intro s23 w23 h; have HS23 := Aside0.mk h; clear h HS22
  refine tl0 ?_
  refine wp_cond_false rfl ?_
  refine wp_skip ?_
  refine thN ?_
  refine reg (aF := ?_) (nw := ?_) [evL 0 99 [] (fun s => .agg #[.slice A0_0 l0_0.length c0_0]), evC 1 (some 100) [] (fun s x => .agg #[.slice x.A r3_0.length x.c]) (fun s x => [rowS (Kd.slice 5 (Kd.int .u8)) 22 w x.lo x.hi x.A x.c r3_0]), evP 2 101 [] (fun s => .slice A1_0 l1_0.length c1_0), evC 3 (some 102) [] (fun s x => .slice x.A r4_0.length x.c) (fun s x => [rowR kimplLoan 30 w x.lo x.hi x.A x.c r4_0]), evP 4 103 [] (fun s => .int .i64 a2_0), evC 5 (some 104) [1, 3] (fun s x => .tuple #[.slice x.A r5_0.length x.c, .bool r5_1]) (fun s x => [rowS (Kd.slice 3 (Kd.int .i64)) 66 w x.lo x.hi x.A x.c r5_0]), evP 6 98 [5] (fun s => .tuple #[.slice (s 5).A r5_0.length (s 5).c, .bool r5_1]), evP 7 105 [5] (fun s => .slice (s 5).A r5_0.length (s 5).c), evP 8 106 [] (fun s => .bool r5_1), evP 9 17 [5] (fun s => .slice (s 5).A r5_0.length (s 5).c)] [10] [] false 11 rfl rfl (by kernel_rfl) rfl (mf0) ?aF ?nw HS23.out ?hs ?_
  rotate_left 2
  case aF => intro s; simp only [putE, EvT.val, Act.put, setIfInBounds_toArray, set_cons_zero, set_cons_succ]; rfl
  case nw => intro s; simp only [thA, bsA, List.nil_append, List.cons_append, List.append_nil, if_true, if_false, Nat.reduceLT, set_cons_zero, set_cons_succ]; rfl
  case hs => exact ⟨ld rfl 9 (fun s => rfl) (fun s w h => by have h0 := h 0 _ rfl; clear h; go_simp; try rfl), cl rfl (fun s => #[.agg #[.slice A0_0 l0_0.length c0_0]]) Try.func27 (fun s w1 h => (laws_toMemory.calls _ _ _ _ _ (Kd.C_below HR0_0.out h.hb) HC0_0.out H3.out).mono (by rintro e w2 ⟨v0_, rfl, ho0, hb⟩; obtain ⟨x, rfl, hx⟩ := fin_S ho0 hb h.hb.size; exact ⟨x, rfl, hx⟩)), pu rfl, cl rfl (fun s => #[.slice A1_0 l1_0.length c1_0]) Try.func28 (fun s w1 h => (laws_toLoanS.calls _ _ _ _ _ _ (Kd.C_below HR1_0.out h.hb) HC1_0.out H4.out).mono (by rintro e w2 ⟨v0_, rfl, ho0, hb⟩; obtain ⟨x, rfl, hx⟩ := fin_R ho0 hb h.hb.size; exact ⟨x, rfl, hx⟩)), pu rfl, cl rfl (fun s => #[.agg #[.slice (s 1).A r3_0.length (s 1).c], .slice (s 3).A r4_0.length (s 3).c, .int .i64 a2_0]) Try.func48 (fun s w1 h => (impl_LendersOf.calls _ _ _ _ _ _ _ _ _ _ _ (Kd.S_reads' (h.get 0 rfl)).2.2 (Kd.S_reads' (h.get 0 rfl)).2.1 (Kd.R_reads' (h.get 1 rfl)).2.2 (Kd.R_reads' (h.get 1 rfl)).2.1 H6.out).mono (by rintro e w2 ⟨v0_, rfl, ho0, hb⟩; obtain ⟨x, rfl, hx⟩ := fin_S ho0 hb h.hb.size; exact ⟨x, rfl, hx⟩)), pu rfl, pu rfl, pu rfl, pu rfl, trivial⟩
  intro s24 w24 h; have HS24 := Aside0.mk h; clear h HS23
  refine tlP (v := .bool r5_1) 18 rfl ?_
  refine tl0 ?_
  refine wp_seq ?_
  refine reg0 (aF := ?_) [evP 0 107 [] (fun s => .slice (s24 5).A r5_0.length (s24 5).c), evP 1 108 [] (fun s => .slice (s7 5).A r5_0.length (s7 5).c), evC 2 (some 109) [] (fun s x => .bool true) (fun s x => []), evP 3 110 [] (fun s => .bool false), evP 4 111 [] (fun s => .bool false), evP 5 112 [] (fun s => .bool r5_1), evP 6 113 [] (fun s => .bool r5_1), evP 7 114 [] (fun s => .bool false), evP 8 115 [] (fun s => .bool false)] [] false 9 rfl rfl (by kernel_rfl) rfl (fun _ => rfl) ?aF HS24.out ?hs ?_
  rotate_left 1
  case aF => intro s; simp only [putE, EvT.val, Act.put, setIfInBounds_toArray, set_cons_zero, set_cons_succ]; rfl
  case hs => exact ⟨pu rfl, pu rfl, cl rfl (fun s => #[.slice (s24 5).A r5_0.length (s24 5).c, .slice (s7 5).A r5_0.length (s7 5).c]) Try.func49 (fun s w1 h => (laws_eqIntSS.calls _ _ _ _ _ _ _ _ _ (Kd.S_reads' (h.get 2 rfl)).2.2 (Kd.S_reads' (h.get 2 rfl)).2.1 (Kd.S_reads' (h.get 11 rfl)).2.2 (Kd.S_reads' (h.get 11 rfl)).2.1 H7.out).mono (by rintro e w2 ⟨rfl, hd⟩; exact fin0 hd.below)), pu rfl, pu rfl, pu rfl, pu rfl, pn Try.underlying4 rfl, pu rfl, trivial⟩
  intro s25 w25 h; have HS25 := Aside0.mk h; clear h HS24
  refine tl0 ?_
  refine wp_cond_false rfl ?_
  refine wp_skip ?_
  refine thN ?_
  refine reg0 (aF := ?_) [] [0] false 1 rfl rfl (by kernel_rfl) rfl (fun _ => rfl) ?aF HS25.out ?hs ?_
  rotate_left 1
  case aF => intro s; simp only [putE, EvT.val, Act.put, setIfInBounds_toArray, set_cons_zero, set_cons_succ]; rfl
  case hs => exact trivial
  intro s26 w26 h; have HS26 := Aside0.mk h; clear h HS25
  refine tlP (v := .int .i64 1) 16 rfl ?_
  refine tl0 ?_
  refine reg0 (aF := ?_) [evP 0 116 [] (fun s => .slice (s10 3).A r5_0.length (s10 3).c), evP 1 117 [] (fun s => .int .i64 1), evC 2 (some 118) [] (fun s x => .int .i64 r12_0) (fun s x => [])] [3] false 4 rfl rfl (by kernel_rfl) rfl (fun _ => rfl) ?aF HS26.out ?hs ?_
  rotate_left 1
  case aF => intro s; simp only [putE, EvT.val, Act.put, setIfInBounds_toArray, set_cons_zero, set_cons_succ]; rfl
  case hs => exact ⟨pu rfl, pu rfl, cl rfl (fun s => #[.slice (s10 3).A r5_0.length (s10 3).c, .int .i64 1]) Try.func51 (fun s w1 h => by rw [show r5_0.length = r12_1.length from (Kd.S_reads' (h.get 5 rfl)).1]; exact (laws_heldIntSS.calls _ _ _ _ _ _ _ ((Kd.S_reads' (h.get 5 rfl)).1 ▸ (Kd.S_reads' (h.get 5 rfl)).2.2) ((Kd.S_reads' (h.get 5 rfl)).1 ▸ (Kd.S_reads' (h.get 5 rfl)).2.1) H13.out).mono (by rintro e w2 ⟨rfl, hd⟩; exact fin0 hd.below)), trivial⟩
  intro s27 w27 h; have HS27 := Aside0.mk h; clear h HS26
  refine tlP (v := .int .i64 r12_0) 16 rfl ?_
  refine tl0 ?_
  refine wp_seq ?_
  refine reg0 (aF := ?_) [evP 0 119 [] (fun s => .int .i64 r12_0), evP 1 120 [] (fun s => .bool false)] [] false 2 rfl rfl (by kernel_rfl) rfl (fun _ => rfl) ?aF HS27.out ?hs ?_
  rotate_left 1
  case aF => intro s; simp only [putE, EvT.val, Act.put, setIfInBounds_toArray, set_cons_zero, set_cons_succ]; rfl
  case hs => exact ⟨pu rfl, pb (q := .lss) Nb_r12_0 rfl, trivial⟩
  intro s28 w28 h; have HS28 := Aside0.mk h; clear h HS27
  refine tl0 ?_
  refine wp_cond_false rfl ?_
  refine wp_skip ?_
  refine thN ?_
  refine wp_seq ?_
  refine reg0 (aF := ?_) [evP 0 121 [] (fun s => .int .i64 r12_0), evP 1 122 [] (fun s => .int .i64 r12_0), evP 2 123 [] (fun s => .bool false)] [] false 3 rfl rfl (by kernel_rfl) rfl (fun _ => rfl) ?aF HS28.out ?hs ?_
  rotate_left 1
  case aF => intro s; simp only [putE, EvT.val, Act.put, setIfInBounds_toArray, set_cons_zero, set_cons_succ]; rfl
  case hs => exact ⟨pu rfl, pu rfl, pb (q := .neq) (bne_self_eq_false _) rfl, trivial⟩
  intro s29 w29 h; have HS29 := Aside0.mk h; clear h HS28
  refine tl0 ?_
  refine wp_cond_false rfl ?_
  refine wp_skip ?_
  refine thN ?_
  refine reg0 (aF := ?_) [] [0] false 1 rfl rfl (by kernel_rfl) rfl (fun _ => rfl) ?aF HS29.out ?hs ?_
  rotate_left 1
  case aF => intro s; simp only [putE, EvT.val, Act.put, setIfInBounds_toArray, set_cons_zero, set_cons_succ]; rfl
  case hs => exact trivial
  intro s30 w30 h; have HS30 := Aside0.mk h; clear h HS29
  refine tlP (v := .bool true) 6 rfl ?_
  refine tl0 ?_
  refine wp_ret ?_
  go_ret
  exact ⟨by first | rfl | simp, HS30.out.hb⟩
end Go.Proofs.Ytpbboooeahmgpaa.P


/- The law FnExactLendersOf. -/
namespace Go.Proofs.Ytpbboooeahmgpaa.P
open Go.RowKit Go.Proofs.YtpbboooeahmgpaaW.PrintWords Go.Proofs.YtpbboooeahmgpaaW.Mine
set_option linter.unusedVariables false
theorem FnExactLendersOf_walk (w : World) (cs0 : Array Value) (a0 : (List (List Int))) (hK0 : (Kd.slice 22 (Kd.slice 5 (Kd.int .u8))).K w a0 cs0.toList) (ok0 : (∀ y1 ∈ a0, (∀ y2 ∈ y1, (Lit.int .u8 y2).wf = true))) (A1 : Option Addr) (len1 cap1 : Nat) (a1 : (List SlawsLoan)) (hK1 : (Kd.slice 53 klawsLoan).K w a1 [.slice A1 len1 cap1]) (ok1 : (∀ y1 ∈ a1, (((Lit.int .i64 y1.f0.f0).wf = true ∧ (Lit.int .i64 y1.f0.f1).wf = true ∧ (Lit.int .i64 y1.f0.f2).wf = true ∧ (Lit.int .i64 y1.f0.f3).wf = true) ∧ True ∧ (Lit.int .i64 y1.f2).wf = true ∧ (Lit.int .i64 y1.f3).wf = true))) (a2 : Int) (w2 : (Lit.int .i64 a2).wf = true) :
    Calls Try.prog 9 #[.agg cs0, .slice A1 len1 cap1, .int .i64 a2] w fun e w' => e = .returned (.bool true) ∧ Below w.heap.size w w' := by
  obtain ⟨A0, c0, hcs0, hc0, hr0⟩ := hK0
  obtain rfl := agg_of hcs0
  obtain ⟨_, _, he1, hc1, hr1⟩ := hK1
  cases he1
  obtain ⟨r, hz, hh⟩ := szMemory_f a0 1048576 (by omega) (by omega) hr0.2.1 (C_inner_len hr0)
  rcases hh with ⟨hm, h5⟩ | rfl
  · have hz2 := szLoanS_f a1 r h5.1 (by omega) hr1.2.1
    by_cases hc2 : (a1.length : Int) ≤ r
    · rw [if_pos hc2] at hz2
      have hl1 : a1.length ≤ 1048576 := by omega
      have hwf : ∀ x ∈ a1.map loanOf, wfL x := by intro x hx; obtain ⟨y, hy, rfl⟩ := List.mem_map.1 hx; exact wf_i64 (ok1 y hy).1.2.1
      have h7 := lenders_ok a0 (a1.map loanOf) a2 hm
      have hl2 : (a1.map loanOf).length ≤ 1048576 := by rw [List.length_map]; exact hl1
      have hs1 := hm.2.2
      have hs2 := h7.2.2
      have hs3 := h7.1
      exact FnExactLendersOf_run A0 c0 a0 _ _ a1 a2 _ _ _ _ _ _ _ _ _ _ _ _ w hr0 hc0 hr1 hc1 hz.rounds hz2 (toMemory_f a0 hm) (toLoanS_f a1 hl1).rounds (specLenders_f a0 (a1.map loanOf) a2 hm hl2 hwf).rounds (implLenders_f a0 (a1.map loanOf) a2).rounds (eqIntSS_f (lenders a0 (a1.map loanOf) a2).1 (by omega) (fun x hx => by have := h7.2.1 x hx; omega)).rounds (eqM _ hm).rounds (eqLoanS_f _ (by omega)).rounds (markM _ hm) (markLs _ _ (by omega) (by omega)) (markIIs (lenders a0 (a1.map loanOf) a2).1 h7) (heldIntSS_f (lenders a0 (a1.map loanOf) a2).1 1 (by omega) (by omega) (by omega)).rounds (by omega) (by omega) (by omega) (by omega)
    · rw [if_neg hc2] at hz2
      exact FnExactLendersOf_run1 A0 c0 a0 _ _ a1 a2 _ _ w hr0 hc0 hr1 hc1 hz.rounds hz2 (by omega) (by omega)
  · exact FnExactLendersOf_run0 A0 c0 a0 _ _ a1 a2 _ w hr0 hc0 hr1 hc1 hz.rounds (by omega)
end Go.Proofs.Ytpbboooeahmgpaa.P


namespace Go.Proofs.Ytpbboooeahmgpaa.fnExactLendersOf
open Go.ChangeShapes Go.WideShapes Go.ChangeAt Go.RowKit Go.Proofs.YtpbboooeahmgpaaW.PrintWords Go.Proofs.YtpbboooeahmgpaaW.Mine Go.Proofs.Ytpbboooeahmgpaa.P
open Go.ChangeMaps (open_string shut_string)
set_option linter.unusedVariables false
theorem own : ownKnob Try.prog.godebug = none := by kernel_rfl
theorem laidOut : laidOutB Try.prog = true := by kernel_rfl
set_option maxRecDepth 100000 in
theorem lifted (os : Os) (started : os.Started) (H : Type) (enc : TypeId × Value → H) :
    ReturnsInHanded {} Try.checked os 9 .any (Rows.fnExactLendersOfSpec.pre6 enc Try.prog Try.f9 Rows.fnExactLendersOfRow.domain false) (Rows.fnExactLendersOfSpec.post enc Try.prog Try.f9 false true false false) := by
  refine returnsInHanded_of_change_sized (C := Try.checked) own started (by kernel_rfl) Try.func9
    (ChangeSpec.witness6 (enc := enc) (C := Try.checked) false ⟨#[], #[.agg #[.slice none 0 0], .slice none 0 0, .int .i64 0], []⟩ 8 (by kernel_rfl) (by kernel_rfl) (by kernel_rfl) (by kernel_rfl)) ?_
  intro W base args ds gs before hval0 hW hcnd hsz0 _
  have hval : ∀ (j : Nat) t v, Try.f9.params[j]? = some t → args[j]? = some v → Value.okWide Try.prog W .any base t v := hval0
  have hW' := hW
  obtain ⟨p, q, hA0, hV, rfl, hfz, hnd⟩ := hW
  have hA : DataW.TrodAll enc Try.prog W 0 (fun _ => true) true Try.f9.params.toList args.toList ds p := hA0
  rw [Try.params9] at hA hval
  obtain ⟨v0, vs0, d0, ds0, p0, q0, hargs, rfl, rfl, h0, r0⟩ := trodAll_cons hA
  obtain ⟨v1, vs1, d1, ds1, p1, q1, rfl, rfl, rfl, h1, r1⟩ := trodAll_cons r0
  obtain ⟨v2, vs2, d2, ds2, p2, q2, rfl, rfl, rfl, h2, r2⟩ := trodAll_cons r1
  obtain ⟨rfl, rfl, rfl⟩ := trodAll_nil r2
  obtain rfl : args = #[v0, v1, v2] := by cases args; simp_all
  obtain ⟨rfl, rfl⟩ := trodVars_none hV
  have k0 := h0
  have lt0 : ∀ x ∈ p0, x.block < W.heap.size := by obtain ⟨m, hm⟩ := k0; exact DataW.trod_lt m _ _ _ hm
  obtain ⟨cs0, rfl, _⟩ := okWide_struct Try.underlying49 (hval 0 49 v0 rfl rfl)
  obtain ⟨a0, hK0, ok0⟩ : ∃ a : (List (List Int)), (Kd.slice 22 (Kd.slice 5 (Kd.int .u8))).K W a cs0.toList ∧ (∀ y1 ∈ a, (∀ y2 ∈ y1, (Lit.int .u8 y2).wf = true)) := by obtain ⟨fuel, hf⟩ := h0; exact (ReadsK.struct Try.underlying49 (by kernel_rfl) (ReadsF.last rfl (ReadsK.slice Try.underlying24 (by kernel_rfl) (ReadsK.slice Try.underlying22 (by kernel_rfl) (ReadsK.int Try.underlying5))) (by kernel_rfl))) hf
  have k1 := h1
  have lt1 : ∀ x ∈ p1, x.block < W.heap.size := by obtain ⟨m, hm⟩ := k1; exact DataW.trod_lt m _ _ _ hm
  obtain ⟨A1, len1, cap1, rfl⟩ := okWide_slice Try.underlying50 (hval 1 50 v1 rfl rfl)
  obtain ⟨a1, hK1, ok1⟩ : ∃ a : (List SlawsLoan), (Kd.slice 53 klawsLoan).K W a [.slice A1 len1 cap1] ∧ (∀ y1 ∈ a, (((Lit.int .i64 y1.f0.f0).wf = true ∧ (Lit.int .i64 y1.f0.f1).wf = true ∧ (Lit.int .i64 y1.f0.f2).wf = true ∧ (Lit.int .i64 y1.f0.f3).wf = true) ∧ True ∧ (Lit.int .i64 y1.f2).wf = true ∧ (Lit.int .i64 y1.f3).wf = true)) := by obtain ⟨fuel, hf⟩ := h1; exact (ReadsK.slice Try.underlying50 (by kernel_rfl) (ReadsK.iso (ReadsK.struct Try.underlying53 (by kernel_rfl) (ReadsF.cons rfl (ReadsK.iso (ReadsK.struct Try.underlying51 (by kernel_rfl) (ReadsF.cons rfl (ReadsK.int Try.underlying3) (by kernel_rfl) (ReadsF.cons rfl (ReadsK.int Try.underlying3) (by kernel_rfl) (ReadsF.cons rfl (ReadsK.int Try.underlying3) (by kernel_rfl) (ReadsF.last rfl (ReadsK.int Try.underlying3) (by kernel_rfl)))))) (fun x : SlawsWindow => (x.f0, x.f1, x.f2, x.f3)) (fun a => (⟨a.1, a.2.1, a.2.2.1, a.2.2.2⟩ : SlawsWindow)) (fun _ => rfl)) (by kernel_rfl) (ReadsF.cons rfl (ReadsK.bool Try.underlying4) (by kernel_rfl) (ReadsF.cons rfl (ReadsK.int Try.underlying3) (by kernel_rfl) (ReadsF.last rfl (ReadsK.int Try.underlying3) (by kernel_rfl)))))) (fun x : SlawsLoan => (x.f0, x.f1, x.f2, x.f3)) (fun a => (⟨a.1, a.2.1, a.2.2.1, a.2.2.2⟩ : SlawsLoan)) (fun _ => rfl))) hf
  obtain ⟨a2, rfl, rfl, rfl, w2⟩ := open_int Try.underlying3 (hval 2 3 v2 rfl rfl) h2
  clear hA0 hval0 hsz0
  refine (FnExactLendersOf_walk W cs0 a0 hK0 ok0 A1 len1 cap1 a1 hK1 ok1 a2 w2).mono fun e W' ⟨he, bel⟩ => ?_
  subst he
  exact ⟨_, rfl, _, _, _, [], _, [], hW', trodAll_mk1 (shut_bool Try.underlying4 _), (trodAll_cons_mk (Below.trod laidOut (by kernel_rfl) (of_decide_eq_true (by kernel_rfl)) k0 bel lt0) (trodAll_cons_mk (Below.trod laidOut (by kernel_rfl) (of_decide_eq_true (by kernel_rfl)) k1 bel lt1) (trodAll_cons_mk (shut_int Try.underlying3 w2) trodAll_mk0))), rfl, bel.frame _, fun h => by cases h⟩
theorem over : Rows.fnExactLendersOfRow.holds Try.pinned (OpenSpec.ofChange Rows.fnExactLendersOfSpec) :=
  OpenClaim.holds_of_wide 9 Try.f9 rfl rfl rfl rfl rfl rfl rfl ⟨rfl, rfl, rfl, rfl, rfl⟩ rfl rfl rfl rfl rfl (by kernel_rfl) Try.func9 (by kernel_rfl)
    (of_decide_eq_true (by kernel_rfl)) (by unfold Func.isWrapper; first | (rw [if_pos (by decide +kernel)]; kernel_rfl) | (rw [if_neg (by decide +kernel)]; exact ⟨rfl, rfl⟩))
    (fun os started H enc _ => lifted os started H enc)
theorem proved : Rows.FnExactLendersOfSaid := over
end Go.Proofs.Ytpbboooeahmgpaa.fnExactLendersOf
namespace Go.Proofs.Ytpbboooeahmgpaa
theorem fnExactLendersOf_holds : Rows.FnExactLendersOfSaid := fnExactLendersOf.proved
#print axioms fnExactLendersOf_holds
end Go.Proofs.Ytpbboooeahmgpaa


