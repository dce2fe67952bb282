/- For all arguments, impl.RunClean answers what spec.RunClean answers, leaves its arguments alone, and shares nothing of what it returns.
   The row of the law FnExactRunClean, out of its walk. Conditions: none. -/
import Derived.Test.YtpbboooeahmgpaaQFnExactRunClean5
import Derived.Test.YtpbboooeahmgpaaRows
import Derived.WalkKit
import Derived.ProofKit
import Derived.OpenShut
import Derived.ShutString
import Derived.ChangeOld
import Derived.Below
import Derived.SizedLaws
/- RunClean and CanLend: what both sides come to. -/
namespace Go.Proofs.Ytpbboooeahmgpaa.P
open Go.RowKit Go.Proofs.YtpbboooeahmgpaaW.PrintWords Go.Proofs.YtpbboooeahmgpaaW.PrintMore
set_option linter.unusedVariables false
set_option linter.unusedSimpArgs false
theorem loansB_of {m : List (List Int)} {l : List SimplLoan} (h : loansB m l = true) : memB m = true ∧ (∀ x ∈ l, rangeL x) ∧ l.length ≤ 8 := by
  unfold loansB at h
  simp only [Bool.and_eq_true, decide_eq_true_eq, List.all_eq_true] at h
  exact ⟨h.1.1, fun x hx => rangeL_of h.1.1 (h.1.2 x hx), h.2⟩
/-- Up to which number the loans are clean together, the first ones known to be. -/
def runC : List SimplLoan → List SimplLoan → Nat
  | pre, [] => pre.length
  | pre, x :: r => if aloneB pre x = true then runC (pre ++ [x]) r else pre.length
theorem runC_spec (suf : List SimplLoan) : ∀ (pre : List SimplLoan), cleanB pre = true → pre.length ≤ runC pre suf ∧ runC pre suf ≤ pre.length + suf.length ∧ ∀ j, pre.length ≤ j → j ≤ pre.length + suf.length → cleanB ((pre ++ suf).take j) = decide (j ≤ runC pre suf) := by
  induction suf with
  | nil =>
    intro pre h
    refine ⟨Nat.le_refl _, Nat.le_refl _, fun j h1 h2 => ?_⟩
    have : j = pre.length := by simpa using Nat.le_antisymm h2 h1
    subst this
    simp [runC, h]
  | cons x r ih =>
    intro pre h
    unfold runC
    cases ha : aloneB pre x
    · rw [if_neg (by decide)]
      refine ⟨Nat.le_refl _, by simp, fun j h1 h2 => ?_⟩
      rcases Nat.eq_or_lt_of_le h1 with e | h3
      · subst e
        simp [h]
      · rw [decide_eq_false (by omega)]
        have e1 : (pre ++ x :: r).take j = (pre ++ [x]) ++ r.take (j - pre.length - 1) := by
          rw [List.take_append, List.take_of_length_le (by omega), show j - pre.length = (j - pre.length - 1) + 1 by omega, List.take_succ_cons]
          simp
        rw [e1]
        refine cleanB_pre _ _ ?_
        rw [cleanB_snoc, ha, Bool.and_false]
    · rw [if_pos rfl]
      have hc : cleanB (pre ++ [x]) = true := by rw [cleanB_snoc, h, ha]; rfl
      obtain ⟨h1, h2, h3⟩ := ih (pre ++ [x]) hc
      simp only [List.length_append, List.length_singleton] at h1 h2 h3
      refine ⟨by omega, by simp only [List.length_cons]; omega, fun j h4 h5 => ?_⟩
      simp only [List.length_cons] at h5
      rcases Nat.eq_or_lt_of_le h4 with e | h6
      · subst e
        rw [decide_eq_true (by omega)]
        simp [h]
      · have := h3 j (by omega) (by omega)
        simpa using this
theorem specRun_ev (suf : List SimplLoan) : ∀ (pre : List SimplLoan), pre.length + suf.length ≤ 1000 → (∀ y ∈ pre ++ suf, rangeL y) → Ev (fun k => spec_RunClean.l0 k (pre ++ suf) (pre.length : Int)) ((runC pre suf : Int), true) := by
  induction suf with
  | nil =>
    intro pre h1 h2
    refine Ev.step (fun k => ?_) (Ev.now _)
    simp only [spec_RunClean.l0]
    rw [if_neg (by simp)]
    rfl
  | cons x r ih =>
    intro pre h1 h2
    simp only [List.length_cons] at h1
    refine Ev.step (f := fun k => (spec_l10Alone.f k pre x.f0.f0 x.f0.f1 x.f0.f2 x.f0.f3 x.f1 x.f2 x.f3).bind fun t => if t = true then spec_RunClean.l0 k ((pre ++ [x]) ++ r) ((pre ++ [x]).length : Int) else some ((pre.length : Int), true)) (fun k => ?_) ?_
    · simp only [spec_RunClean.l0]
      rw [if_pos (by simp; omega), if_pos (by omega), if_pos (by simp; omega), rdL_mid, wrap_len (by omega)]
      simp
    · refine Ev.bind (alone_f pre x (h2 x (by simp)) (by omega) (fun y hy => h2 y (by simp [hy]))) ?_
      unfold runC
      cases aloneB pre x
      · exact Ev.now _
      · simp only [if_true]
        exact ih (pre ++ [x]) (by simp; omega) (by simpa using h2)
theorem implRun_ev (ls : List SimplLoan) (hr : ∀ y ∈ ls, rangeL y) (hn : ls.length ≤ 1000) : ∀ (d j : Nat), j ≤ ls.length → j = runC [] ls + d → Ev (fun k => impl_RunClean.l0 k ls (j : Int)) ((runC [] ls : Int), true) := by
  obtain ⟨_, h2, h3⟩ := runC_spec ls [] rfl
  simp only [List.length_nil, Nat.zero_add, List.nil_append] at h2 h3
  have hs : ∀ (j : Nat), j ≤ ls.length → ∀ k, impl_RunClean.l0 (k + 1) ls (j : Int) = (impl_areClean.f k (ls.take j)).bind fun t => if t = true then some ((j : Int), true) else impl_RunClean.l0 k ls (wrap64 ((j : Int) - 1)) := by
    intro j hj k
    simp only [impl_RunClean.l0]
    rw [if_pos (by omega), if_pos (by omega), Int.toNat_natCast]
  have hc : ∀ (j : Nat), j ≤ ls.length → Ev (fun k => impl_areClean.f k (ls.take j)) (decide (j ≤ runC [] ls)) := by
    intro j hj
    rw [← h3 j (by omega) hj]
    exact areClean_f _ (fun y hy => hr y (List.mem_of_mem_take hy)) (by simp; omega)
  intro d
  induction d with
  | zero =>
    intro j hj e
    refine Ev.step (hs j hj) (Ev.bind (hc j hj) ?_)
    rw [decide_eq_true (by omega)]
    simp only [if_true]
    rw [e]
    exact Ev.now _
  | succ d ih =>
    intro j hj e
    refine Ev.step (hs j hj) (Ev.bind (hc j hj) ?_)
    rw [decide_eq_false (by omega)]
    simp only [Bool.false_eq_true, if_false]
    rw [wrap_ok (by omega) (by omega), show (j : Int) - 1 = ((j - 1 : Nat) : Int) by omega]
    exact ih (j - 1) (by omega) (by omega)
def runClean (m : List (List Int)) (l : List SimplLoan) : Int × Bool := if loansB m l = true then ((runC [] l : Int), true) else (0, false)
theorem specRun_f (m : List (List Int)) (l : List SimplLoan) (hm : okM m) (hl : l.length ≤ 1048576) (hw : ∀ x ∈ l, wfL x) : Ev (fun k => spec_RunClean.f k m l) (runClean m l) := by
  refine Ev.bind (l10Loans_f m l hm (by omega) hw) ?_
  unfold runClean
  cases h : loansB m l
  · exact Ev.now _
  · simp only [if_true]
    obtain ⟨_, h1, h2⟩ := loansB_of h
    exact specRun_ev l [] (by simp; omega) (by simpa using h1)
theorem implRun_f (m : List (List Int)) (l : List SimplLoan) : Ev (fun k => impl_RunClean.f k m l) (runClean m l) := by
  unfold runClean impl_RunClean.f
  rw [areLoans_f]
  simp only [Option.bind_some]
  cases h : loansB m l
  · exact Ev.now _
  · simp only [if_true]
    obtain ⟨_, h1, h2⟩ := loansB_of h
    obtain ⟨_, h3, _⟩ := runC_spec l [] rfl
    exact implRun_ev l h1 (by omega) (l.length - runC [] l) l.length (Nat.le_refl _) (by simp at h3; omega)
theorem runClean_j (l1 : List SlawsLoan) (m : List (List Int)) (hm : okM m) (hl : l1.length ≤ 1048576) : Ev (fun k => laws_FnExactRunClean.j0 k l1 (l1.map loanOf) false m m) true := by
  refine Ev.step (f := fun k => (laws_toMemory.f m).bind fun t => (laws_eqMemory.f k m t).bind fun t2 => if t2 = true then (laws_toLoanS.f k l1).bind fun t3 => (laws_eqLoanS.f k (l1.map loanOf) t3).bind fun t4 => if t4 = true then some true else some false else some false) (fun k => ?_) ?_
  · simp only [laws_FnExactRunClean.j0]
    rw [if_neg (by decide)]
  · simp only [toMemory_f m hm, Option.bind_some]
    refine Ev.bind (eqMemory_f m hm.len hm.rows) ?_
    simp only [if_true]
    refine Ev.bind (toLoanS_f l1 hl) ?_
    refine Ev.bind (eqLoanS_f _ (by simp; omega)) ?_
    exact Ev.now _
theorem FnExactRunClean_ev (m : List (List Int)) (ls : List SlawsLoan) (hl : m.length ≤ 9223372036854775807) (h3 : ∀ x ∈ m, x.length ≤ 9223372036854775807) (hw : ls.length ≤ 9223372036854775807) (hwf : ∀ x ∈ ls, wfL (loanOf x)) :
    Ev (fun k => laws_FnExactRunClean.f k m ls) true := by
  obtain ⟨r, hr, hh⟩ := szMemory_f m 1048576 (by omega) (by omega) hl h3
  refine Ev.bind hr ?_
  rcases hh with ⟨hm, h5, h6⟩ | rfl
  · simp only [if_neg (show ¬ r < 0 by omega), szLoanS_f ls r h5 h6 hw, Option.bind_some]
    by_cases h7 : (ls.length : Int) ≤ r
    · simp only [if_pos h7, if_neg (show ¬ r - (ls.length : Int) < 0 by omega), toMemory_f m hm, Option.bind_some]
      have hn : ls.length ≤ 1048576 := by omega
      refine Ev.bind (toLoanS_f ls hn) ?_
      refine Ev.bind (specRun_f m (ls.map loanOf) hm (by simp; omega) (by intro x hx; obtain ⟨y, hy, rfl⟩ := List.mem_map.1 hx; exact hwf y hy)) ?_
      refine Ev.bind (toLoanS_f ls hn) ?_
      refine Ev.bind (implRun_f m (ls.map loanOf)) ?_
      simp only [if_true, bne_self_eq_false]
      exact runClean_j ls m hm hn
    · simp only [if_neg h7, if_pos (show (-1 : Int) < 0 by omega)]
      exact Ev.now _
  · simp only [if_pos (show (-1 : Int) < 0 by omega)]
    exact Ev.now _
/-! CanLend -/
end Go.Proofs.Ytpbboooeahmgpaa.P


/- From a row's reading of an argument to what the print's kinds say of it. -/
namespace Go.Proofs.YtpbboooeahmgpaaW.Mine
open Go.RowKit Go.Proofs.YtpbboooeahmgpaaW.PrintWords
set_option linter.unusedVariables false
/-- Whatever reads as data of type T is of the kind d, and ok. -/
def ReadsK {α : Type} (P : Program) (T : TypeId) (d : Kd α) (ok : α → Prop) : Prop :=
  ∀ {H : Type} {enc : TypeId × Value → H} {w : World} {base : Nat} {spare : Nat → Bool} {held : Bool} {fuel : Nat} {cs : List Value} {x : DataW H × List MemPlace}, DataW.trod enc P w base spare held fuel T cs = some x → ∃ a : α, d.K w a cs ∧ ok a
theorem ReadsK.int {P : Program} {T : TypeId} {k : IntKind} (hT : P.underlying T = some (.int k)) : ReadsK P T (Kd.int k) (fun n => (Lit.int k n).wf = true) := by
  intro H enc w base spare held fuel cs x h
  obtain ⟨n, rfl, _, hw⟩ := DataW.trod_int hT h
  exact ⟨n, rfl, hw⟩
theorem ReadsK.bool {P : Program} {T : TypeId} (hT : P.underlying T = some .bool) : ReadsK P T Kd.bool (fun _ => True) := by
  intro H enc w base spare held fuel cs x h
  obtain ⟨b, rfl, _⟩ := DataW.trod_bool hT h
  exact ⟨b, rfl, trivial⟩
theorem exists_list {α : Type} {n : Nat} {p : Nat → α → Prop} (h : ∀ i, i < n → ∃ a, p i a) : ∃ l : List α, l.length = n ∧ ∀ i a, l[i]? = some a → p i a := by
  induction n with
  | zero => exact ⟨[], rfl, fun i a hi => by simp at hi⟩
  | succ n ih =>
    obtain ⟨l, hl, hp⟩ := ih (fun i hi => h i (by omega))
    obtain ⟨a, ha⟩ := h n (by omega)
    refine ⟨l ++ [a], by simp [hl], fun i b hb => ?_⟩
    rcases Nat.lt_or_ge i n with hi | hi
    · rw [List.getElem?_append_left (by omega)] at hb
      exact hp i b hb
    · have hi2 : i = n := by
        have := (List.getElem?_eq_some_iff.1 hb).1
        simp [hl] at this
        omega
      subst hi2
      rw [← hl, List.getElem?_append_right (Nat.le_refl _)] at hb
      simp at hb
      rw [← hb]
      exact ha
theorem ReadsK.slice {α : Type} {P : Program} {T e : TypeId} {d : Kd α} {ok : α → Prop} (hT : P.underlying T = some (.slice e)) (hc : P.cellsOf e = d.sz) (h1 : ReadsK P e d ok) : ReadsK P T (Kd.slice e d) (fun xs => ∀ x ∈ xs, ok x) := by
  intro H enc w base spare held fuel cs x h
  rcases Deep.open_slice hT h with ⟨rfl, _⟩ | ⟨a, len, cap, m, n, D, Pl, rfl, hb, hl, hm, hmm, _, hx⟩
  · exact ⟨[], ⟨none, 0, rfl, Nat.le_refl _, rfl, by simp, fun h => absurd h (by simp)⟩, fun x hx => by simp at hx⟩
  · have hlm : len ≤ m := by rw [hmm]; split <;> omega
    obtain ⟨l, hll, hp⟩ := exists_list (n := len) (p := fun i y => ∃ cs', w.cells? base (a.add (i * P.cellsOf e)) (P.cellsOf e) = some cs' ∧ d.K w y cs' ∧ ok y) (fun i hi => by
      obtain ⟨cs', h2, h3⟩ := hx i (by omega)
      obtain ⟨y, hy, hok⟩ := h1 h3
      exact ⟨y, cs', h2, hy, hok⟩)
    refine ⟨l, ⟨some a, cap, by rw [hll], by omega, rfl, ?_, fun hn => ⟨a, rfl, fun j p hj => ?_⟩⟩, fun y hy => ?_⟩
    · rw [hll]; unfold maxLen at hm; omega
    · obtain ⟨cs', h2, h3, _⟩ := hp j p hj
      obtain ⟨_, hlen, hcell⟩ := World.cells?_some h2
      refine ⟨cs', by rw [hlen, hc], h3, fun i u hu => ?_⟩
      have hi : i < P.cellsOf e := by
        have := (List.getElem?_eq_some_iff.1 hu).1
        omega
      have h4 := hcell i hi
      rw [hu] at h4
      rw [← h4, ← hc]
      congr 1
      unfold Addr.add
      by_cases z1 : j * P.cellsOf e = 0 <;> by_cases z2 : i = 0 <;> simp [z1, z2, Nat.add_assoc]
    · obtain ⟨j, hj, rfl⟩ := List.mem_iff_getElem.1 hy
      obtain ⟨_, _, _, hok⟩ := hp j _ (List.getElem?_eq_getElem hj)
      exact hok
/-- The fields from offset o on. -/
def ReadsF {α : Type} (P : Program) (o : Nat) (fs : List Field) (d : Kd α) (ok : α → Prop) : Prop :=
  ∀ {H : Type} {enc : TypeId × Value → H} {w : World} {base : Nat} {spare : Nat → Bool} {held : Bool} {n : Nat} {cs : List Value}, (∀ f ∈ fs, ∃ x, DataW.trod enc P w base spare held n f.type ((cs.drop f.offset).take (P.cellsOf f.type)) = some x) → ∃ a : α, d.K w a ((cs.drop o).take d.sz) ∧ ok a
theorem ReadsF.last {α : Type} {P : Program} {o : Nat} {f : Field} {d : Kd α} {ok : α → Prop} (ho : f.offset = o) (h : ReadsK P f.type d ok) (hc : P.cellsOf f.type = d.sz) : ReadsF P o [f] d ok := by
  intro H enc w base spare held n cs hh
  obtain ⟨x, hx⟩ := hh f (by simp)
  rw [ho, hc] at hx
  exact h hx
theorem ReadsF.cons {α β : Type} {P : Program} {o : Nat} {f : Field} {fs : List Field} {d : Kd α} {d2 : Kd β} {ok : α → Prop} {ok2 : β → Prop} (ho : f.offset = o) (h : ReadsK P f.type d ok) (hc : P.cellsOf f.type = d.sz) (h2 : ReadsF P (o + d.sz) fs d2 ok2) : ReadsF P o (f :: fs) (Kd.pair d d2) (fun p => ok p.1 ∧ ok2 p.2) := by
  intro H enc w base spare held n cs hh
  obtain ⟨x, hx⟩ := hh f (by simp)
  rw [ho, hc] at hx
  obtain ⟨a, ha, hok⟩ := h hx
  obtain ⟨b, hb, hok2⟩ := h2 (fun g hg => hh g (by simp [hg]))
  refine ⟨(a, b), ⟨_, _, ?_, ha, hb⟩, hok, hok2⟩
  show (cs.drop o).take (d.sz + d2.sz) = _
  rw [List.take_add, List.drop_drop]
theorem ReadsK.struct {α : Type} {P : Program} {T : TypeId} {fs : Array Field} {d : Kd α} {ok : α → Prop} (hT : P.underlying T = some (.struct fs)) (hc : P.cellsOf T = d.sz) (h : ReadsF P 0 fs.toList d ok) : ReadsK P T d ok := by
  intro H enc w base spare held fuel cs x hx
  obtain ⟨xs, n, _, _, hl, hlen, hf⟩ := DataW.trod_struct hT hx
  obtain ⟨a, ha, hok⟩ := h (n := n) (cs := cs) (enc := enc) (w := w) (base := base) (spare := spare) (held := held) (fun f hf2 => by
    obtain ⟨i, hi, rfl⟩ := List.mem_iff_getElem.1 hf2
    have h1 := hf i fs[i] (by simp at hi; exact Array.getElem?_eq_getElem hi)
    have hi2 : i < xs.length := by simp at hi; omega
    rw [List.getElem?_eq_getElem hi2] at h1
    exact ⟨_, by simpa using h1⟩)
  refine ⟨a, ?_, hok⟩
  rwa [List.drop_zero, ← hc, ← hl, List.take_length] at ha
theorem ReadsK.iso {α β : Type} {P : Program} {T : TypeId} {d : Kd α} {ok : α → Prop} (h : ReadsK P T d ok) (f : β → α) (g : α → β) (hfg : ∀ a, f (g a) = a) : ReadsK P T (Kd.iso d f) (fun b => ok (f b)) := by
  intro H enc w base spare held fuel cs x hx
  obtain ⟨a, ha, hok⟩ := h hx
  refine ⟨g a, ?_, by show ok (f (g a)); rw [hfg]; exact hok⟩
  show d.K w (f (g a)) cs
  rw [hfg]
  exact ha
theorem agg_of {cs : Array Value} {L : List Value} (h : cs.toList = L) : cs = L.toArray := by rw [← h]
end Go.Proofs.YtpbboooeahmgpaaW.Mine


/- The law FnExactRunClean. -/
namespace Go.Proofs.Ytpbboooeahmgpaa.P
open Go.RowKit Go.Proofs.YtpbboooeahmgpaaW.PrintWords Go.Proofs.YtpbboooeahmgpaaW.Mine
set_option linter.unusedVariables false
theorem FnExactRunClean_walk (w : World) (cs0 : Array Value) (a0 : (List (List Int))) (hK0 : (Kd.slice 22 (Kd.slice 5 (Kd.int .u8))).K w a0 cs0.toList) (ok0 : (∀ y1 ∈ a0, (∀ y2 ∈ y1, (Lit.int .u8 y2).wf = true))) (A1 : Option Addr) (len1 cap1 : Nat) (a1 : (List SlawsLoan)) (hK1 : (Kd.slice 53 klawsLoan).K w a1 [.slice A1 len1 cap1]) (ok1 : (∀ y1 ∈ a1, (((Lit.int .i64 y1.f0.f0).wf = true ∧ (Lit.int .i64 y1.f0.f1).wf = true ∧ (Lit.int .i64 y1.f0.f2).wf = true ∧ (Lit.int .i64 y1.f0.f3).wf = true) ∧ True ∧ (Lit.int .i64 y1.f2).wf = true ∧ (Lit.int .i64 y1.f3).wf = true))) :
    Calls Try.prog 5 #[.agg cs0, .slice A1 len1 cap1] w fun e w' => e = .returned (.bool true) ∧ Below w.heap.size w w' := by
  obtain ⟨A0, c0, hcs0, hc0, hr0⟩ := hK0
  obtain rfl := agg_of hcs0
  obtain ⟨_, _, he1, hc1, hr1⟩ := hK1
  cases he1
  have hwf : ∀ x ∈ a1, wfL (loanOf x) := fun x hx => wf_i64 (ok1 x hx).1.2.1
  obtain ⟨k, hk⟩ := (FnExactRunClean_ev a0 a1 hr0.2.1 (C_inner_len hr0) hr1.2.1 hwf).rounds
  exact laws_FnExactRunClean.calls (hr0_0 := hr0) (hc0_0 := hc0) (hr1 := hr1) (hc1 := hc1) (h := hk)
end Go.Proofs.Ytpbboooeahmgpaa.P


namespace Go.Proofs.Ytpbboooeahmgpaa.fnExactRunClean
open Go.ChangeShapes Go.WideShapes Go.ChangeAt Go.RowKit Go.Proofs.YtpbboooeahmgpaaW.PrintWords Go.Proofs.YtpbboooeahmgpaaW.Mine Go.Proofs.Ytpbboooeahmgpaa.P
open Go.ChangeMaps (open_string shut_string)
set_option linter.unusedVariables false
theorem own : ownKnob Try.prog.godebug = none := by kernel_rfl
theorem laidOut : laidOutB Try.prog = true := by kernel_rfl
set_option maxRecDepth 100000 in
theorem lifted (os : Os) (started : os.Started) (H : Type) (enc : TypeId × Value → H) :
    ReturnsInHanded {} Try.checked os 5 .any (Rows.fnExactRunCleanSpec.pre6 enc Try.prog Try.f5 Rows.fnExactRunCleanRow.domain false) (Rows.fnExactRunCleanSpec.post enc Try.prog Try.f5 false true false false) := by
  refine returnsInHanded_of_change_sized (C := Try.checked) own started (by kernel_rfl) Try.func5
    (ChangeSpec.witness6 (enc := enc) (C := Try.checked) false ⟨#[], #[.agg #[.slice none 0 0], .slice none 0 0], []⟩ 8 (by kernel_rfl) (by kernel_rfl) (by kernel_rfl) (by kernel_rfl)) ?_
  intro W base args ds gs before hval0 hW hcnd hsz0 _
  have hval : ∀ (j : Nat) t v, Try.f5.params[j]? = some t → args[j]? = some v → Value.okWide Try.prog W .any base t v := hval0
  have hW' := hW
  obtain ⟨p, q, hA0, hV, rfl, hfz, hnd⟩ := hW
  have hA : DataW.TrodAll enc Try.prog W 0 (fun _ => true) true Try.f5.params.toList args.toList ds p := hA0
  rw [Try.params5] at hA hval
  obtain ⟨v0, vs0, d0, ds0, p0, q0, hargs, rfl, rfl, h0, r0⟩ := trodAll_cons hA
  obtain ⟨v1, vs1, d1, ds1, p1, q1, rfl, rfl, rfl, h1, r1⟩ := trodAll_cons r0
  obtain ⟨rfl, rfl, rfl⟩ := trodAll_nil r1
  obtain rfl : args = #[v0, v1] := by cases args; simp_all
  obtain ⟨rfl, rfl⟩ := trodVars_none hV
  have k0 := h0
  have lt0 : ∀ x ∈ p0, x.block < W.heap.size := by obtain ⟨m, hm⟩ := k0; exact DataW.trod_lt m _ _ _ hm
  obtain ⟨cs0, rfl, _⟩ := okWide_struct Try.underlying49 (hval 0 49 v0 rfl rfl)
  obtain ⟨a0, hK0, ok0⟩ : ∃ a : (List (List Int)), (Kd.slice 22 (Kd.slice 5 (Kd.int .u8))).K W a cs0.toList ∧ (∀ y1 ∈ a, (∀ y2 ∈ y1, (Lit.int .u8 y2).wf = true)) := by obtain ⟨fuel, hf⟩ := h0; exact (ReadsK.struct Try.underlying49 (by kernel_rfl) (ReadsF.last rfl (ReadsK.slice Try.underlying24 (by kernel_rfl) (ReadsK.slice Try.underlying22 (by kernel_rfl) (ReadsK.int Try.underlying5))) (by kernel_rfl))) hf
  have k1 := h1
  have lt1 : ∀ x ∈ p1, x.block < W.heap.size := by obtain ⟨m, hm⟩ := k1; exact DataW.trod_lt m _ _ _ hm
  obtain ⟨A1, len1, cap1, rfl⟩ := okWide_slice Try.underlying50 (hval 1 50 v1 rfl rfl)
  obtain ⟨a1, hK1, ok1⟩ : ∃ a : (List SlawsLoan), (Kd.slice 53 klawsLoan).K W a [.slice A1 len1 cap1] ∧ (∀ y1 ∈ a, (((Lit.int .i64 y1.f0.f0).wf = true ∧ (Lit.int .i64 y1.f0.f1).wf = true ∧ (Lit.int .i64 y1.f0.f2).wf = true ∧ (Lit.int .i64 y1.f0.f3).wf = true) ∧ True ∧ (Lit.int .i64 y1.f2).wf = true ∧ (Lit.int .i64 y1.f3).wf = true)) := by obtain ⟨fuel, hf⟩ := h1; exact (ReadsK.slice Try.underlying50 (by kernel_rfl) (ReadsK.iso (ReadsK.struct Try.underlying53 (by kernel_rfl) (ReadsF.cons rfl (ReadsK.iso (ReadsK.struct Try.underlying51 (by kernel_rfl) (ReadsF.cons rfl (ReadsK.int Try.underlying3) (by kernel_rfl) (ReadsF.cons rfl (ReadsK.int Try.underlying3) (by kernel_rfl) (ReadsF.cons rfl (ReadsK.int Try.underlying3) (by kernel_rfl) (ReadsF.last rfl (ReadsK.int Try.underlying3) (by kernel_rfl)))))) (fun x : SlawsWindow => (x.f0, x.f1, x.f2, x.f3)) (fun a => (⟨a.1, a.2.1, a.2.2.1, a.2.2.2⟩ : SlawsWindow)) (fun _ => rfl)) (by kernel_rfl) (ReadsF.cons rfl (ReadsK.bool Try.underlying4) (by kernel_rfl) (ReadsF.cons rfl (ReadsK.int Try.underlying3) (by kernel_rfl) (ReadsF.last rfl (ReadsK.int Try.underlying3) (by kernel_rfl)))))) (fun x : SlawsLoan => (x.f0, x.f1, x.f2, x.f3)) (fun a => (⟨a.1, a.2.1, a.2.2.1, a.2.2.2⟩ : SlawsLoan)) (fun _ => rfl))) hf
  clear hA0 hval0 hsz0
  refine (FnExactRunClean_walk W cs0 a0 hK0 ok0 A1 len1 cap1 a1 hK1 ok1).mono fun e W' ⟨he, bel⟩ => ?_
  subst he
  exact ⟨_, rfl, _, _, _, [], _, [], hW', trodAll_mk1 (shut_bool Try.underlying4 _), (trodAll_cons_mk (Below.trod laidOut (by kernel_rfl) (of_decide_eq_true (by kernel_rfl)) k0 bel lt0) (trodAll_cons_mk (Below.trod laidOut (by kernel_rfl) (of_decide_eq_true (by kernel_rfl)) k1 bel lt1) trodAll_mk0)), rfl, bel.frame _, fun h => by cases h⟩
theorem over : Rows.fnExactRunCleanRow.holds Try.pinned (OpenSpec.ofChange Rows.fnExactRunCleanSpec) :=
  OpenClaim.holds_of_wide 5 Try.f5 rfl rfl rfl rfl rfl rfl rfl ⟨rfl, rfl, rfl, rfl, rfl⟩ rfl rfl rfl rfl rfl (by kernel_rfl) Try.func5 (by kernel_rfl)
    (of_decide_eq_true (by kernel_rfl)) (by unfold Func.isWrapper; first | (rw [if_pos (by decide +kernel)]; kernel_rfl) | (rw [if_neg (by decide +kernel)]; exact ⟨rfl, rfl⟩))
    (fun os started H enc _ => lifted os started H enc)
theorem proved : Rows.FnExactRunCleanSaid := over
end Go.Proofs.Ytpbboooeahmgpaa.fnExactRunClean
namespace Go.Proofs.Ytpbboooeahmgpaa
theorem fnExactRunClean_holds : Rows.FnExactRunCleanSaid := fnExactRunClean.proved
#print axioms fnExactRunClean_holds
end Go.Proofs.Ytpbboooeahmgpaa


