/- Part 2 of the proof of the law FnExactGrowWindow: contracts of the functions that it reaches. -/
import Derived.Test.YtaieobidkmihkaaQFnExactGrowWindow1
/- How each kind of a region's operations is shown, and code between the regions. -/
namespace Go.Proofs.YtaieobidkmihkaaW.Mine
open Go.RowKit Go.Proofs.YtaieobidkmihkaaW.PrintWords Go.Proofs.YtaieobidkmihkaaW.PrintLast
set_option linter.unusedVariables false
set_option linter.unusedSimpArgs false
abbrev evP (i : Nat) (d : Tmp) (us : List Nat) (v : (Nat → Lt) → Value) : EvT := ⟨i, some d, us, fun s _ => v s, fun _ _ => [], 0, 9999, [], fun _ _ => []⟩
abbrev evL (i : Nat) (d : Tmp) (us : List Nat) (v : (Nat → Lt) → Value) : EvT := ⟨i, some d, us, fun s _ => v s, fun _ _ => [], 1, 9999, [], fun _ _ => []⟩
abbrev evR (i : Nat) (d : Tmp) (n : Nat) (v : (Nat → Lt) → Value) : EvT := ⟨i, some d, [], fun s _ => v s, fun _ _ => [], 3, 9999, [n], fun _ _ => []⟩
abbrev evB (i : Nat) (d : Tmp) (us : List Nat) (t : TypeId) (cs : (Nat → Lt) → Array Value) (j : Nat) (us2 : List Nat) (cs2 : (Nat → Lt) → Array Value) : EvT := ⟨i, some d, us, fun _ x => .pointer (some ⟨x.lo, 0, none⟩), fun s x => [boxT x.lo (cs s) t], 1, j, us2, fun s x => [boxT x.lo (cs2 s) t]⟩
abbrev evC (i : Nat) (d : Option Tmp) (us : List Nat) (v : (Nat → Lt) → Lt → Value) (t : (Nat → Lt) → Lt → List Th) : EvT := ⟨i, d, us, v, t, 1, 9999, us, t⟩
abbrev evM (i : Nat) (d : Option Tmp) (v : (Nat → Lt) → Lt → Value) (t : (Nat → Lt) → Lt → List Th) : EvT := ⟨i, d, [], v, t, 4, 9999, [], t⟩
abbrev evW (i : Nat) (d : Option Tmp) (us : List Nat) (v : (Nat → Lt) → Value) : EvT := ⟨i, d, us, fun s _ => v s, fun _ _ => [], 2, 9999, [], fun _ _ => []⟩
abbrev evS (i : Nat) : EvT := evW i none [] (fun _ => undef)
section
variable {P : Program} {ops : Array Oper} {evs : List EvT} {Q : Exit → Act → World → Prop} {W : World} {base : List Th} {mods : List Md} {aF : (Nat → Lt) → Act} {a0 : Act}
abbrev Sh (P : Program) (ops : Array Oper) (W : World) (base : List Th) (mods : List Md) (aF : (Nat → Lt) → Act) (evs : List EvT) (e : EvT) : Prop := e.Fit ∧ StepK P ops W base mods aF evs e
theorem pu {i : Nat} {d : Tmp} {us : List Nat} {v : (Nat → Lt) → Value} {o : Oper} (ho : ops.toList[i]? = some o) (hF : ∀ s, v (only us s) = v s := by intro s; rfl) (hw : ∀ s, Region.wanted o (yielded ops (aF s).tmps) = true := by intro s; rfl)
    (hr : ∀ s w, (execOp (aF s).eval o).run P w = .ok (.value (v s)) w := by intro s w; rfl) : Sh P ops W base mods aF evs (evP i d us v) :=
  ⟨fun s x => ⟨hF s, rfl, rfl⟩, ⟨o, by rw [← Array.getElem?_toList]; exact ho, fun _ _ => rfl, fun s => .inl ⟨hw s, hr s⟩⟩⟩
def cmpB : BinOp → Int → Int → Bool
  | .eql, x, y => x == y
  | .neq, x, y => x != y
  | .lss, x, y => decide (x < y)
  | .leq, x, y => decide (x ≤ y)
  | .gtr, x, y => decide (x > y)
  | .geq, x, y => decide (x ≥ y)
  | _, _, _ => false
def isCmp : BinOp → Bool
  | .eql | .neq | .lss | .leq | .gtr | .geq => true
  | _ => false
theorem run_cmp {o : Oper} {a : Act} {w : World} {q : BinOp} {x y : Operand} {T T2 : TypeId} {k : IntKind} {m n : Int} (hop : o.op = .binOp q T x y T2) (hq : isCmp q = true) (hx : a.eval x = .int k m) (hy : a.eval y = .int k n) : (execOp a.eval o).run P w = .ok (.value (.bool (cmpB q m n))) w := by
  unfold execOp
  rw [hop]
  simp only [hx, hy]
  cases q <;> first | (simp [isCmp] at hq; done) | (simp [eqGuard, binOp, Op.intCmp, cmpB])
theorem pb {i : Nat} {d : Tmp} {us : List Nat} {q : BinOp} {k : IntKind} {m n : Int} {b' : Bool} (hb : cmpB q m n = b') {o : Oper} {x y : Operand} {T T2 : TypeId} (ho : ops.toList[i]? = some o) (hop : o.op = .binOp q T x y T2 := by rfl) (hx : ∀ s, (aF s).eval x = .int k m := by intro s; rfl) (hy : ∀ s, (aF s).eval y = .int k n := by intro s; rfl) (hw : ∀ s, Region.wanted o (yielded ops (aF s).tmps) = true := by intro s; rfl) (hq : isCmp q = true := by rfl) : Sh P ops W base mods aF evs (evP i d us (fun _ => .bool b')) := by
  subst hb
  exact pu ho (fun _ => rfl) hw (fun s w => run_cmp hop hq (hx s) (hy s))
theorem run_neq_bool {o : Oper} {a : Act} {w : World} {x y : Operand} {T T2 : TypeId} {b c : Bool} (hop : o.op = .binOp .neq T x y T2) (hT : P.underlying T = some .bool) (hx : a.eval x = .bool b) (hy : a.eval y = .bool c) : (execOp a.eval o).run P w = .ok (.value (.bool (!(b == c)))) w := by
  unfold execOp
  rw [hop]
  simp only [hx, hy]
  go_simp
theorem pn {i : Nat} {d : Tmp} {us : List Nat} {o : Oper} {x y : Operand} {T T2 : TypeId} {c : Bool} (hT : P.underlying T = some .bool) (ho : ops.toList[i]? = some o) (hop : o.op = .binOp .neq T x y T2 := by rfl) (hx : ∀ s, (aF s).eval x = .bool c := by intro s; rfl) (hy : ∀ s, (aF s).eval y = .bool c := by intro s; rfl) (hw : ∀ s, Region.wanted o (yielded ops (aF s).tmps) = true := by intro s; rfl) : Sh P ops W base mods aF evs (evP i d us (fun _ => .bool false)) :=
  pu ho (fun _ => rfl) hw (fun s w => by rw [run_neq_bool hop hT (hx s) (hy s)]; simp)
theorem pf {i : Nat} {d : Tmp} {us : List Nat} {o : Oper} (ho : ops.toList[i]? = some o) (hw : ∀ s, Region.wanted o (yielded ops (aF s).tmps) = false := by intro s; rfl) : Sh P ops W base mods aF evs (evP i d us (fun _ => undef)) :=
  ⟨fun s x => ⟨rfl, rfl, rfl⟩, ⟨o, by rw [← Array.getElem?_toList]; exact ho, fun _ _ => rfl, fun s => .inr ⟨hw s, rfl⟩⟩⟩
theorem wanted_get {o : Oper} {a : Act} {w : World} {K : Act → World → Prop} {Q : Exit → Act → World → Prop} {u : Act} (hw : Region.wanted o (yielded ops a.tmps) = true) (h : Oper.wp P o a w K Q) : if Region.wanted o (yielded ops a.tmps) = true then Oper.wp P o a w K Q else K u w := by
  rw [if_pos hw]
  exact h
theorem ld {i : Nat} {d : Tmp} {us : List Nat} {v : (Nat → Lt) → Value} {o : Oper} (ho : ops.toList[i]? = some o) (n : Nat) {g : (Nat → Lt) → Nat} {cs : (Nat → Lt) → Array Value} {t : TypeId} (hth : ∀ s, (thU us s evs ++ base)[n]? = some (boxT (g s) (cs s) t))
    (hr : ∀ s w, (∀ j u, (cs s)[j]? = some u → w.cell? ⟨g s, j, none⟩ = some u) → (execOp (aF s).eval o).run P w = .ok (.value (v s)) w)
    (hd : o.dst = some d := by rfl) (hF : ∀ s, v (only us s) = v s := by intro s; rfl) (hw : ∀ s, Region.wanted o (yielded ops (aF s).tmps) = true := by intro s; rfl) : Sh P ops W base mods aF evs (evL i d us v) := by
  refine ⟨fun s x => ⟨hF s, rfl, rfl⟩, ⟨o, by rw [← Array.getElem?_toList]; exact ho, fun s w hst K hK => wanted_get (hw s) ?_⟩⟩
  have hb : bx (g s) (cs s) t w := hst.get n (hth s)
  unfold Oper.wp
  rw [hr s w (fun j u hj => by rw [blk_cell hb j]; exact hj)]
  show K ((aF s).put o.dst (v s)) w
  rw [hd]
  exact hK.out default w (Stk.nil w)
theorem lr {i : Nat} {d : Tmp} {v : (Nat → Lt) → Value} {o : Oper} (ho : ops.toList[i]? = some o) (n : Nat) {g : Nat} {cs : Array Value} {t : TypeId} (hth : base[n]? = some (boxT g cs t))
    (hr : ∀ s w, (∀ j u, cs[j]? = some u → w.cell? ⟨g, j, none⟩ = some u) → (execOp (aF s).eval o).run P w = .ok (.value (v s)) w)
    (hF : ∀ s, v (only [] s) = v s := by intro s; rfl) (hw : ∀ s, Region.wanted o (yielded ops (aF s).tmps) = true := by intro s; rfl) : Sh P ops W base mods aF evs (evR i d n v) :=
  ⟨fun s x => ⟨hF s, rfl, rfl⟩, ⟨o, by rw [← Array.getElem?_toList]; exact ho, fun _ _ => rfl, n, _, rfl, hth, fun s => ⟨hw s, fun w hb => hr s w (fun j u hj => by rw [blk_cell (show bx g cs t w from hb) j]; exact hj)⟩⟩⟩
theorem bv {i : Nat} {d : Tmp} {us us2 : List Nat} {t : TypeId} {cs cs2 : (Nat → Lt) → Array Value} {j : Nat} {o : Oper} (ho : ops.toList[i]? = some o) (hr : ∀ s w, (execOp (aF s).eval o).run P w = .ok (.value (.pointer (some ⟨w.heap.size, 0, none⟩))) (w.alloc (.cells (cs s) t (0, 0))))
    (hd : o.dst = some d := by rfl) (hF : ∀ s, cs (only us s) = cs s ∧ cs2 (only us2 s) = cs2 s := by intro s; exact ⟨rfl, rfl⟩) (hw : ∀ s, Region.wanted o (yielded ops (aF s).tmps) = true := by intro s; rfl) : Sh P ops W base mods aF evs (evB i d us t cs j us2 cs2) := by
  refine ⟨fun s x => ⟨rfl, by show [boxT x.lo (cs (only us s)) t] = _; rw [(hF s).1], by show [boxT x.lo (cs2 (only us2 s)) t] = _; rw [(hF s).2]⟩, ⟨o, by rw [← Array.getElem?_toList]; exact ho, fun s w hst K hK => wanted_get (hw s) ?_⟩⟩
  unfold Oper.wp
  rw [hr s w]
  show K ((aF s).put o.dst _) _
  rw [hd]
  exact hK.out ⟨w.heap.size, 0, none, 0, none, 0, none, 0⟩ _ ((Stk.nil w).box (below_alloc (Below.refl _ _) _) rfl (blk_new w _))
def puts (w : World) (g off : Nat) : List Value → World
  | [] => w
  | u :: r => puts (w.setCell ⟨g, off, none⟩ u) g (off + 1) r
def setAll (cs : Array Value) (off : Nat) : List Value → Array Value
  | [] => cs
  | u :: r => setAll (cs.setIfInBounds off u) (off + 1) r
theorem wrote_puts {g t : Nat} : ∀ (us : List Value) (off : Nat) (cs : Array Value) (w : World), w.heap[g]? = some (.cells cs t (0, 0)) → Wrote (boxT g cs t) (boxT g (setAll cs off us) t) w (puts w g off us)
  | [], off, cs, w, h => ⟨Below.refl _ _, Nat.le_refl _, fun _ _ _ => rfl, rfl, rfl, fun w' ha => (ha g (Nat.le_refl _) (Nat.lt_succ_self _)).trans h⟩
  | u :: r, off, cs, w, h => by
    have ih := wrote_puts r (off + 1) (cs.setIfInBounds off u) (w.setCell ⟨g, off, none⟩ u) (blk_set h off u)
    refine ⟨((Below.refl _ _).setCell (p := ⟨g, off, none⟩) (Nat.le_refl _) u).trans ih.hb, ?_, fun k hk hn => ?_, rfl, rfl, ih.is⟩
    · have h1 := ih.sz
      have h2 : (w.setCell ⟨g, off, none⟩ u).heap.size = w.heap.size := by simp [World.setCell]
      rw [h2] at h1
      exact h1
    · show (puts (w.setCell ⟨g, off, none⟩ u) g (off + 1) r).heap[k]? = _
      rw [ih.rest k (by simpa [World.setCell] using hk) hn]
      refine Below.heap_setCell w ⟨g, off, none⟩ u k (fun e => hn ?_)
      subst e
      exact ⟨Nat.le_refl _, Nat.lt_succ_self _⟩
theorem writes_of {o : Oper} {a : Act} {d : Option Tmp} {v : Value} {th th2 : Th} {w w' : World} (hw : Region.wanted o (yielded ops a.tmps) = true) (hd : o.dst = none) (hd2 : d = none) (hr : (execOp a.eval o).run P w = .ok .skip w') (h : Wrote th th2 w w') : Writes P ops a o d v th th2 w := by
  refine ⟨hw, fun K hK => ?_⟩
  unfold Oper.wp
  rw [hr]
  show K (a.put o.dst undef) w'
  rw [hd]
  have := hK.out w' h
  rw [hd2] at this
  exact this
theorem st {i : Nat} {o : Oper} (ho : ops.toList[i]? = some o) (q : Nat) (off : Nat) (us : (Nat → Lt) → List Value) {fi : Nat} {fd : Tmp} {fu fu2 : List Nat} {t : TypeId} {cs cs2 : (Nat → Lt) → Array Value} (hq : evs[q]? = some (evB fi fd fu t cs i fu2 cs2)) (hr : ∀ s w, (∀ j u, (cs s)[j]? = some u → w.cell? ⟨(s fi).lo, j, none⟩ = some u) → (∀ j, w.frozen? ⟨(s fi).lo, j, none⟩ = false) → (execOp (aF s).eval o).run P w = .ok .skip (puts w (s fi).lo off (us s)))
    (h2 : ∀ s, setAll (cs s) off (us s) = cs2 s := by intro s; rfl) (hd : o.dst = none := by rfl) (hw : ∀ s, Region.wanted o (yielded ops (aF s).tmps) = true := by intro s; rfl) : Sh P ops W base mods aF evs (evS i) := by
  refine ⟨fun s x => ⟨rfl, rfl, rfl⟩, ⟨o, by rw [← Array.getElem?_toList]; exact ho, fun _ _ => rfl, .inl ⟨q, _, hq, rfl, rfl, fun s => ⟨_, _, rfl, rfl, fun w hst => ?_⟩⟩⟩⟩
  have hb : bx (s fi).lo (cs s) t w := hst.get 0 rfl
  have h := wrote_puts (us s) off (cs s) w hb
  rw [h2 s] at h
  exact writes_of (hw s) hd rfl (hr s w (fun j u hj => by rw [blk_cell hb j]; exact hj) (fun j => blk_frozen hb j)) h
theorem sb {i : Nat} {o : Oper} (ho : ops.toList[i]? = some o) (q k : Nat) (off : Nat) (us : (Nat → Lt) → List Value) {g t : Nat} {um : List Nat} {cs : Array Value} {cs2 : (Nat → Lt) → Array Value} (hq : mods[q]? = some ⟨k, i, um, fun s => boxT g (cs2 s) t⟩) (hk : base[k]? = some (boxT g cs t)) (hr : ∀ s w, (∀ j u, cs[j]? = some u → w.cell? ⟨g, j, none⟩ = some u) → (∀ j, w.frozen? ⟨g, j, none⟩ = false) → (execOp (aF s).eval o).run P w = .ok .skip (puts w g off (us s)))
    (h2 : ∀ s, setAll cs off (us s) = cs2 s := by intro s; rfl) (hd : o.dst = none := by rfl) (hw : ∀ s, Region.wanted o (yielded ops (aF s).tmps) = true := by intro s; rfl) : Sh P ops W base mods aF evs (evS i) := by
  refine ⟨fun s x => ⟨rfl, rfl, rfl⟩, ⟨o, by rw [← Array.getElem?_toList]; exact ho, fun _ _ => rfl, .inr ⟨q, _, _, hq, rfl, hk, fun s w hst => ?_⟩⟩⟩
  have hb : bx g cs t w := hst.get (thU [] s evs).length (t := boxT g cs t) (by rw [List.getElem?_append_right (Nat.le_refl _), Nat.sub_self]; rfl)
  have h := wrote_puts (us s) off cs w hb
  rw [h2 s] at h
  exact writes_of (hw s) hd rfl (hr s w (fun j u hj => by rw [blk_cell hb j]; exact hj) (fun j => blk_frozen hb j)) h
theorem calls_wp {o : Oper} {a : Act} {w : World} {K : Act → World → Prop} {f : FuncId} {fn : Func} {ar : Array Operand} {ts : Array TypeId} {args : Array Value} {Q : Exit → Act → World → Prop} (hf : P.funcs[f]? = some fn) (hname : (fn.name == "runtime.NumGoroutine") = false) (hb : fn.body.isSome = true)
    (hop : o.op = .call { callee := .value (.func f), args := ar, argTypes := ts }) (hargs : ar.map a.eval = args) (h : Calls P f args w fun e w' => ∃ v, e = .returned v ∧ K (a.put o.dst v) w') : Oper.wp P o a w K Q := by
  have he := enters_ hf hname hb args w
  have hrun : (execOp a.eval o).run P w = .ok (.enter f args) w := by
    unfold execOp
    simp [hop, resolve, Deferred.ofValue, invoke, Act.eval, hargs, he]
  unfold Oper.wp
  rw [hrun, Oper.upon_enter]
  refine h.mono fun e w'' hh => ?_
  obtain ⟨v, rfl, hk⟩ := hh
  exact hk
theorem cl {i : Nat} {d : Option Tmp} {us : List Nat} {v : (Nat → Lt) → Lt → Value} {t : (Nat → Lt) → Lt → List Th} {o : Oper} {f : FuncId} {fn : Func} {ar : Array Operand} {ts : Array TypeId} (ho : ops.toList[i]? = some o) (args : (Nat → Lt) → Array Value) (hf : P.funcs[f]? = some fn)
    (h : ∀ s w, Stk W (thU us s evs ++ base) w → Calls P f (args s) w fun e w' => ∃ x, e = .returned (v s x) ∧ Stk w (t s x) w')
    (hop : o.op = .call { callee := .value (.func f), args := ar, argTypes := ts } := by rfl) (hd : o.dst = d := by rfl) (hname : (fn.name == "runtime.NumGoroutine") = false := by kernel_rfl) (hb : fn.body.isSome = true := by rfl)
    (hargs : ∀ s, ar.map (aF s).eval = args s := by intro s; simp only [List.map_toArray, List.map_cons, List.map_nil]; rfl) (hF : ∀ s x, v (only us s) x = v s x ∧ t (only us s) x = t s x := by intro s x; exact ⟨rfl, rfl⟩) (hw : ∀ s, Region.wanted o (yielded ops (aF s).tmps) = true := by intro s; rfl) : Sh P ops W base mods aF evs (evC i d us v t) := by
  refine ⟨fun s x => ⟨(hF s x).1, (hF s x).2, (hF s x).2⟩, ⟨o, by rw [← Array.getElem?_toList]; exact ho, fun s w hst K hK => wanted_get (hw s) ?_⟩⟩
  refine calls_wp hf hname hb hop (hargs s) ((h s w hst).mono ?_)
  rintro e w' ⟨x, rfl, hx⟩
  exact ⟨_, rfl, by rw [hd]; exact hK.out x w' hx⟩
theorem cw {i : Nat} {d : Option Tmp} {us : List Nat} {v : (Nat → Lt) → Value} {o : Oper} {f : FuncId} {fn : Func} {ar : Array Operand} {ts : Array TypeId} (ho : ops.toList[i]? = some o) (q k : Nat) {th : Th} {um : List Nat} {th2 : (Nat → Lt) → Th} (hq : mods[q]? = some ⟨k, i, um, th2⟩) (hk : base[k]? = some th) (args : (Nat → Lt) → Array Value) (hf : P.funcs[f]? = some fn)
    (h : ∀ s w, Stk W (thU us s evs ++ [th]) w → Calls P f (args s) w fun e w' => e = .returned (v s) ∧ Wrote th (th2 s) w w')
    (hop : o.op = .call { callee := .value (.func f), args := ar, argTypes := ts } := by rfl) (hd : o.dst = d := by rfl) (hname : (fn.name == "runtime.NumGoroutine") = false := by kernel_rfl) (hb : fn.body.isSome = true := by rfl)
    (hargs : ∀ s, ar.map (aF s).eval = args s := by intro s; simp only [List.map_toArray, List.map_cons, List.map_nil]; rfl) (hF : ∀ s, v (only us s) = v s := by intro s; rfl) (hw : ∀ s, Region.wanted o (yielded ops (aF s).tmps) = true := by intro s; rfl) : Sh P ops W base mods aF evs (evW i d us v) := by
  refine ⟨fun s x => ⟨hF s, rfl, rfl⟩, ⟨o, by rw [← Array.getElem?_toList]; exact ho, fun _ _ => rfl, .inr ⟨q, _, th, hq, rfl, hk, fun s w hst => ⟨hw s, fun K hK => ?_⟩⟩⟩⟩
  refine calls_wp hf hname hb hop (hargs s) ((h s w hst).mono ?_)
  rintro e w' ⟨rfl, hx⟩
  exact ⟨_, rfl, by rw [hd]; exact hK.out w' hx⟩
theorem Wrote.of {ts : List Th} {w w' : World} {lo hi : Nat} {p1 p2 : World → Prop} (n : Nat) (h : Stk W ts w) (hn : ts[n]? = some ⟨lo, hi, p1⟩) (hb : Below W.heap.size W w') (hk : Kept w w' (fun k => lo ≤ k ∧ k < hi)) (is : ∀ w'', Agree lo hi w' w'' → p2 w'') : Wrote ⟨lo, hi, p1⟩ ⟨lo, hi, p2⟩ w w' := by
  have hok := (h.all _ (List.mem_of_getElem? hn)).2
  refine ⟨⟨hb.os.trans h.hb.os.symm, hb.tape.trans h.hb.tape.symm, hb.output.trans h.hb.output.symm, hk.1, fun k hkl => hk.2 k (Nat.lt_of_lt_of_le hkl (Nat.le_trans hok.1 hok.2.1)) (fun e => absurd e.1 (Nat.not_le_of_lt hkl))⟩, hk.1, fun k h1 h2 => hk.2 k h1 h2, rfl, rfl, is⟩
theorem fin0 {v : Value} {w w' : World} (hb : Below w.heap.size w w') : ∃ x : Lt, Ending.returned v = .returned v ∧ Stk w [] w' := ⟨default, rfl, (Stk.nil w).below hb⟩
variable {α : Type} {kd : Kd α} {e : Nat} {w w' : World} {u : Value} {xs : List α}
theorem fin_S (ho : Kd.S kd e w' w.heap.size (fun _ => True) u xs) (hb : Below w.heap.size w w') (hW : W.heap.size ≤ w.heap.size) : ∃ x : Lt, u = .slice x.A xs.length x.c ∧ Stk w [rowS kd e W x.lo x.hi x.A x.c xs] w' := by
  obtain ⟨A, c, rfl⟩ := Kd.S_slice ho
  obtain ⟨lo, hi, h⟩ := (Stk.nil w).push hb (P := fun lo hi w_ => Kd.S kd e w_ W.heap.size (fun k => lo ≤ k ∧ k < hi) (.slice A xs.length c) xs) (fun w_ ha => S_held ho hW ha)
  exact ⟨⟨lo, hi, A, c, none, 0, none, 0⟩, rfl, h⟩
theorem fin_R (ho : kd.R e w' w.heap.size (fun _ => True) u xs) (hb : Below w.heap.size w w') (hW : W.heap.size ≤ w.heap.size) : ∃ x : Lt, u = .slice x.A xs.length x.c ∧ Stk w [rowR kd e W x.lo x.hi x.A x.c xs] w' := by
  obtain ⟨A, c, rfl⟩ := Kd.R_slice ho
  obtain ⟨lo, hi, h⟩ := (Stk.nil w).push hb (P := fun lo hi w_ => kd.R e w_ W.heap.size (fun k => lo ≤ k ∧ k < hi) (.slice A xs.length c) xs) (fun w_ ha => R_held ho hW ha)
  exact ⟨⟨lo, hi, A, c, none, 0, none, 0⟩, rfl, h⟩
theorem bm {β : Type} (kd : Kd β) (e : Nat) {i : Nat} {d : Tmp} {o : Oper} (ho : ops.toList[i]? = some o) (xs : (Nat → Lt) → List β) (inner : (Nat → Lt) → List Value)
    (hr : ∀ s w, (execOp (aF s).eval o).run P w = .ok (.value (.slice (some ⟨w.heap.size, 0, none⟩) (xs s).length (xs s).length)) (w.alloc (.cells (inner s).toArray e))) (hp : ∀ s w, Reps (kd.M w w.heap.size (fun _ => True)) kd.sz (xs s) (inner s))
    (hm : ∀ s, (xs s).length ≤ 9223372036854775807 := by intro s; simp) (hd : o.dst = some d := by rfl) (hF : ∀ s, xs (only [] s) = xs s := by intro s; rfl) (hw : ∀ s, Region.wanted o (yielded ops (aF s).tmps) = true := by intro s; rfl) :
    Sh P ops W base mods aF evs (evM i (some d) (fun s x => .slice x.A (xs s).length x.c) (fun s x => [rowR kd e W x.lo x.hi x.A x.c (xs s)])) := by
  refine ⟨fun s x => ⟨by show Value.slice _ (xs (only [] s)).length _ = _; rw [hF s], by show [rowR kd e W _ _ _ _ (xs (only [] s))] = _; rw [hF s], by show [rowR kd e W _ _ _ _ (xs (only [] s))] = _; rw [hF s]⟩, ⟨o, by rw [← Array.getElem?_toList]; exact ho, fun s w hst K hK => wanted_get (hw s) ?_⟩⟩
  have := Kd.R_lit_step kd (w0 := w) w.heap.size e (hw s) hd (xs := xs s) (inner := inner s) (ok := fun _ => True) (okp := fun _ => True) (Kc := K) (Q := fun _ _ _ => False) (hr s w) (hp s w) (fun _ _ => trivial) trivial (Below.refl _ _) (Nat.le_refl _) (hm s) ?_
  · rw [if_pos (hw s)] at this
    exact this
  intro v1 w1 h1 hb _ _
  obtain ⟨x, rfl, hx⟩ := fin_R h1 hb hst.hb.size
  rw [hd]
  exact hK.out x w1 hx
theorem run_arith {o : Oper} {a : Act} {w : World} {q : BinOp} {x y : Operand} {T T2 : TypeId} {k : IntKind} {m n r : Int} (hop : o.op = .binOp q T x y T2) (hx : a.eval x = .int k m) (hy : a.eval y = .int k n) (hq : (q = .add ∧ k.wrap (m + n) = r) ∨ (q = .sub ∧ k.wrap (m - n) = r) ∨ (q = .mul ∧ k.wrap (m * n) = r)) : (execOp a.eval o).run P w = .ok (.value (.int k r)) w := by
  unfold execOp
  rw [hop]
  simp only [hx, hy]
  rcases hq with ⟨rfl, rfl⟩ | ⟨rfl, rfl⟩ | ⟨rfl, rfl⟩ <;> simp [eqGuard, binOp, Op.intArith]
theorem pa {i : Nat} {d : Tmp} {us : List Nat} (q : BinOp) {k : IntKind} {m n r : Int} (hq : (q = .add ∧ k.wrap (m + n) = r) ∨ (q = .sub ∧ k.wrap (m - n) = r) ∨ (q = .mul ∧ k.wrap (m * n) = r)) {o : Oper} {x y : Operand} {T T2 : TypeId} (ho : ops.toList[i]? = some o) (hop : o.op = .binOp q T x y T2 := by rfl) (hx : ∀ s, (aF s).eval x = .int k m := by intro s; rfl) (hy : ∀ s, (aF s).eval y = .int k n := by intro s; rfl) (hw : ∀ s, Region.wanted o (yielded ops (aF s).tmps) = true := by intro s; rfl) : Sh P ops W base mods aF evs (evP i d us (fun _ => .int k r)) :=
  pu ho (fun _ => rfl) hw (fun s w => run_arith hop (hx s) (hy s) hq)
theorem i64_ok {n : Int} (h0 : -9223372036854775808 ≤ n) (h1 : n ≤ 9223372036854775807) : IntKind.i64.wrap n = n := by rw [IntKind.wrap_i64]; omega
theorem mf0 : ∀ x ∈ ([] : List Md), x.Fit := fun _ h => by cases h
theorem mf1 {x : Md} {r : List Md} (hr : ∀ y ∈ r, y.Fit) (h : x.Fit := by intro s; rfl) : ∀ y ∈ x :: r, y.Fit := fun y hy => by
  rcases List.mem_cons.1 hy with rfl | hy
  · exact h
  · exact hr y hy
variable {N : List (List Nat)} {a : Act} {y : Code}
theorem reg {id : Nat} (evs : List EvT) (tl : List Nat) (mods : List Md) (draw : Bool) (n : Nat) {nw : (Nat → Lt) → List Th} (hm : P.follows .mixedOrders = true) (hN : ntab ops = N) (hp : parOk ops N tl evs (mods.map mdj) = true) (hn : ops.size = n) (hmF : ∀ x ∈ mods, x.Fit)
    (haF : ∀ s, putE a0 s evs = aF s) (hnw : ∀ s, thA n s evs ++ bsA s mods base = nw s) (hst : Stk W base w) (hs : Steps P ops W base mods aF evs evs)
    (hend : ∀ s w, Stk W (nw s) w → wpOps P ops (Exit.then (y.wp P Q) Q) tl (aF s) w) : (Code.seq (Code.region id ops draw) y).wp P Q a0 w := by
  subst hn
  exact wp_seq (par_ evs tl mods draw hm hN hp hmF haF hst hs (fun s w h => hend s w (by rw [← hnw]; exact h)))
theorem reg0 {id : Nat} (evs : List EvT) (tl : List Nat) (draw : Bool) (n : Nat) (hm : P.follows .mixedOrders = true) (hN : ntab ops = N) (hp : parOk ops N tl evs [] = true) (hn : ops.size = n) (hnw : ∀ s, thA n s evs = [])
    (haF : ∀ s, putE a0 s evs = aF s) (hst : Stk W base w) (hs : Steps P ops W base [] aF evs evs)
    (hend : ∀ s w, Stk W base w → wpOps P ops (Exit.then (y.wp P Q) Q) tl (aF s) w) : (Code.seq (Code.region id ops draw) y).wp P Q a0 w := by
  subst hn
  exact wp_seq (par_ evs tl [] draw hm hN hp (fun _ h => by cases h) haF hst hs (fun s w h => hend s w (by rw [hnw] at h; exact h)))
theorem regL {id : Nat} (evs : List EvT) (tl : List Nat) (mods : List Md) (draw : Bool) (n : Nat) {nw : (Nat → Lt) → List Th} (hm : P.follows .mixedOrders = true) (hN : ntab ops = N) (hp : parOk ops N tl evs (mods.map mdj) = true) (hn : ops.size = n) (hmF : ∀ x ∈ mods, x.Fit)
    (haF : ∀ s, putE a0 s evs = aF s) (hnw : ∀ s, thA n s evs ++ bsA s mods base = nw s) (hst : Stk W base w) (hs : Steps P ops W base mods aF evs evs)
    (hend : ∀ s w, Stk W (nw s) w → wpOps P ops Q tl (aF s) w) : (Code.region id ops draw).wp P Q a0 w := by
  subst hn
  exact par_ evs tl mods draw hm hN hp hmF haF hst hs (fun s w h => hend s w (by rw [← hnw]; exact h))
theorem tlE (h : Q .normal a w) : wpOps P ops Q [] a w := h
theorem tl0 (h : y.wp P Q a w) : wpOps P ops (Exit.then (y.wp P Q) Q) [] a w := h
theorem tlP {i : Nat} {r : List Nat} {o : Oper} {v : Value} (d : Tmp) (ho : ops.toList[i]? = some o) (h : wpOps P ops Q r (a.put (some d) v) w) (hd : o.dst = some d := by rfl) (hw : Region.wanted o (yielded ops a.tmps) = true := by rfl) (hr : (execOp a.eval o).run P w = .ok (.value v) w := by rfl) : wpOps P ops Q (i :: r) a w := by
  rw [Array.getElem?_toList] at ho
  rw [wpOps_cons]
  unfold wpOp
  rw [ho]
  simp only
  rw [if_pos hw]
  refine .inl ?_
  unfold Oper.wp
  rw [hr]
  show wpOps P ops Q r (a.put o.dst v) w
  rw [hd]
  exact h
theorem thN {n : Act → World → Prop} (h : n a w) : Exit.then n Q .normal a w := h
end
end Go.Proofs.YtaieobidkmihkaaW.Mine


/- A row of a memory, written in place: words for what a window sees. -/
namespace Go.Proofs.YtaieobidkmihkaaW.Mine
open Go.RowKit Go.Proofs.YtaieobidkmihkaaW.PrintWords
set_option linter.unusedVariables false
theorem S_row {e2 e base n c g0 : Nat} {ok : Nat → Prop} {w : World} {m : List (List Int)} (h : Kd.S (Kd.slice e2 (Kd.int .u8)) e w base ok (.slice (some ⟨g0, 0, none⟩) n c) m) (i : Nat) (hi : i < m.length) (hp : 0 < (m.getD i []).length) :
    ∃ g cap cur, w.cell? ⟨g0, i, none⟩ = some (.slice (some ⟨g, 0, none⟩) (m.getD i []).length cap) ∧ base ≤ g ∧ ok g ∧ w.heap[g]? = some (.cells cur e2 (0, 0)) ∧ (m.getD i []).length ≤ cap ∧ cap ≤ maxLen ∧ cur.size = cap ∧ cur.toList.take (m.getD i []).length = (m.getD i []).map (fun x => Value.int .u8 x) ∧
      ∀ (w1 : World) (cur' : Array Value) (row' : List Int), Kept w w1 (fun k => k = g) → w1.heap[g]? = some (.cells cur' e2 (0, 0)) → cur'.size = cap → row'.length = (m.getD i []).length → cur'.toList.take (m.getD i []).length = row'.map (fun x => Value.int .u8 x) →
        Kd.S (Kd.slice e2 (Kd.int .u8)) e w1 base ok (.slice (some ⟨g0, 0, none⟩) n c) (m.set i row') := by
  have hn : n = m.length := (Kd.S_reads' h).1
  obtain ⟨v, hcell, hR, hk, hback⟩ := S_inner rfl h (i : Int) (by omega) (by omega)
  rw [Int.toNat_natCast] at hcell hR
  have hback' := @hback
  simp only [Int.toNat_natCast] at hback'
  have ho := Kd.own_of_R hR
  rcases ho.2 with ⟨_, h0⟩ | ⟨g, cap, cur, rfl, hb, hh, hle, hmax, hsz, htk⟩
  · omega
  · simp only [Nat.mul_one] at hsz htk
    refine ⟨g, cap, cur, hcell, hb, (hk g (by simp [Value.ownBlock])).1, hh, hle, hmax, hsz, htk, ?_⟩
    intro w1 cur' row' hK hh' hsz' hl' htk'
    refine hback' (w1 := w1) (ok1 := fun _ => True) (y := row') (hK.mono (fun k hk => by subst hk; rfl)) ?_
    refine Kd.R_of_own ⟨by rw [encs_length, Nat.mul_one], .inr ⟨g, cap, cur', by rw [hl'], hb, hh', by rw [hl']; exact hle, hmax, by rw [hsz', Nat.mul_one], ?_⟩⟩ (fun _ _ => trivial)
    rw [hl', Nat.mul_one, htk']
    rfl
theorem row_cell {w : World} {g e2 : Nat} {cur : Array Value} {row : List Int} (hh : w.heap[g]? = some (.cells cur e2 (0, 0))) (ht : cur.toList.take row.length = row.map (fun x => Value.int .u8 x)) (j : Nat) (hj : j < row.length) : w.cell? ⟨g, j, none⟩ = some (.int .u8 (row.getD j 0)) := by
  rw [blk_cell hh j]
  have h1 : (cur.toList.take row.length)[j]? = cur.toList[j]? := by rw [List.getElem?_take]; simp [hj]
  rw [ht] at h1
  rw [← Array.getElem?_toList, ← h1]
  simp [hj]
theorem row_take_set {row : List Int} {l : List Value} (ht : l.take row.length = row.map (fun x => Value.int .u8 x)) (j : Nat) (b : Int) : (l.set j (.int .u8 b)).take row.length = (row.set j b).map (fun x => Value.int .u8 x) := by
  rw [List.take_set, ht, List.map_set]
def RowAt (e2 e base lo hi n c g0 : Nat) (m : List (List Int)) (i g cap : Nat) (cur : Array Value) (row : List Int) (w : World) : Prop :=
  (lo ≤ g ∧ g < hi) ∧ w.heap[g]? = some (.cells cur e2 (0, 0)) ∧ row.length ≤ cap ∧ cap ≤ maxLen ∧ cur.size = cap ∧ cur.toList.take row.length = row.map (fun x => Value.int .u8 x) ∧
    ∀ (w1 : World) (cur' : Array Value) (row' : List Int), (∀ k, lo ≤ k → k < hi → k ≠ g → w1.heap[k]? = w.heap[k]?) → w1.heap[g]? = some (.cells cur' e2 (0, 0)) → cur'.size = cap → row'.length = row.length → cur'.toList.take row.length = row'.map (fun x => Value.int .u8 x) →
      Kd.S (Kd.slice e2 (Kd.int .u8)) e w1 base (fun k => lo ≤ k ∧ k < hi) (.slice (some ⟨g0, 0, none⟩) n c) (m.set i row')
section
variable {e2 e base lo hi n c g0 : Nat} {m : List (List Int)} {i g cap : Nat} {cur : Array Value} {row : List Int} {w w1 : World}
theorem RowAt.of (h : Kd.S (Kd.slice e2 (Kd.int .u8)) e w base (fun k => lo ≤ k ∧ k < hi) (.slice (some ⟨g0, 0, none⟩) n c) m) (hi' : i < m.length) (hr : m.getD i [] = row) (hp : 0 < row.length) :
    ∃ g cap cur, w.cell? ⟨g0, i, none⟩ = some (.slice (some ⟨g, 0, none⟩) row.length cap) ∧ RowAt e2 e base lo hi n c g0 m i g cap cur row w := by
  subst hr
  obtain ⟨g, cap, cur, h1, h2, h3, h4, h5, h6, h7, h8, h9⟩ := S_row h i hi' hp
  refine ⟨g, cap, cur, h1, h3, h4, h5, h6, h7, h8, ?_⟩
  intro w1 cur' row' hk hh hs hl ht
  have hS := h9 (w.setRow g cur') cur' row' ⟨by simp [World.setRow], fun k _ hn => setRow_other w g k cur' hn⟩ (setRow_heap w g _ _ _ _ h4) hs hl ht
  refine Kd.S_move hS (fun k hk' => ?_)
  by_cases hg : k = g
  · subst hg
    exact hh.trans (setRow_heap w k _ _ _ _ h4).symm
  · rw [setRow_other w g k cur' hg]
    exact hk k hk'.1 hk'.2 hg
theorem RowAt.agree (h : RowAt e2 e base lo hi n c g0 m i g cap cur row w) (ha : Agree lo hi w w1) : RowAt e2 e base lo hi n c g0 m i g cap cur row w1 := by
  obtain ⟨h1, h2, h3, h4, h5, h6, h7⟩ := h
  exact ⟨h1, (ha g h1.1 h1.2).trans h2, h3, h4, h5, h6, fun w2 cur' row' hk => h7 w2 cur' row' (fun k hl hh hn => (hk k hl hh hn).trans (ha k hl hh))⟩
theorem RowAt.close (h : RowAt e2 e base lo hi n c g0 m i g cap cur row w) : Kd.S (Kd.slice e2 (Kd.int .u8)) e w base (fun k => lo ≤ k ∧ k < hi) (.slice (some ⟨g0, 0, none⟩) n c) (m.set i row) := by
  obtain ⟨h1, h2, h3, h4, h5, h6, h7⟩ := h
  exact h7 w cur row (fun _ _ _ _ => rfl) h2 h5 rfl h6
theorem RowAt.write (h : RowAt e2 e base lo hi n c g0 m i g cap cur row w) {cur' : Array Value} {row' : List Int} (hk : ∀ k, k ≠ g → w1.heap[k]? = w.heap[k]?) (hh : w1.heap[g]? = some (.cells cur' e2 (0, 0))) (hs : cur'.size = cur.size) (hl : row'.length = row.length) (ht : cur'.toList.take row.length = row'.map (fun x => Value.int .u8 x)) :
    RowAt e2 e base lo hi n c g0 m i g cap cur' row' w1 := by
  obtain ⟨h1, h2, h3, h4, h5, h6, h7⟩ := h
  refine ⟨h1, hh, by omega, h4, by omega, by rw [hl]; exact ht, fun w2 cur2 row2 hk2 hh2 hs2 hl2 ht2 => h7 w2 cur2 row2 (fun k hlo hhi hn => (hk2 k hlo hhi hn).trans (hk k hn)) hh2 hs2 (by omega) (by rw [← hl]; exact ht2)⟩
theorem RowAt.put (h : RowAt e2 e base lo hi n c g0 m i g cap cur row w) (j : Nat) (b : Int) : RowAt e2 e base lo hi n c g0 m i g cap (cur.setIfInBounds j (.int .u8 b)) (row.set j b) (w.setCell ⟨g, j, none⟩ (.int .u8 b)) := by
  refine h.write (fun k hn => Below.heap_setCell w ⟨g, j, none⟩ _ k hn) (blk_set h.2.1 j _) (by simp) (by simp) ?_
  rw [Array.toList_setIfInBounds]
  exact row_take_set h.2.2.2.2.2.1 j b
theorem RowAt.cell (h : RowAt e2 e base lo hi n c g0 m i g cap cur row w) (j : Nat) (hj : j < row.length) : w.cell? ⟨g, j, none⟩ = some (.int .u8 (row.getD j 0)) := row_cell h.2.1 h.2.2.2.2.2.1 j hj
end
end Go.Proofs.YtaieobidkmihkaaW.Mine


-- PRINTED BY print.sh 35421559b90ae4d0a3588c463048766b98c2df88dd9212a6774a882060cdf62d: not written by this session
namespace Go.Proofs.YtaieobidkmihkaaW.PrintLast
open Go.Proofs.YtaieobidkmihkaaW.PrintWords (Aside0)
def needsOf (md : Region.Mode) (o : Oper) : List Nat := (o.after.toList.filter (fun e => Region.binds md e)).map (fun e => e.on)
def clashOf (md : Region.Mode) (ops : Array Oper) (i : Nat) (oi : Oper) : List Nat := (List.range ops.size).filter fun j => !(j == i) && match ops[j]? with
  | some oj => !(oj.after.any (fun e => Region.binds md e && e.on == i) || oi.apart ops oj)
  | none => false
def rtab (md : Region.Mode) (ops : Array Oper) : Bool × List (List Nat × List Nat) := (Region.noSelect ops, (List.range ops.size).map fun i => match ops[i]? with
  | some o => (needsOf md o, clashOf md ops i o)
  | none => ([], []))
def readyAt (T : List (List Nat × List Nat)) (l : List Bool) (i : Nat) : Bool := !l.getD i true && match T[i]? with
  | some r => r.1.all (fun j => l.getD j false)
  | none => false
def readyT (T : List (List Nat × List Nat)) (l : List Bool) : List Nat := (List.range T.length).filter (readyAt T l)
def freeT (T : List (List Nat × List Nat)) (l : List Bool) (i : Nat) : Bool := match T[i]? with
  | some r => r.2.all (fun j => l.getD j true)
  | none => false
def closedT (T : List (List Nat × List Nat)) (l : List Bool) : Bool := (List.range T.length).all fun j => !l.getD j false || match T[j]? with
  | some r => r.1.all (fun k => l.getD k false)
  | none => true
def reachT (T : List (List Nat × List Nat)) (i : Nat) : Nat → Nat → Bool
  | 0, _ => false
  | fuel + 1, d => match T[d]? with
    | some r => r.1.any fun j => j == i || reachT T i fuel j
    | none => false
def lastT (T : List (List Nat × List Nat)) (l : List Bool) (ds : List Nat) (i : Nat) : Bool := ds.all fun d => l.getD d true || reachT T i T.length d
section
variable {md : Region.Mode} {ops : Array Oper} {T : Bool × List (List Nat × List Nat)} {l l' li lj lk : Array Bool} {ds : List Nat} {i j k : Nat}
theorem gd (l : Array Bool) (j : Nat) (b : Bool) : l.getD j b = l.toList.getD j b := by simp [Array.getD_eq_getD_getElem?, List.getD_eq_getElem?_getD]
theorem needs_all (o : Oper) (p : Nat → Bool) : o.after.all (fun e => !Region.binds md e || p e.on) = (needsOf md o).all p := by
  unfold needsOf
  rw [← Array.all_toList]
  induction o.after.toList with
  | nil => rfl
  | cons e r ih =>
    rw [List.all_cons, ih, List.filter_cons]
    cases h : Region.binds md e <;> simp
theorem needs_any (o : Oper) (p : Nat → Bool) : o.after.any (fun e => Region.binds md e && p e.on) = (needsOf md o).any p := by
  unfold needsOf
  rw [← Array.any_toList]
  induction o.after.toList with
  | nil => rfl
  | cons e r ih =>
    rw [List.any_cons, ih, List.filter_cons]
    cases h : Region.binds md e <;> simp
theorem rtab_length : (rtab md ops).2.length = ops.size := by simp [rtab]
theorem rtab_some {o : Oper} (h : ops[i]? = some o) : (rtab md ops).2[i]? = some (needsOf md o, clashOf md ops i o) := by
  have hi := (Array.getElem?_eq_some_iff.1 h).1
  unfold rtab
  rw [List.getElem?_map, List.getElem?_range hi, Option.map_some, h]
theorem rtab_none (h : ops[i]? = none) : (rtab md ops).2[i]? = none := by
  have hi : ops.size ≤ i := Array.getElem?_eq_none_iff.1 h
  exact List.getElem?_eq_none (by rw [rtab_length]; exact hi)
theorem readyAt_eq : readyAt (rtab md ops).2 l.toList i = (!l.getD i true && ((ops[i]?).map (·.after.all fun e => !Region.binds md e || l.getD e.on false)).getD false) := by
  unfold readyAt
  rw [gd]
  cases h : ops[i]? with
  | none => rw [rtab_none h]; rfl
  | some o =>
    rw [rtab_some h]
    simp only [Option.map_some, Option.getD_some]
    rw [← needs_all]
    simp only [gd]
theorem ready_eq : Region.ready md ops l = readyT (rtab md ops).2 l.toList := by
  unfold Region.ready readyT
  rw [rtab_length]
  refine List.filter_congr (fun i _ => ?_)
  rw [readyAt_eq]
theorem free_eq : Region.free md ops l i = freeT (rtab md ops).2 l.toList i := by
  unfold Region.free freeT
  cases h : ops[i]? with
  | none => rw [rtab_none h]
  | some oi =>
    rw [rtab_some h]
    simp only [clashOf]
    rw [List.all_filter]
    congr 1
    funext j
    rw [gd]
    cases hj : ops[j]? with
    | none => cases (j == i) <;> cases (l.toList.getD j true) <;> simp
    | some oj =>
      cases (j == i) <;> cases (l.toList.getD j true) <;> cases (oj.after.any (fun e => Region.binds md e && e.on == i) || oi.apart ops oj) <;> simp_all
theorem closed_eq : Region.closedB md ops l = closedT (rtab md ops).2 l.toList := by
  unfold Region.closedB closedT
  rw [rtab_length]
  congr 1
  funext j
  rw [gd]
  cases h : ops[j]? with
  | none => rw [rtab_none h]
  | some o =>
    rw [rtab_some h]
    simp only
    rw [← needs_all]
    simp only [gd]
theorem reach_eq : ∀ (fuel d : Nat), Region.reachB md ops i fuel d = reachT (rtab md ops).2 i fuel d
  | 0, _ => rfl
  | fuel + 1, d => by
    unfold Region.reachB reachT
    cases h : ops[d]? with
    | none => rw [rtab_none h]
    | some o =>
      rw [rtab_some h]
      simp only
      rw [← needs_any]
      congr 1
      funext e
      rw [reach_eq fuel]
theorem last_eq : Region.lastB md ops l ds i = lastT (rtab md ops).2 l.toList ds i := by
  unfold Region.lastB lastT
  rw [rtab_length]
  congr 1
  funext d
  rw [gd, reach_eq]
theorem readyAt_mem (h : readyAt T.2 l.toList i = true) (hT : rtab md ops = T) : (Region.ready md ops l).contains i = true := by
  subst hT
  rw [ready_eq]
  unfold readyT
  rw [List.contains_iff_mem, List.mem_filter, List.mem_range]
  refine ⟨?_, h⟩
  unfold readyAt at h
  rw [Bool.and_eq_true] at h
  cases hq : (rtab md ops).2[i]? with
  | none => rw [hq] at h; simp at h
  | some r => exact (List.getElem?_eq_some_iff.1 hq).1
theorem set_of (h : (l.toList.set i true == l'.toList) = true) : (l.setIfInBounds i true == l') = true := by
  rw [beq_iff_eq] at h ⊢
  apply Array.ext'
  rw [Array.toList_setIfInBounds]
  exact h
def anyT (T : Bool × List (List Nat × List Nat)) (l l' : List Bool) (i : Nat) : Bool := T.1 && freeT T.2 l i && readyAt T.2 l i && (l.set i true == l')
theorem any_of (hT : rtab md ops = T) (h : anyT T l.toList l'.toList i = true) : anyB md ops l l' i = true := by
  simp only [anyT, Bool.and_eq_true] at h
  obtain ⟨⟨⟨h1, h2⟩, h3⟩, h4⟩ := h
  have h5 := readyAt_mem h3 hT
  have h6 := set_of h4
  subst hT
  simp only [anyB, Bool.and_eq_true]
  exact ⟨⟨⟨h1, by rw [free_eq]; exact h2⟩, h5⟩, h6⟩
def takeT (T : Bool × List (List Nat × List Nat)) (ds : List Nat) (l l' : List Bool) (i : Nat) : Bool := T.1 && freeT T.2 l i && readyAt T.2 l i && closedT T.2 l && lastT T.2 l ds i && (l.set i true == l')
theorem take_of (hT : rtab md ops = T) (h : takeT T ds l.toList l'.toList i = true) : takeB md ops ds l l' i = true := by
  simp only [takeT, Bool.and_eq_true] at h
  obtain ⟨⟨⟨⟨⟨h1, h2⟩, h3⟩, h4⟩, h5⟩, h6⟩ := h
  have h7 := readyAt_mem h3 hT
  have h8 := set_of h6
  subst hT
  simp only [takeB, Bool.and_eq_true]
  exact ⟨⟨⟨⟨⟨h1, by rw [free_eq]; exact h2⟩, h7⟩, by rw [closed_eq]; exact h4⟩, by rw [last_eq]; exact h5⟩, h8⟩
theorem one_of (hT : rtab md ops = T) (h : (readyT T.2 l.toList == [i] && l.toList.set i true == l'.toList) = true) : readyB md ops l l' i = true := by
  simp only [Bool.and_eq_true] at h
  obtain ⟨h1, h2⟩ := h
  subst hT
  simp only [readyB, Bool.and_eq_true]
  exact ⟨by rw [ready_eq]; exact h1, set_of h2⟩
theorem done_of (hT : rtab md ops = T) (h : (readyT T.2 l.toList == []) = true) : (Region.ready md ops l == []) = true := by
  subst hT
  rw [ready_eq]
  exact h
def upM (B : List Nat) (d : Nat) : List Nat → Nat
  | [] => 0
  | n :: r => (2 ^ n ||| (if n < d then B.getD n 0 else 0)) ||| upM B d r
def waitsOk (T : List (List Nat × List Nat)) (B : List Nat) : Bool := (List.range T.length).all fun d => match T[d]? with
  | some r => (B.getD d 0 ||| upM B d r.1) == upM B d r.1
  | none => false
theorem upM_bit {B : List Nat} {d i : Nat} : ∀ {ns : List Nat}, (upM B d ns).testBit i = true → ∃ n ∈ ns, n = i ∨ (n < d ∧ (B.getD n 0).testBit i = true)
  | [], h => by simp [upM] at h
  | n :: r, h => by
    unfold upM at h
    rw [Nat.testBit_or, Nat.testBit_or, Bool.or_eq_true, Bool.or_eq_true] at h
    rcases h with (h | h) | h
    · rw [Nat.testBit_two_pow] at h
      exact ⟨n, List.mem_cons_self, .inl (by simpa using h)⟩
    · by_cases hn : n < d
      · rw [if_pos hn] at h
        exact ⟨n, List.mem_cons_self, .inr ⟨hn, h⟩⟩
      · rw [if_neg hn] at h
        simp at h
    · obtain ⟨m, hm, h2⟩ := upM_bit h
      exact ⟨m, List.mem_cons_of_mem _ hm, h2⟩
theorem reach_bit {T : List (List Nat × List Nat)} {B : List Nat} (hB : waitsOk T B = true) : ∀ (fuel d : Nat), d < fuel → d < T.length → (B.getD d 0).testBit i = true → reachT T i fuel d = true
  | 0, d, h, _, _ => by omega
  | fuel + 1, d, h, hd, hb => by
    have h1 := List.all_eq_true.1 hB d (List.mem_range.2 hd)
    cases hr : T[d]? with
    | none => rw [hr] at h1; simp at h1
    | some r =>
      rw [hr] at h1
      simp only [beq_iff_eq] at h1
      have h2 : (upM B d r.1).testBit i = true := by rw [← h1, Nat.testBit_or, hb, Bool.true_or]
      obtain ⟨n, hn, h3⟩ := upM_bit h2
      unfold reachT
      rw [hr]
      simp only
      rw [List.any_eq_true]
      refine ⟨n, hn, ?_⟩
      rcases h3 with rfl | ⟨h4, h5⟩
      · simp
      · rw [reach_bit hB fuel n (by omega) (by omega) h5, Bool.or_true]
def lastW (T : List (List Nat × List Nat)) (B : List Nat) (l : List Bool) (ds : List Nat) (i : Nat) : Bool := ds.all fun d => l.getD d true || (decide (d < T.length) && (B.getD d 0).testBit i)
def takeW (T : Bool × List (List Nat × List Nat)) (B : List Nat) (ds : List Nat) (l l' : List Bool) (i : Nat) : Bool := T.1 && freeT T.2 l i && readyAt T.2 l i && closedT T.2 l && lastW T.2 B l ds i && (l.set i true == l')
theorem take_ofW {B : List Nat} (hT : rtab md ops = T) (hB : waitsOk T.2 B = true) (h : takeW T B ds l.toList l'.toList i = true) : takeB md ops ds l l' i = true := by
  refine take_of hT ?_
  simp only [takeW, takeT, Bool.and_eq_true] at h ⊢
  obtain ⟨⟨⟨⟨⟨h1, h2⟩, h3⟩, h4⟩, h5⟩, h6⟩ := h
  refine ⟨⟨⟨⟨⟨h1, h2⟩, h3⟩, h4⟩, ?_⟩, h6⟩
  unfold lastW at h5
  unfold lastT
  rw [List.all_eq_true] at h5 ⊢
  intro d hd
  have h7 := h5 d hd
  rw [Bool.or_eq_true, Bool.and_eq_true, decide_eq_true_eq] at h7
  rcases h7 with h7 | ⟨h8, h9⟩
  · rw [h7, Bool.true_or]
  · rw [reach_bit hB _ d h8 h8 h9, Bool.or_true]
theorem with_tabW {P : Program} {Q : Exit → Act → World → Prop} {S : World → Prop} {n : Nat} {a : Act} {w : World} {B : List Nat} (hT : rtab md ops = T) (hB : waitsOk T.2 B = true) (h : Aside0 (rtab md ops = T) → Aside0 (waitsOk T.2 B = true) → wpAnyLast P md ops Q S ds n l a w) : wpAnyLast P md ops Q S ds n l a w := h ⟨hT⟩ ⟨hB⟩
end
def opsIn : Code → Nat → Option (Array Oper)
  | .region id ops _, k => if id == k then some ops else none
  | .seq a b, k => match opsIn a k with
    | some o => some o
    | none => opsIn b k
  | .cond _ a b, k => match opsIn a k with
    | some o => some o
    | none => opsIn b k
  | .block _ c, k => opsIn c k
  | .loop c, k => opsIn c k
  | .scope c, k => opsIn c k
  | .rangeFunc _ _ a b, k => match opsIn a k with
    | some o => some o
    | none => opsIn b k
  | _, _ => none
def opsOf (f : Func) (k : Nat) : Array Oper := ((f.body.bind fun c => opsIn c k)).getD #[]
end Go.Proofs.YtaieobidkmihkaaW.PrintLast


-- PRINTED BY print.sh 35421559b90ae4d0a3588c463048766b98c2df88dd9212a6774a882060cdf62d: not written by this session
namespace Go.Proofs.YtaieobidkmihkaaW.PrintWords
theorem Reps.one {α : Type} {R : α → List Value → Prop} {ps : List α} {cs : List Value} {p : α} {v : Value} (hp : R p [v]) (h : Reps R 1 ps cs) : Reps R 1 (p :: ps) (v :: cs) := by
  refine ⟨by simp [h.1], fun j q hq => ?_⟩
  cases j with
  | zero =>
    simp only [List.getElem?_cons_zero, Option.some.injEq] at hq
    subst hq
    simpa using hp
  | succ j =>
    simp only [List.getElem?_cons_succ] at hq
    have h1 := h.2 j q hq
    simpa [Nat.mul_one] using h1
theorem Reps.front {α : Type} {R : α → List Value → Prop} {size : Nat} {ps : List α} {cs c all : List Value} {p : α} (hp : R p c) (hc : c.length = size) (h : Reps R size ps cs) (ha : c ++ cs = all) : Reps R size (p :: ps) all := by
  subst ha
  refine ⟨by rw [List.length_append, hc, h.1, List.length_cons, Nat.succ_mul, Nat.add_comm], fun j q hq => ?_⟩
  cases j with
  | zero =>
    simp only [List.getElem?_cons_zero, Option.some.injEq] at hq
    subst hq
    rw [Nat.zero_mul, List.drop_zero, List.take_append_of_le_length (by omega), List.take_of_length_le (by omega)]
    exact hp
  | succ j =>
    simp only [List.getElem?_cons_succ] at hq
    have h1 := h.2 j q hq
    rw [Nat.succ_mul, List.drop_append, List.drop_of_length_le (by rw [hc]; exact Nat.le_add_left _ _), List.nil_append, hc, Nat.add_sub_cancel]
    exact h1
theorem Reps.c2 {α : Type} {R : α → List Value → Prop} {ps : List α} {cs : List Value} {p : α} {va vb : Value} (hp : R p [va, vb]) (h : Reps R 2 ps cs) : Reps R 2 (p :: ps) (va :: vb :: cs) := Reps.front hp rfl h rfl
theorem Reps.c3 {α : Type} {R : α → List Value → Prop} {ps : List α} {cs : List Value} {p : α} {va vb vc : Value} (hp : R p [va, vb, vc]) (h : Reps R 3 ps cs) : Reps R 3 (p :: ps) (va :: vb :: vc :: cs) := Reps.front hp rfl h rfl
theorem Reps.c4 {α : Type} {R : α → List Value → Prop} {ps : List α} {cs : List Value} {p : α} {va vb vc vd : Value} (hp : R p [va, vb, vc, vd]) (h : Reps R 4 ps cs) : Reps R 4 (p :: ps) (va :: vb :: vc :: vd :: cs) := Reps.front hp rfl h rfl
theorem Reps.c5 {α : Type} {R : α → List Value → Prop} {ps : List α} {cs : List Value} {p : α} {va vb vc vd ve : Value} (hp : R p [va, vb, vc, vd, ve]) (h : Reps R 5 ps cs) : Reps R 5 (p :: ps) (va :: vb :: vc :: vd :: ve :: cs) := Reps.front hp rfl h rfl
theorem Reps.c6 {α : Type} {R : α → List Value → Prop} {ps : List α} {cs : List Value} {p : α} {va vb vc vd ve vf : Value} (hp : R p [va, vb, vc, vd, ve, vf]) (h : Reps R 6 ps cs) : Reps R 6 (p :: ps) (va :: vb :: vc :: vd :: ve :: vf :: cs) := Reps.front hp rfl h rfl
theorem Reps.c7 {α : Type} {R : α → List Value → Prop} {ps : List α} {cs : List Value} {p : α} {va vb vc vd ve vf vg : Value} (hp : R p [va, vb, vc, vd, ve, vf, vg]) (h : Reps R 7 ps cs) : Reps R 7 (p :: ps) (va :: vb :: vc :: vd :: ve :: vf :: vg :: cs) := Reps.front hp rfl h rfl
theorem Reps.c8 {α : Type} {R : α → List Value → Prop} {ps : List α} {cs : List Value} {p : α} {va vb vc vd ve vf vg vh : Value} (hp : R p [va, vb, vc, vd, ve, vf, vg, vh]) (h : Reps R 8 ps cs) : Reps R 8 (p :: ps) (va :: vb :: vc :: vd :: ve :: vf :: vg :: vh :: cs) := Reps.front hp rfl h rfl
theorem Reps.c9 {α : Type} {R : α → List Value → Prop} {ps : List α} {cs : List Value} {p : α} {va vb vc vd ve vf vg vh vi : Value} (hp : R p [va, vb, vc, vd, ve, vf, vg, vh, vi]) (h : Reps R 9 ps cs) : Reps R 9 (p :: ps) (va :: vb :: vc :: vd :: ve :: vf :: vg :: vh :: vi :: cs) := Reps.front hp rfl h rfl
theorem Reps.c10 {α : Type} {R : α → List Value → Prop} {ps : List α} {cs : List Value} {p : α} {va vb vc vd ve vf vg vh vi vj : Value} (hp : R p [va, vb, vc, vd, ve, vf, vg, vh, vi, vj]) (h : Reps R 10 ps cs) : Reps R 10 (p :: ps) (va :: vb :: vc :: vd :: ve :: vf :: vg :: vh :: vi :: vj :: cs) := Reps.front hp rfl h rfl
end Go.Proofs.YtaieobidkmihkaaW.PrintWords


-- PRINTED BY print.sh 35421559b90ae4d0a3588c463048766b98c2df88dd9212a6774a882060cdf62d: not written by this session
namespace Go.Proofs.YtaieobidkmihkaaW.PrintLast
def up (b : Nat → Bool) (i : Nat) : Nat → Bool := fun j => if j = i then true else b j
section
variable {P : Program} {ops : Array Oper} {Q : Exit → Act → World → Prop} {md : Region.Mode} {T : Bool × List (List Nat × List Nat)} {B : List Nat} {O : List Nat} {b : Nat → Bool} {i j n : Nat}
def Closed (T : List (List Nat × List Nat)) (O : List Nat) (b : Nat → Bool) : Prop := ∀ d r, T[d]? = some r → O.contains d = true → b d = true → ∀ n ∈ r.1, O.contains n = true → b n = true
end
end Go.Proofs.YtaieobidkmihkaaW.PrintLast


-- PRINTED BY print.sh 35421559b90ae4d0a3588c463048766b98c2df88dd9212a6774a882060cdf62d: not written by this session
namespace Go.Proofs.YtaieobidkmihkaaW.PrintWords
open Go.RowKit
section
variable {P : Program} {ops : Array Oper} {rest : List Oper} {o : Oper} {a : Act} {Q : Exit → Act → World → Prop} {W : World}
theorem gate_guard (hw : Region.wanted o (yielded ops a.tmps) = true) (h : wpList P ops Q ({ o with guard := none } :: rest) a W) : wpList P ops Q (o :: rest) a W := by
  have h1 : Region.wanted { o with guard := none } (yielded ops a.tmps) = true := rfl
  unfold wpList at h ⊢
  rw [if_pos h1] at h
  rw [if_pos hw]
  exact h
end
end Go.Proofs.YtaieobidkmihkaaW.PrintWords


namespace Go.Proofs.Ytaieobidkmihkaa.P
open Go.RowKit Go.Proofs.YtaieobidkmihkaaW.PrintWords Go.Proofs.YtaieobidkmihkaaW.PrintLast Go.Proofs.YtaieobidkmihkaaW.PrintMore
attribute [local go_sem] max2_int min2_int max_two min_two max_three min_three max_four min_four   -- for this text's walks alone
set_option linter.unusedVariables false
set_option linter.unusedSimpArgs false



def errW : Option Int → Value
  | none => .nilIface
  | some c => .iface 0 (.int .i64 c)
theorem errW_none : errW none = .nilIface := rfl
theorem errW_some (c : Int) : errW (some c) = .iface 0 (.int .i64 c) := rfl

theorem info5 : (Try.prog.info? 5).map (fun i => (i.zero, i.size, i.bytes)) = some (some (.int .u8 0), 1, 1) := by kernel_rfl
theorem info29 : (Try.prog.info? 29).map (fun i => (i.zero, i.size, i.bytes)) = some (some (.slice none 0 0), 1, 24) := by kernel_rfl
-- the values' own types
def rd_Lsu8 (xs : List (List Int)) (i : Int) : (List Int) := xs.getD i.toNat ([] : List Int)
theorem at_Lsu8 {w : World} {A : Option Addr} {n : Nat} {xs : List (List Int)} (h : Kd.C (Kd.slice 5 (Kd.int .u8)) w A n xs) (i : Int) (h0 : 0 ≤ i) (h1 : i < n) : ∃ ad A0 c0, A = some ad ∧ w.cell? (ad.add i.toNat) = some (.slice A0 (rd_Lsu8 xs i).length c0) ∧ (rd_Lsu8 xs i).length ≤ c0 ∧ (Kd.int .u8).C w A0 (rd_Lsu8 xs i).length (rd_Lsu8 xs i) := by
  obtain ⟨ad, c, e, _, hK, hc0⟩ := Kd.C_get h ([] : List Int) i h0 h1
  have hc : ∀ j u, c[j]? = some u → w.cell? (ad.add (i.toNat * 1 + j)) = some u := hc0
  obtain ⟨A0, c0, rfl, l0, g0⟩ := hK
  exact ⟨ad, A0, c0, e, by have hq := hc 0 _ rfl; rwa [Nat.mul_one, Nat.add_zero] at hq, l0, g0⟩

structure SimplMemory where
  f0 : (List (List Int))
structure SimplWindow where
  f0 : Int
  f1 : Int
  f2 : Int
  f3 : Int
def zimplWindow : SimplWindow := ⟨(0 : Int), (0 : Int), (0 : Int), (0 : Int)⟩
def kimplWindow : Kd SimplWindow := Kd.iso (Kd.pair (Kd.int .i64) (Kd.pair (Kd.int .i64) (Kd.pair (Kd.int .i64) (Kd.int .i64)))) (fun x : SimplWindow => (x.f0, x.f1, x.f2, x.f3))
theorem kimplWindow_open {w : World} {x : SimplWindow} {cs : List Value} (h : kimplWindow.K w x cs) : cs = [.int .i64 x.f0, .int .i64 x.f1, .int .i64 x.f2, .int .i64 x.f3] := by
  obtain ⟨_, _, rfl, rfl, ⟨_, _, rfl, rfl, ⟨_, _, rfl, rfl, rfl⟩⟩⟩ := h
  exact rfl
theorem kimplWindow_mkM (w : World) (base : Nat) (ok : Nat → Prop) (x : SimplWindow)  : kimplWindow.M w base ok x [.int .i64 x.f0, .int .i64 x.f1, .int .i64 x.f2, .int .i64 x.f3] := ⟨[.int .i64 x.f0], [.int .i64 x.f1, .int .i64 x.f2, .int .i64 x.f3], rfl, rfl, ⟨[.int .i64 x.f1], [.int .i64 x.f2, .int .i64 x.f3], rfl, rfl, ⟨[.int .i64 x.f2], [.int .i64 x.f3], rfl, rfl, rfl⟩⟩⟩
def rd_TimplWindow (xs : List SimplWindow) (i : Int) : SimplWindow := xs.getD i.toNat zimplWindow
theorem at_TimplWindow {w : World} {A : Option Addr} {n : Nat} {xs : List SimplWindow} (h : Kd.C kimplWindow w A n xs) (i : Int) (h0 : 0 ≤ i) (h1 : i < n) : ∃ ad , A = some ad ∧ w.cell? (ad.add (i.toNat * 4)) = some (.int .i64 (rd_TimplWindow xs i).f0) ∧ w.cell? ⟨(ad.add (i.toNat * 4)).block, (ad.add (i.toNat * 4)).off + 1, none⟩ = some (.int .i64 (rd_TimplWindow xs i).f1) ∧ w.cell? ⟨(ad.add (i.toNat * 4)).block, (ad.add (i.toNat * 4)).off + 2, none⟩ = some (.int .i64 (rd_TimplWindow xs i).f2) ∧ w.cell? ⟨(ad.add (i.toNat * 4)).block, (ad.add (i.toNat * 4)).off + 3, none⟩ = some (.int .i64 (rd_TimplWindow xs i).f3) := by
  obtain ⟨ad, c, e, _, hK, hc0⟩ := Kd.C_get h zimplWindow i h0 h1
  have hc : ∀ j u, c[j]? = some u → w.cell? (ad.add (i.toNat * 4 + j)) = some u := hc0
  obtain rfl := kimplWindow_open hK
  exact ⟨ad, e, hc 0 _ rfl, by rw [← add_field _ _ 1 (by omega)]; exact hc 1 _ rfl, by rw [← add_field _ _ 2 (by omega)]; exact hc 2 _ rfl, by rw [← add_field _ _ 3 (by omega)]; exact hc 3 _ rfl⟩

structure SimplRing where
  f0 : SimplWindow
  f1 : Int
  f2 : Int
structure SimplGap where
  f0 : SimplMemory
  f1 : SimplWindow
  f2 : Int
  f3 : Int
end Go.Proofs.Ytaieobidkmihkaa.P


namespace Go.Proofs.Ytaieobidkmihkaa.P
open Go.RowKit Go.Proofs.YtaieobidkmihkaaW.PrintWords Go.Proofs.YtaieobidkmihkaaW.PrintLast Go.Proofs.YtaieobidkmihkaaW.PrintMore
attribute [local go_sem] max2_int min2_int max_two min_two max_three min_three max_four min_four   -- for this text's walks alone
set_option linter.unusedVariables false
set_option linter.unusedSimpArgs false

def laws_markByteS.l0 : Nat → List Int → Int → Int → Option (Int × List Int)
  | 0, _, _, _ => none
  | k + 1, x0, x1, x5 => if x5 < (x0.length : Int) then (if 0 ≤ x5 then (laws_markByteS.l0 k (x0.set (x5 : Int).toNat ((x1) % 256)) (wrap64 (x1 + 1)) (wrap64 (x5 + 1))) else (none)) else (some (x1, x0))
def laws_markByteS.f (k : Nat) (l0 : List Int) (a1 : Int) : Option (Int × List Int) := laws_markByteS.l0 k l0 a1 0
set_option maxHeartbeats 8000000 in
set_option maxRecDepth 100000 in
theorem laws_markByteS.calls (k : Nat) (P0_ : Nat → Prop) (u9000_ : Value) (l0 : List Int) (a1 : Int) (r1 : Int) (r2 : List Int) (w0 w : World) (hB : Below w0.heap.size w0 w) (ho0 : Kd.R (Kd.int .u8) 5 w w0.heap.size P0_ u9000_ l0) (h : laws_markByteS.f k l0 a1 = some (r1, r2)) :
    Calls Try.prog 25 #[u9000_, .int .i64 a1] w fun e w' => e = .returned (.int .i64 r1) ∧ Kd.R (Kd.int .u8) 5 w' w0.heap.size (fun k_ => (P0_ k_ ∨ w.heap.size ≤ k_)) u9000_ r2 ∧ Below w0.heap.size w0 w' ∧ Kept w w' (fun k_ => P0_ k_) := by
  have HO0 := Aside0.mk (show Kd.R (Kd.int .u8) 5 w w0.heap.size (fun k_ => (P0_ k_ ∨ w.heap.size ≤ k_)) u9000_ l0 from Kd.R_mono ho0 (fun k_ hk => (.inl hk)))
  have HK := Aside0.mk (Kept.refl w (fun k_ => P0_ k_))
  have HW0 := Aside0.mk hB.size
  have HB := Aside0.mk hB
  clear hB
  have H : (laws_markByteS.l0 k l0 a1 0) = some (r1, r2) := h
  clear h
  have H' := Aside0.mk H
  clear H
  go_enter Try.func25, Try.ntmps25
  go_wp2
  go_loopg [1, 5] k (fun kq v1 v5 w' => ∃ (x0_1 : List Int) (x1_1 : Int) (x5_1 : Int), v1 = .int .i64 x1_1 ∧ v5 = .int .i64 x5_1 ∧ Aside0 (laws_markByteS.l0 kq x0_1 x1_1 x5_1 = some (r1, r2)) ∧ Aside0 (kq ≤ k) ∧ Aside0 (Kd.R (Kd.int .u8) 5 w' w0.heap.size (fun k_ => (P0_ k_ ∨ w.heap.size ≤ k_)) u9000_ x0_1) ∧ Aside0 (Kept w w' (fun k_ => P0_ k_)) ∧ Aside0 (Below w0.heap.size w0 w'))
  case atStart => exact ⟨(l0), (a1), (0), (by first | rfl | (simp; done) | (simp [*]; done)), (by first | rfl | (simp; done) | (simp [*]; done)), H', ⟨Nat.le_refl _⟩, ⟨by (with_reducible repeat (first | apply Kd.R_alloc | apply Kd.R_drewN | apply Kd.R_drew)); exact HO0.out⟩, ⟨by repeat (first | (with_reducible first | exact HK.out | apply Kept.alloc | apply Kept.drewN | apply Kept.drew) | exact HK.out)⟩, ⟨by repeat (first | (with_reducible first | exact HB.out | apply below_alloc | apply pw_below_drewN | apply below_drew1) | exact HB.out)⟩⟩
  case round =>
    clear H'
    try clear c2
    try clear p2
    obtain ⟨x0_1, x1_1, x5_1, rfl, rfl, HA, HK1, HO_0, HK, HB⟩ := hrel
    cases gk with
    | zero => exact absurd HA.out (by simp [laws_markByteS.l0])
    | succ k1 =>
      have H := HA.out
      clear HA
      simp only [laws_markByteS.l0] at H
      by_cases c3 : x5_1 < (x0_1.length : Int)
      · rw [if_pos c3] at H
        have c3b0 : decide (x5_1 < (x0_1.length : Int)) = true := decide_eq_true c3
        clear c3
        by_cases c4 : 0 ≤ x5_1
        · rw [if_pos c4] at H
          have c4b0 : decide (0 ≤ x5_1) = true := decide_eq_true c4
          clear c4
          obtain ⟨y274, hy274⟩ : ∃ y_ : List Int, y_ = (x0_1.set (x5_1 : Int).toNat ((x1_1) % 256)) := ⟨_, rfl⟩
          replace H : (laws_markByteS.l0 k1 y274 (wrap64 (x1_1 + 1)) (wrap64 (x5_1 + 1))) = some (r1, r2) := by first | (rw [hy274]; with_reducible exact H) | (have H2_ := (Option.bind_some _ _).symm.trans H; rw [hy274]; with_reducible exact H2_) | (have H2_ := (Option.bind_some _ _).symm.trans H; with_reducible exact H2_) | with_reducible exact H | (rw [hy274]; exact H) | exact H
          have Ny274 := Aside0.mk hy274
          clear hy274
          have H' := Aside0.mk H
          clear H
          obtain ⟨Ao6, co6, eo6⟩ := Kd.R_slice HO_0.out
          subst eo6
          have p5 : 0 ≤ (x5_1 : Int) := of_decide_eq_true (by first | (with_reducible assumption) | assumption)
          have q5 : (x5_1 : Int) < ((x0_1.length : Int) : Int) := of_decide_eq_true (by first | (with_reducible assumption) | assumption)
          obtain ⟨go5, co5, eo5, gb5, gl5, cl5, HG5⟩ := Kd.R_form HO_0.out (by omega)
          (first | cases eo5 | (injection eo5 with ea_ en_ ec_; (first | subst ea_ | (injection ea_ with ea_; subst ea_)); subst ec_; clear en_))
          have GB5 := Aside0.mk gb5
          have GG5 := Aside0.mk HG5
          clear gb5 gl5 HG5
          have HMgo5 := Aside0.mk (show (P0_ go5 ∨ w.heap.size ≤ go5) from (HO_0.out.1 _ rfl))
          obtain ⟨hx5_0, hf5_0⟩ := Kd.R_celln 0 HO_0.out (x5_1 : Int) p5 q5
          replace p5 := eq_true p5
          replace q5 := eq_true q5
          have HP7 := Kd.R_putg HO_0.out (x5_1 : Int) ((x1_1) % 256)
          go_wp2_with (first | ((with_reducible refine gate_store (t := 5) (p := 16) rfl ?_); refine store_event (t := 5) (p := 16) (v := ?vo_w8) (w1 := (wr.setCell ⟨go5, (x5_1 : Int).toNat, none⟩ (.int .u8 ((x1_1) % 256)))) ?hg ?ho ?hn ?hr ?_; (case ho => rfl); (case hg => rfl); (case hn => rfl); (case hr => first | (go_simp; done) | (go_simp; rfl)); intro w8 hw; have hg : wr.grownBy w8 (some go5) := (by rw [hw]; exact HP7.2); have hp_ : Kd.R (Kd.int .u8) 5 w8 w0.heap.size (fun k_ => (P0_ k_ ∨ w.heap.size ≤ k_)) (.slice (some ⟨go5, 0, none⟩) x0_1.length co6) y274 := (by rw [hw, Ny274.out]; exact HP7.1); clear HP7; have n0_ := Aside0.mk (hp_); have n1_ := Aside0.mk ((by rw [hw]; exact below_set (HB.out) GB5.out : Below w0.heap.size w0 w8)); have n2_ := Aside0.mk (Kept.of_grown (S := (fun k_ => P0_ k_)) hg (by repeat (first | (with_reducible first | exact HK.out | apply Kept.alloc | apply Kept.drewN | apply Kept.drew) | exact HK.out)) (fun k_ e_ => (HO_0.out.1 k_ e_))); clear HO_0; clear HB; clear HK; have HO_0 := n0_; have HB := n1_; have HK := n2_; clear n0_ n1_ n2_; clear hg hw hp_))
          go_roundg k1
          case measure => have := HK1.out; omega
          case rel => exact ⟨(y274), (wrap64 (x1_1 + 1)), (wrap64 (x5_1 + 1)), (by first | rfl | (simp; done) | (simp [*]; done)), (by first | rfl | (simp; done) | (simp [*]; done)), H', ⟨by have := HK1.out; omega⟩, ⟨by (with_reducible repeat (first | apply Kd.R_alloc | apply Kd.R_drewN | apply Kd.R_drew)); exact HO_0.out⟩, ⟨by repeat (first | (with_reducible first | exact HK.out | apply Kept.alloc | apply Kept.drewN | apply Kept.drew) | exact HK.out)⟩, ⟨by repeat (first | (with_reducible first | exact HB.out | apply below_alloc | apply pw_below_drewN | apply below_drew1) | exact HB.out)⟩⟩
        · rw [if_neg c4] at H
          exact absurd H (by simp)
      · rw [if_neg c3] at H
        have c3b0 : decide (x5_1 < (x0_1.length : Int)) = false := decide_eq_false c3
        clear c3
        simp only [Option.some.injEq, Prod.mk.injEq] at H
        obtain ⟨rfl, rfl⟩ := H
        obtain ⟨Ao9, co9, eo9⟩ := Kd.R_slice HO_0.out
        subst eo9
        go_wp2
        go_ret
        exact ⟨by first | rfl | (simp [errW_none, errW_some] <;> rfl) | (simp [*, errW_none, errW_some] <;> rfl), by (with_reducible repeat (first | apply Kd.R_alloc | apply Kd.R_drewN | apply Kd.R_drew)); exact HO_0.out, by repeat (first | (with_reducible first | exact HB.out | apply below_alloc | apply pw_below_drewN | apply below_drew1) | exact HB.out), by repeat (first | (with_reducible first | exact HK.out | apply Kept.alloc | apply Kept.drewN | apply Kept.drew) | exact HK.out)⟩

end Go.Proofs.Ytaieobidkmihkaa.P


namespace Go.Proofs.Ytaieobidkmihkaa.P
open Go.RowKit Go.Proofs.YtaieobidkmihkaaW.PrintWords Go.Proofs.YtaieobidkmihkaaW.PrintLast Go.Proofs.YtaieobidkmihkaaW.PrintMore
attribute [local go_sem] max2_int min2_int max_two min_two max_three min_three max_four min_four   -- for this text's walks alone
set_option linter.unusedVariables false
set_option linter.unusedSimpArgs false

def laws_heldByteS.l0 : Nat → List Int → Int → Int → Option (Int)
  | 0, _, _, _ => none
  | k + 1, x0, x1, x5 => if x5 < (x0.length : Int) then (if 0 ≤ x5 then (if (rd x0 x5) = ((x1) % 256) then (laws_heldByteS.l0 k x0 (wrap64 (x1 + 1)) (wrap64 (x5 + 1))) else (some (-1))) else (none)) else (some x1)
def laws_heldByteS.f (k : Nat) (l0 : List Int) (a1 : Int) : Option (Int) := laws_heldByteS.l0 k l0 a1 0
set_option maxHeartbeats 8000000 in
set_option maxRecDepth 100000 in
theorem laws_heldByteS.calls (k : Nat) (A0 : Option Addr) (c0 : Nat) (l0 : List Int) (a1 : Int) (r : Int) (w : World) (hr0 : Kd.C (Kd.int .u8) w A0 l0.length l0) (hc0 : l0.length ≤ c0) (h : laws_heldByteS.f k l0 a1 = some r) :
    Calls Try.prog 113 #[.slice A0 l0.length c0, .int .i64 a1] w fun e w' => e = .returned (.int .i64 r) ∧ Drawn0 w w' := by
  have HR0 := Aside0.mk hr0
  have HC0 := Aside0.mk hc0
  clear hr0 hc0
  have H : (laws_heldByteS.l0 k l0 a1 0) = some r := h
  clear h
  have H' := Aside0.mk H
  clear H
  go_enter Try.func113, Try.ntmps113
  go_wp2
  go_loopg [1, 5] k (fun kq v1 v5 w' => ∃ (x1_1 : Int) (x5_1 : Int), v1 = .int .i64 x1_1 ∧ v5 = .int .i64 x5_1 ∧ Aside0 (laws_heldByteS.l0 kq l0 x1_1 x5_1 = some r) ∧ Aside0 (kq ≤ k) ∧ Drawn0 w w')
  case atStart => exact ⟨(a1), (0), (by first | rfl | (simp; done) | (simp [*]; done)), (by first | rfl | (simp; done) | (simp [*]; done)), H', ⟨Nat.le_refl _⟩, by repeat (first | exact Drawn0.refl _ | apply Drawn0.step)⟩
  case round =>
    clear H'
    try clear c1
    try clear p2
    obtain ⟨x1_1, x5_1, rfl, rfl, HA, HK1, ⟨m1, rfl⟩⟩ := hrel
    cases gk with
    | zero => exact absurd HA.out (by simp [laws_heldByteS.l0])
    | succ k1 =>
      have H := HA.out
      clear HA
      simp only [laws_heldByteS.l0] at H
      by_cases c3 : x5_1 < (l0.length : Int)
      · rw [if_pos c3] at H
        have c3b0 : decide (x5_1 < (l0.length : Int)) = true := decide_eq_true c3
        clear c3
        by_cases c4 : 0 ≤ x5_1
        · rw [if_pos c4] at H
          have c4b0 : decide (0 ≤ x5_1) = true := decide_eq_true c4
          clear c4
          by_cases c5 : (rd l0 x5_1) = ((x1_1) % 256)
          · rw [if_pos c5] at H
            have c5b0 : ((rd l0 x5_1) == ((x1_1) % 256)) = true := beq_iff_eq.mpr c5
            have c5b1 : ((rd l0 x5_1) != ((x1_1) % 256)) = false := bne_eq_false_iff_eq.mpr c5
            clear c5
            have H' := Aside0.mk H
            clear H
            have p277 : 0 ≤ (x5_1 : Int) := of_decide_eq_true (by first | (with_reducible assumption) | assumption)
            have q277 : x5_1 < (l0.length : Int) := of_decide_eq_true (by first | (with_reducible assumption) | assumption)
            obtain ⟨ad277, e277, hx277_0⟩ := Kd.at_int HR0.out x5_1 p277 q277
            cases e277
            replace p277 := eq_true p277
            replace q277 := eq_true q277
            go_wp2
            go_roundg k1
            case measure => have := HK1.out; omega
            case rel => exact ⟨(wrap64 (x1_1 + 1)), (wrap64 (x5_1 + 1)), (by first | rfl | (simp; done) | (simp [*]; done)), (by first | rfl | (simp; done) | (simp [*]; done)), H', ⟨by have := HK1.out; omega⟩, by repeat (first | exact Drawn0.refl _ | apply Drawn0.step)⟩
          · rw [if_neg c5] at H
            have c5b0 : ((rd l0 x5_1) == ((x1_1) % 256)) = false := beq_eq_false_iff_ne.mpr c5
            have c5b1 : ((rd l0 x5_1) != ((x1_1) % 256)) = true := bne_iff_ne.mpr c5
            obtain rfl := Option.some.inj H
            have p277 : 0 ≤ (x5_1 : Int) := of_decide_eq_true (by first | (with_reducible assumption) | assumption)
            have q277 : x5_1 < (l0.length : Int) := of_decide_eq_true (by first | (with_reducible assumption) | assumption)
            obtain ⟨ad277, e277, hx277_0⟩ := Kd.at_int HR0.out x5_1 p277 q277
            cases e277
            replace p277 := eq_true p277
            replace q277 := eq_true q277
            go_wp2
            go_ret
            exact ⟨by first | rfl | (simp; done) | (simp [*]; done), by repeat (first | exact Drawn0.refl _ | apply Drawn0.step)⟩
        · rw [if_neg c4] at H
          exact absurd H (by simp)
      · rw [if_neg c3] at H
        have c3b0 : decide (x5_1 < (l0.length : Int)) = false := decide_eq_false c3
        clear c3
        obtain rfl := Option.some.inj H
        go_wp2
        go_ret
        exact ⟨by first | rfl | (simp; done) | (simp [*]; done), by repeat (first | exact Drawn0.refl _ | apply Drawn0.step)⟩

end Go.Proofs.Ytaieobidkmihkaa.P


namespace Go.Proofs.Ytaieobidkmihkaa.P
open Go.RowKit Go.Proofs.YtaieobidkmihkaaW.PrintWords Go.Proofs.YtaieobidkmihkaaW.PrintLast Go.Proofs.YtaieobidkmihkaaW.PrintMore
attribute [local go_sem] max2_int min2_int max_two min_two max_three min_three max_four min_four   -- for this text's walks alone
set_option linter.unusedVariables false
set_option linter.unusedSimpArgs false

def laws_heldByteSS.l0 : Nat → List (List Int) → Int → Int → Option (Int)
  | 0, _, _, _ => none
  | k + 1, x0, x1, x5 => if x5 < (x0.length : Int) then (if 0 ≤ x5 then ((laws_heldByteS.f k (rd_Lsu8 x0 x5) x1).bind fun t279 => (if t279 < 0 then (some (-1)) else (laws_heldByteSS.l0 k x0 t279 (wrap64 (x5 + 1))))) else (none)) else (some x1)
def laws_heldByteSS.f (k : Nat) (l0 : List (List Int)) (a1 : Int) : Option (Int) := laws_heldByteSS.l0 k l0 a1 0
set_option maxHeartbeats 8000000 in
set_option maxRecDepth 100000 in
theorem laws_heldByteSS.calls (k : Nat) (A0 : Option Addr) (c0 : Nat) (l0 : List (List Int)) (a1 : Int) (r : Int) (w : World) (hr0 : Kd.C (Kd.slice 5 (Kd.int .u8)) w A0 l0.length l0) (hc0 : l0.length ≤ c0) (h : laws_heldByteSS.f k l0 a1 = some r) :
    Calls Try.prog 74 #[.slice A0 l0.length c0, .int .i64 a1] w fun e w' => e = .returned (.int .i64 r) ∧ Drawn0 w w' := by
  have HR0 := Aside0.mk hr0
  have HC0 := Aside0.mk hc0
  clear hr0 hc0
  have H : (laws_heldByteSS.l0 k l0 a1 0) = some r := h
  clear h
  have H' := Aside0.mk H
  clear H
  go_enter Try.func74, Try.ntmps74
  go_wp2
  go_loopg [1, 5] k (fun kq v1 v5 w' => ∃ (x1_1 : Int) (x5_1 : Int), v1 = .int .i64 x1_1 ∧ v5 = .int .i64 x5_1 ∧ Aside0 (laws_heldByteSS.l0 kq l0 x1_1 x5_1 = some r) ∧ Aside0 (kq ≤ k) ∧ Drawn0 w w')
  case atStart => exact ⟨(a1), (0), (by first | rfl | (simp; done) | (simp [*]; done)), (by first | rfl | (simp; done) | (simp [*]; done)), H', ⟨Nat.le_refl _⟩, by repeat (first | exact Drawn0.refl _ | apply Drawn0.step)⟩
  case round =>
    clear H'
    try clear p2
    obtain ⟨x1_1, x5_1, rfl, rfl, HA, HK1, ⟨m1, rfl⟩⟩ := hrel
    cases gk with
    | zero => exact absurd HA.out (by simp [laws_heldByteSS.l0])
    | succ k1 =>
      have H := HA.out
      clear HA
      simp only [laws_heldByteSS.l0] at H
      by_cases c3 : x5_1 < (l0.length : Int)
      · rw [if_pos c3] at H
        have c3b0 : decide (x5_1 < (l0.length : Int)) = true := decide_eq_true c3
        clear c3
        by_cases c4 : 0 ≤ x5_1
        · rw [if_pos c4] at H
          have c4b0 : decide (0 ≤ x5_1) = true := decide_eq_true c4
          clear c4
          replace H := Option.bind_eq_some_iff.mp H
          obtain ⟨t279, A50, H⟩ := H
          replace H : (if t279 < 0 then (some (-1)) else (laws_heldByteSS.l0 k1 l0 t279 (wrap64 (x5_1 + 1)))) = some r := H
          have A5 := Aside0.mk A50
          clear A50
          by_cases c6 : t279 < 0
          · rw [if_pos c6] at H
            have c6b0 : decide (t279 < 0) = true := decide_eq_true c6
            clear c6
            obtain rfl := Option.some.inj H
            have p278 : 0 ≤ (x5_1 : Int) := of_decide_eq_true (by first | (with_reducible assumption) | assumption)
            have q278 : x5_1 < (l0.length : Int) := of_decide_eq_true (by first | (with_reducible assumption) | assumption)
            obtain ⟨ad278, A278_0, c278_0, e278, hx278_0, hl278_0, hi278_0⟩ := at_Lsu8 HR0.out x5_1 p278 q278
            cases e278
            have HR278_0 := Aside0.mk hi278_0
            have HC278_0 := Aside0.mk hl278_0
            clear hi278_0 hl278_0
            replace p278 := eq_true p278
            replace q278 := eq_true q278
            go_wp2_with (first | ((with_reducible refine gate_callee (f := 113) rfl ?_); refine goesL_ (some 17) rfl rfl Try.func113 (by kernel_rfl) rfl #[.slice A278_0 (rd_Lsu8 l0 x5_1).length c278_0, .int .i64 x1_1] rfl (by (try simp only [List.map_toArray, List.map_cons, List.map_nil]); first | done | rfl | (simp only [List.length_drop, List.length_take]; rfl)) ?_; (with_reducible refine (laws_heldByteS.calls k1 _ _ (rd_Lsu8 l0 x5_1) x1_1 t279 _ ?side1 ?side2 A5.out).mono ?_); (case side1 => repeat (first | exact HR278_0.out | (with_reducible refine Kd.C_alloc ?_ _) | (with_reducible refine Kd.C_drewN ?_ _) | (with_reducible refine Kd.C_drew ?_))); (case side2 => exact HC278_0.out); rintro e w' ⟨rfl, ⟨nd, rfl⟩⟩; refine ⟨_, rfl, ?_⟩))
            go_ret
            exact ⟨by first | rfl | (simp; done) | (simp [*]; done), by repeat (first | exact Drawn0.refl _ | apply Drawn0.step)⟩
          · rw [if_neg c6] at H
            have c6b0 : decide (t279 < 0) = false := decide_eq_false c6
            clear c6
            have H' := Aside0.mk H
            clear H
            have p278 : 0 ≤ (x5_1 : Int) := of_decide_eq_true (by first | (with_reducible assumption) | assumption)
            have q278 : x5_1 < (l0.length : Int) := of_decide_eq_true (by first | (with_reducible assumption) | assumption)
            obtain ⟨ad278, A278_0, c278_0, e278, hx278_0, hl278_0, hi278_0⟩ := at_Lsu8 HR0.out x5_1 p278 q278
            cases e278
            have HR278_0 := Aside0.mk hi278_0
            have HC278_0 := Aside0.mk hl278_0
            clear hi278_0 hl278_0
            replace p278 := eq_true p278
            replace q278 := eq_true q278
            go_wp2_with (first | ((with_reducible refine gate_callee (f := 113) rfl ?_); refine goesL_ (some 17) rfl rfl Try.func113 (by kernel_rfl) rfl #[.slice A278_0 (rd_Lsu8 l0 x5_1).length c278_0, .int .i64 x1_1] rfl (by (try simp only [List.map_toArray, List.map_cons, List.map_nil]); first | done | rfl | (simp only [List.length_drop, List.length_take]; rfl)) ?_; (with_reducible refine (laws_heldByteS.calls k1 _ _ (rd_Lsu8 l0 x5_1) x1_1 t279 _ ?side1 ?side2 A5.out).mono ?_); (case side1 => repeat (first | exact HR278_0.out | (with_reducible refine Kd.C_alloc ?_ _) | (with_reducible refine Kd.C_drewN ?_ _) | (with_reducible refine Kd.C_drew ?_))); (case side2 => exact HC278_0.out); rintro e w' ⟨rfl, ⟨nd, rfl⟩⟩; refine ⟨_, rfl, ?_⟩))
            go_roundg k1
            case measure => have := HK1.out; omega
            case rel => exact ⟨(t279), (wrap64 (x5_1 + 1)), (by first | rfl | (simp; done) | (simp [*]; done)), (by first | rfl | (simp; done) | (simp [*]; done)), H', ⟨by have := HK1.out; omega⟩, by repeat (first | exact Drawn0.refl _ | apply Drawn0.step)⟩
        · rw [if_neg c4] at H
          exact absurd H (by simp)
      · rw [if_neg c3] at H
        have c3b0 : decide (x5_1 < (l0.length : Int)) = false := decide_eq_false c3
        clear c3
        obtain rfl := Option.some.inj H
        go_wp2
        go_ret
        exact ⟨by first | rfl | (simp; done) | (simp [*]; done), by repeat (first | exact Drawn0.refl _ | apply Drawn0.step)⟩

end Go.Proofs.Ytaieobidkmihkaa.P


namespace Go.Proofs.Ytaieobidkmihkaa.P
open Go.RowKit Go.Proofs.YtaieobidkmihkaaW.PrintWords Go.Proofs.YtaieobidkmihkaaW.PrintLast Go.Proofs.YtaieobidkmihkaaW.PrintMore
attribute [local go_sem] max2_int min2_int max_two min_two max_three min_three max_four min_four   -- for this text's walks alone
set_option linter.unusedVariables false
set_option linter.unusedSimpArgs false

def laws_szByteS.f (l0 : List Int) (a1 : Int) : Option (Int) := if (wrap64 (a1 - (l0.length : Int))) < 0 then (some (-1)) else (some (wrap64 (a1 - (l0.length : Int))))
set_option maxHeartbeats 8000000 in
set_option maxRecDepth 100000 in
theorem laws_szByteS.calls (A0 : Option Addr) (c0 : Nat) (l0 : List Int) (a1 : Int) (r : Int) (w : World) (hr0 : Kd.C (Kd.int .u8) w A0 l0.length l0) (hc0 : l0.length ≤ c0) (h : laws_szByteS.f l0 a1 = some r) :
    Calls Try.prog 102 #[.slice A0 l0.length c0, .int .i64 a1] w fun e w' => e = .returned (.int .i64 r) ∧ Drawn0 w w' := by
  have HR0 := Aside0.mk hr0
  have HC0 := Aside0.mk hc0
  clear hr0 hc0
  have H : (if (wrap64 (a1 - (l0.length : Int))) < 0 then (some (-1)) else (some (wrap64 (a1 - (l0.length : Int))))) = some r := h
  clear h
  by_cases c3 : (wrap64 (a1 - (l0.length : Int))) < 0
  · rw [if_pos c3] at H
    have c3b0 : decide ((wrap64 (a1 - (l0.length : Int))) < 0) = true := decide_eq_true c3
    clear c3
    obtain rfl := Option.some.inj H
    go_enter Try.func102, Try.ntmps102
    go_wp2
    go_ret
    exact ⟨by first | rfl | (simp; done) | (simp [*]; done), by repeat (first | exact Drawn0.refl _ | apply Drawn0.step)⟩
  · rw [if_neg c3] at H
    have c3b0 : decide ((wrap64 (a1 - (l0.length : Int))) < 0) = false := decide_eq_false c3
    clear c3
    obtain rfl := Option.some.inj H
    go_enter Try.func102, Try.ntmps102
    go_wp2
    go_ret
    exact ⟨by first | rfl | (simp; done) | (simp [*]; done), by repeat (first | exact Drawn0.refl _ | apply Drawn0.step)⟩

end Go.Proofs.Ytaieobidkmihkaa.P


namespace Go.Proofs.Ytaieobidkmihkaa.P
open Go.RowKit Go.Proofs.YtaieobidkmihkaaW.PrintWords Go.Proofs.YtaieobidkmihkaaW.PrintLast Go.Proofs.YtaieobidkmihkaaW.PrintMore
attribute [local go_sem] max2_int min2_int max_two min_two max_three min_three max_four min_four   -- for this text's walks alone
set_option linter.unusedVariables false
set_option linter.unusedSimpArgs false

def laws_szByteSS.l0 : Nat → List (List Int) → Int → Int → Option (Int)
  | 0, _, _, _ => none
  | k + 1, x0, x1, x5 => if x5 < (x0.length : Int) then (if 0 ≤ x5 then ((laws_szByteS.f (rd_Lsu8 x0 x5) x1).bind fun t102 => (if t102 < 0 then (some (-1)) else (laws_szByteSS.l0 k x0 t102 (wrap64 (x5 + 1))))) else (none)) else (some x1)
def laws_szByteSS.f (k : Nat) (l0 : List (List Int)) (a1 : Int) : Option (Int) := if (wrap64 (a1 - (l0.length : Int))) < 0 then (some (-1)) else (laws_szByteSS.l0 k l0 (wrap64 (a1 - (l0.length : Int))) 0)
set_option maxHeartbeats 8000000 in
set_option maxRecDepth 100000 in
theorem laws_szByteSS.calls (k : Nat) (A0 : Option Addr) (c0 : Nat) (l0 : List (List Int)) (a1 : Int) (r : Int) (w : World) (hr0 : Kd.C (Kd.slice 5 (Kd.int .u8)) w A0 l0.length l0) (hc0 : l0.length ≤ c0) (h : laws_szByteSS.f k l0 a1 = some r) :
    Calls Try.prog 55 #[.slice A0 l0.length c0, .int .i64 a1] w fun e w' => e = .returned (.int .i64 r) ∧ Drawn0 w w' := by
  have HR0 := Aside0.mk hr0
  have HC0 := Aside0.mk hc0
  clear hr0 hc0
  have H : (if (wrap64 (a1 - (l0.length : Int))) < 0 then (some (-1)) else (laws_szByteSS.l0 k l0 (wrap64 (a1 - (l0.length : Int))) 0)) = some r := h
  clear h
  by_cases c3 : (wrap64 (a1 - (l0.length : Int))) < 0
  · rw [if_pos c3] at H
    have c3b0 : decide ((wrap64 (a1 - (l0.length : Int))) < 0) = true := decide_eq_true c3
    clear c3
    obtain rfl := Option.some.inj H
    go_enter Try.func55, Try.ntmps55
    go_wp2
    go_ret
    exact ⟨by first | rfl | (simp; done) | (simp [*]; done), by repeat (first | exact Drawn0.refl _ | apply Drawn0.step)⟩
  · rw [if_neg c3] at H
    have c3b0 : decide ((wrap64 (a1 - (l0.length : Int))) < 0) = false := decide_eq_false c3
    clear c3
    have H' := Aside0.mk H
    clear H
    go_enter Try.func55, Try.ntmps55
    go_wp2
    go_loopg [1, 5] k (fun kq v1 v5 w' => ∃ (x1_1 : Int) (x5_1 : Int), v1 = .int .i64 x1_1 ∧ v5 = .int .i64 x5_1 ∧ Aside0 (laws_szByteSS.l0 kq l0 x1_1 x5_1 = some r) ∧ Aside0 (kq ≤ k) ∧ Drawn0 w w')
    case atStart => exact ⟨(wrap64 (a1 - (l0.length : Int))), (0), (by first | rfl | (simp; done) | (simp [*]; done)), (by first | rfl | (simp; done) | (simp [*]; done)), H', ⟨Nat.le_refl _⟩, by repeat (first | exact Drawn0.refl _ | apply Drawn0.step)⟩
    case round =>
      clear H'
      try clear p2
      try clear c3
      try clear c3b0
      obtain ⟨x1_1, x5_1, rfl, rfl, HA, HK1, ⟨m1, rfl⟩⟩ := hrel
      cases gk with
      | zero => exact absurd HA.out (by simp [laws_szByteSS.l0])
      | succ k1 =>
        have H := HA.out
        clear HA
        simp only [laws_szByteSS.l0] at H
        by_cases c4 : x5_1 < (l0.length : Int)
        · rw [if_pos c4] at H
          have c4b0 : decide (x5_1 < (l0.length : Int)) = true := decide_eq_true c4
          clear c4
          by_cases c5 : 0 ≤ x5_1
          · rw [if_pos c5] at H
            have c5b0 : decide (0 ≤ x5_1) = true := decide_eq_true c5
            clear c5
            replace H := Option.bind_eq_some_iff.mp H
            obtain ⟨t102, A60, H⟩ := H
            replace H : (if t102 < 0 then (some (-1)) else (laws_szByteSS.l0 k1 l0 t102 (wrap64 (x5_1 + 1)))) = some r := H
            have A6 := Aside0.mk A60
            clear A60
            by_cases c7 : t102 < 0
            · rw [if_pos c7] at H
              have c7b0 : decide (t102 < 0) = true := decide_eq_true c7
              clear c7
              obtain rfl := Option.some.inj H
              have p101 : 0 ≤ (x5_1 : Int) := of_decide_eq_true (by first | (with_reducible assumption) | assumption)
              have q101 : x5_1 < (l0.length : Int) := of_decide_eq_true (by first | (with_reducible assumption) | assumption)
              obtain ⟨ad101, A101_0, c101_0, e101, hx101_0, hl101_0, hi101_0⟩ := at_Lsu8 HR0.out x5_1 p101 q101
              cases e101
              have HR101_0 := Aside0.mk hi101_0
              have HC101_0 := Aside0.mk hl101_0
              clear hi101_0 hl101_0
              replace p101 := eq_true p101
              replace q101 := eq_true q101
              go_wp2_with (first | ((with_reducible refine gate_callee (f := 102) rfl ?_); refine goesL_ (some 23) rfl rfl Try.func102 (by kernel_rfl) rfl #[.slice A101_0 (rd_Lsu8 l0 x5_1).length c101_0, .int .i64 x1_1] rfl (by (try simp only [List.map_toArray, List.map_cons, List.map_nil]); first | done | rfl | (simp only [List.length_drop, List.length_take]; rfl)) ?_; (with_reducible refine (laws_szByteS.calls _ _ (rd_Lsu8 l0 x5_1) x1_1 t102 _ ?side1 ?side2 A6.out).mono ?_); (case side1 => repeat (first | exact HR101_0.out | (with_reducible refine Kd.C_alloc ?_ _) | (with_reducible refine Kd.C_drewN ?_ _) | (with_reducible refine Kd.C_drew ?_))); (case side2 => exact HC101_0.out); rintro e w' ⟨rfl, ⟨nd, rfl⟩⟩; refine ⟨_, rfl, ?_⟩))
              go_ret
              exact ⟨by first | rfl | (simp; done) | (simp [*]; done), by repeat (first | exact Drawn0.refl _ | apply Drawn0.step)⟩
            · rw [if_neg c7] at H
              have c7b0 : decide (t102 < 0) = false := decide_eq_false c7
              clear c7
              have H' := Aside0.mk H
              clear H
              have p101 : 0 ≤ (x5_1 : Int) := of_decide_eq_true (by first | (with_reducible assumption) | assumption)
              have q101 : x5_1 < (l0.length : Int) := of_decide_eq_true (by first | (with_reducible assumption) | assumption)
              obtain ⟨ad101, A101_0, c101_0, e101, hx101_0, hl101_0, hi101_0⟩ := at_Lsu8 HR0.out x5_1 p101 q101
              cases e101
              have HR101_0 := Aside0.mk hi101_0
              have HC101_0 := Aside0.mk hl101_0
              clear hi101_0 hl101_0
              replace p101 := eq_true p101
              replace q101 := eq_true q101
              go_wp2_with (first | ((with_reducible refine gate_callee (f := 102) rfl ?_); refine goesL_ (some 23) rfl rfl Try.func102 (by kernel_rfl) rfl #[.slice A101_0 (rd_Lsu8 l0 x5_1).length c101_0, .int .i64 x1_1] rfl (by (try simp only [List.map_toArray, List.map_cons, List.map_nil]); first | done | rfl | (simp only [List.length_drop, List.length_take]; rfl)) ?_; (with_reducible refine (laws_szByteS.calls _ _ (rd_Lsu8 l0 x5_1) x1_1 t102 _ ?side1 ?side2 A6.out).mono ?_); (case side1 => repeat (first | exact HR101_0.out | (with_reducible refine Kd.C_alloc ?_ _) | (with_reducible refine Kd.C_drewN ?_ _) | (with_reducible refine Kd.C_drew ?_))); (case side2 => exact HC101_0.out); rintro e w' ⟨rfl, ⟨nd, rfl⟩⟩; refine ⟨_, rfl, ?_⟩))
              go_roundg k1
              case measure => have := HK1.out; omega
              case rel => exact ⟨(t102), (wrap64 (x5_1 + 1)), (by first | rfl | (simp; done) | (simp [*]; done)), (by first | rfl | (simp; done) | (simp [*]; done)), H', ⟨by have := HK1.out; omega⟩, by repeat (first | exact Drawn0.refl _ | apply Drawn0.step)⟩
          · rw [if_neg c5] at H
            exact absurd H (by simp)
        · rw [if_neg c4] at H
          have c4b0 : decide (x5_1 < (l0.length : Int)) = false := decide_eq_false c4
          clear c4
          obtain rfl := Option.some.inj H
          go_wp2
          go_ret
          exact ⟨by first | rfl | (simp; done) | (simp [*]; done), by repeat (first | exact Drawn0.refl _ | apply Drawn0.step)⟩

end Go.Proofs.Ytaieobidkmihkaa.P


namespace Go.Proofs.Ytaieobidkmihkaa.P
open Go.RowKit Go.Proofs.YtaieobidkmihkaaW.PrintWords Go.Proofs.YtaieobidkmihkaaW.PrintLast Go.Proofs.YtaieobidkmihkaaW.PrintMore
attribute [local go_sem] max2_int min2_int max_two min_two max_three min_three max_four min_four   -- for this text's walks alone
set_option linter.unusedVariables false
set_option linter.unusedSimpArgs false

def laws_toByteS.l0 : Nat → List Int → List Int → Int → Option (List Int)
  | 0, _, _, _ => none
  | k + 1, x0, x3, x4 => if x4 < (x0.length : Int) then (if 0 ≤ x4 then (if x4 < (x3.length : Int) then (laws_toByteS.l0 k x0 (x3.set (x4 : Int).toNat (rd x0 x4)) (wrap64 (x4 + 1))) else (none)) else (none)) else (some x3)
def laws_toByteS.f (k : Nat) (l0 : List Int) : Option (List Int) := if 0 ≤ (l0.length : Int) then (if ((l0.length : Int) : Int).toNat ≤ 281474976710656 then (laws_toByteS.l0 k l0 (List.replicate ((l0.length : Int) : Int).toNat 0) 0) else (none)) else (none)
set_option maxHeartbeats 8000000 in
set_option maxRecDepth 100000 in
theorem laws_toByteS.calls (k : Nat) (A0 : Option Addr) (c0 : Nat) (l0 : List Int) (r : List Int) (w : World) (hr0 : Kd.C (Kd.int .u8) w A0 l0.length l0) (hc0 : l0.length ≤ c0) (h : laws_toByteS.f k l0 = some r) :
    Calls Try.prog 19 #[.slice A0 l0.length c0] w fun e w' => ∃ v0_ : Value, e = .returned (v0_) ∧ Kd.R (Kd.int .u8) 5 w' w.heap.size (fun _ => True) v0_ r ∧ Below w.heap.size w w' := by
  have HR0 := Aside0.mk hr0
  have HC0 := Aside0.mk hc0
  clear hr0 hc0
  have HB := Aside0.mk (Below.refl w.heap.size w)
  have H : (if 0 ≤ (l0.length : Int) then (if ((l0.length : Int) : Int).toNat ≤ 281474976710656 then (laws_toByteS.l0 k l0 (List.replicate ((l0.length : Int) : Int).toNat 0) 0) else (none)) else (none)) = some r := h
  clear h
  by_cases c2 : 0 ≤ (l0.length : Int)
  · rw [if_pos c2] at H
    have c2b0 := eq_true c2
    have c2b1 : decide (0 ≤ (l0.length : Int)) = true := decide_eq_true c2
    clear c2
    by_cases c3 : ((l0.length : Int) : Int).toNat ≤ 281474976710656
    · rw [if_pos c3] at H
      have c3b0 := eq_true c3
      have c3b1 : decide (((l0.length : Int) : Int).toNat ≤ 281474976710656) = true := decide_eq_true c3
      clear c3
      obtain ⟨y197, hy197⟩ : ∃ y_ : List Int, y_ = (List.replicate ((l0.length : Int) : Int).toNat 0) := ⟨_, rfl⟩
      replace H : (laws_toByteS.l0 k l0 y197 0) = some r := by first | (rw [hy197]; with_reducible exact H) | (have H2_ := (Option.bind_some _ _).symm.trans H; rw [hy197]; with_reducible exact H2_) | (have H2_ := (Option.bind_some _ _).symm.trans H; with_reducible exact H2_) | with_reducible exact H | (rw [hy197]; exact H) | exact H
      have Ny197 := Aside0.mk hy197
      clear hy197
      have H' := Aside0.mk H
      clear H
      go_enter Try.func19, Try.ntmps19
      go_wp2_with (first | ((with_reducible refine gate_dst (N := 7) rfl ?_); refine Kd.R_make (Kd.int .u8) _ 5 rfl (N := 7) rfl 29 _ _ rfl (l0.length : Int) rfl rfl Try.underlying29 (.int .u8 0) 1 info5 rfl (by decide) (by omega) 0 (ok := fun _ => True) (okp := fun _ => True) rfl (fun _ hk => hk) trivial (of_decide_eq_true (by first | (with_reducible assumption) | assumption)) (Nat.le_trans (Nat.mul_le_mul_right _ (of_decide_eq_true (by first | (with_reducible assumption) | assumption) : (l0.length : Int).toNat ≤ 281474976710656)) (by omega)) (Below.refl _ _) (Nat.le_refl _) ?_; intro v198 w4 ho5 hb hg_ hnew_; clear hg_ hnew_; (first | rw [← Ny197.out] at ho5 | (simp only [Int.reduceToNat] at ho5; rw [← Ny197.out] at ho5)); have n0_ := Aside0.mk (Kd.R_lower ho5 (below_size (by repeat (first | (with_reducible first | exact HB.out | apply below_alloc | apply pw_below_drewN | apply below_drew1) | exact HB.out)))); have n1_ := Aside0.mk (below_step (by repeat (first | (with_reducible first | exact HB.out | apply below_alloc | apply pw_below_drewN | apply below_drew1) | exact HB.out)) hb); clear HB; have HO199 := n0_; have HB := n1_; clear n0_ n1_; clear hb ho5))
      go_loopg [4] k (fun kq v4 w' => ∃ (x3_1 : List Int) (x4_1 : Int), v4 = .int .i64 x4_1 ∧ Aside0 (laws_toByteS.l0 kq l0 x3_1 x4_1 = some r) ∧ Aside0 (kq ≤ k) ∧ Aside0 (Kd.R (Kd.int .u8) 5 w' w.heap.size (fun _ => True) v198 x3_1) ∧ Aside0 (Below w.heap.size w w'))
      case atStart => exact ⟨(y197), (0), (by first | rfl | (simp; done) | (simp [*]; done)), H', ⟨Nat.le_refl _⟩, ⟨by (with_reducible repeat (first | apply Kd.R_alloc | apply Kd.R_drewN | apply Kd.R_drew)); exact HO199.out⟩, ⟨by repeat (first | (with_reducible first | exact HB.out | apply below_alloc | apply pw_below_drewN | apply below_drew1) | exact HB.out)⟩⟩
      case round =>
        clear H'
        try clear c1
        try clear c2
        try clear c2b0
        try clear c2b1
        try clear p2
        try clear c3
        try clear c3b0
        try clear c3b1
        obtain ⟨x3_1, x4_1, rfl, HA, HK1, HO_3, HB⟩ := hrel
        cases gk with
        | zero => exact absurd HA.out (by simp [laws_toByteS.l0])
        | succ k1 =>
          have H := HA.out
          clear HA
          simp only [laws_toByteS.l0] at H
          by_cases c6 : x4_1 < (l0.length : Int)
          · rw [if_pos c6] at H
            have c6b0 : decide (x4_1 < (l0.length : Int)) = true := decide_eq_true c6
            clear c6
            by_cases c7 : 0 ≤ x4_1
            · rw [if_pos c7] at H
              have c7b0 : decide (0 ≤ x4_1) = true := decide_eq_true c7
              clear c7
              by_cases c8 : x4_1 < (x3_1.length : Int)
              · rw [if_pos c8] at H
                have c8b0 : decide (x4_1 < (x3_1.length : Int)) = true := decide_eq_true c8
                clear c8
                obtain ⟨y201, hy201⟩ : ∃ y_ : List Int, y_ = (x3_1.set (x4_1 : Int).toNat (rd l0 x4_1)) := ⟨_, rfl⟩
                replace H : (laws_toByteS.l0 k1 l0 y201 (wrap64 (x4_1 + 1))) = some r := by first | (rw [hy201]; with_reducible exact H) | (have H2_ := (Option.bind_some _ _).symm.trans H; rw [hy201]; with_reducible exact H2_) | (have H2_ := (Option.bind_some _ _).symm.trans H; with_reducible exact H2_) | with_reducible exact H | (rw [hy201]; exact H) | exact H
                have Ny201 := Aside0.mk hy201
                clear hy201
                have H' := Aside0.mk H
                clear H
                have p200 : 0 ≤ (x4_1 : Int) := of_decide_eq_true (by first | (with_reducible assumption) | assumption)
                have q200 : x4_1 < (l0.length : Int) := of_decide_eq_true (by first | (with_reducible assumption) | assumption)
                obtain ⟨ad200, e200, hx200_0⟩ := Kd.at_int HR0.out x4_1 p200 q200
                cases e200
                replace hx200_0 := (HB.out.cell (World.block_lt_of_cell? w _ hx200_0)).trans hx200_0
                replace p200 := eq_true p200
                replace q200 := eq_true q200
                have p9 : 0 ≤ (x4_1 : Int) := of_decide_eq_true (by first | (with_reducible assumption) | assumption)
                have q9 : (x4_1 : Int) < ((x3_1.length : Int) : Int) := of_decide_eq_true (by first | (with_reducible assumption) | assumption)
                obtain ⟨go9, co9, eo9, gb9, gl9, cl9, HG9⟩ := Kd.R_form HO_3.out (by omega)
                (first | cases eo9 | (injection eo9 with ea_ en_ ec_; (first | subst ea_ | (injection ea_ with ea_; subst ea_)); subst ec_; clear en_))
                have GB9 := Aside0.mk gb9
                have GG9 := Aside0.mk HG9
                clear gb9 gl9 HG9
                obtain ⟨hx9_0, hf9_0⟩ := Kd.R_celln 0 HO_3.out (x4_1 : Int) p9 q9
                replace p9 := eq_true p9
                replace q9 := eq_true q9
                have HP10 := Kd.R_putg HO_3.out (x4_1 : Int) (rd l0 x4_1)
                go_wp2_with (first | ((with_reducible refine gate_store (t := 5) (p := 20) rfl ?_); refine store_event (t := 5) (p := 20) (v := ?vo_w11) (w1 := (wr.setCell ⟨go9, (x4_1 : Int).toNat, none⟩ (.int .u8 (rd l0 x4_1)))) ?hg ?ho ?hn ?hr ?_; (case ho => rfl); (case hg => rfl); (case hn => rfl); (case hr => first | (go_simp; done) | (go_simp; rfl)); intro w11 hw; have hg : wr.grownBy w11 (some go9) := (by rw [hw]; exact HP10.2); have hp_ : Kd.R (Kd.int .u8) 5 w11 w.heap.size (fun _ => True) (.slice (some ⟨go9, 0, none⟩) x3_1.length co9) y201 := (by rw [hw, Ny201.out]; exact HP10.1); clear HP10; have n0_ := Aside0.mk (hp_); have n1_ := Aside0.mk ((by rw [hw]; exact below_set (HB.out) GB9.out : Below w.heap.size w w11)); clear HO_3; clear HB; have HO_3 := n0_; have HB := n1_; clear n0_ n1_; clear hg hw hp_))
                go_roundg k1
                case measure => have := HK1.out; omega
                case rel => exact ⟨(y201), (wrap64 (x4_1 + 1)), (by first | rfl | (simp; done) | (simp [*]; done)), H', ⟨by have := HK1.out; omega⟩, ⟨by (with_reducible repeat (first | apply Kd.R_alloc | apply Kd.R_drewN | apply Kd.R_drew)); exact HO_3.out⟩, ⟨by repeat (first | (with_reducible first | exact HB.out | apply below_alloc | apply pw_below_drewN | apply below_drew1) | exact HB.out)⟩⟩
              · rw [if_neg c8] at H
                exact absurd H (by simp)
            · rw [if_neg c7] at H
              exact absurd H (by simp)
          · rw [if_neg c6] at H
            have c6b0 : decide (x4_1 < (l0.length : Int)) = false := decide_eq_false c6
            clear c6
            obtain rfl := Option.some.inj H
            go_wp2
            go_ret
            exact ⟨_, by first | rfl | (simp [errW_none, errW_some] <;> rfl) | (simp [*, errW_none, errW_some] <;> rfl), by (with_reducible repeat (first | apply Kd.R_alloc | apply Kd.R_drewN | apply Kd.R_drew)); exact HO_3.out, by repeat (first | (with_reducible first | exact HB.out | apply below_alloc | apply pw_below_drewN | apply below_drew1) | exact HB.out)⟩
    · rw [if_neg c3] at H
      exact absurd H (by simp)
  · rw [if_neg c2] at H
    exact absurd H (by simp)

end Go.Proofs.Ytaieobidkmihkaa.P


namespace Go.Proofs.Ytaieobidkmihkaa.P
open Go.RowKit Go.Proofs.YtaieobidkmihkaaW.PrintWords Go.Proofs.YtaieobidkmihkaaW.PrintLast Go.Proofs.YtaieobidkmihkaaW.PrintMore
attribute [local go_sem] max2_int min2_int max_two min_two max_three min_three max_four min_four   -- for this text's walks alone
set_option linter.unusedVariables false
set_option linter.unusedSimpArgs false

def laws_eqByteS.l0 : Nat → List Int → List Int → Int → Option (Bool)
  | 0, _, _, _ => none
  | k + 1, x0, x1, x5 => if x5 < (x0.length : Int) then (if 0 ≤ x5 then (if x5 < (x1.length : Int) then (if (rd x0 x5) = (rd x1 x5) then (laws_eqByteS.l0 k x0 x1 (wrap64 (x5 + 1))) else (some false)) else (none)) else (none)) else (some true)
def laws_eqByteS.f (k : Nat) (l0 : List Int) (l1 : List Int) : Option (Bool) := if (l0.length : Int) = (l1.length : Int) then (laws_eqByteS.l0 k l0 l1 0) else (some false)
set_option maxHeartbeats 8000000 in
set_option maxRecDepth 100000 in
theorem laws_eqByteS.calls (k : Nat) (A0 : Option Addr) (c0 : Nat) (l0 : List Int) (A1 : Option Addr) (c1 : Nat) (l1 : List Int) (r : Bool) (w : World) (hr0 : Kd.C (Kd.int .u8) w A0 l0.length l0) (hc0 : l0.length ≤ c0) (hr1 : Kd.C (Kd.int .u8) w A1 l1.length l1) (hc1 : l1.length ≤ c1) (h : laws_eqByteS.f k l0 l1 = some r) :
    Calls Try.prog 23 #[.slice A0 l0.length c0, .slice A1 l1.length c1] w fun e w' => e = .returned (.bool r) ∧ Drawn0 w w' := by
  have HR0 := Aside0.mk hr0
  have HC0 := Aside0.mk hc0
  clear hr0 hc0
  have HR1 := Aside0.mk hr1
  have HC1 := Aside0.mk hc1
  clear hr1 hc1
  have H : (if (l0.length : Int) = (l1.length : Int) then (laws_eqByteS.l0 k l0 l1 0) else (some false)) = some r := h
  clear h
  by_cases c3 : (l0.length : Int) = (l1.length : Int)
  · rw [if_pos c3] at H
    have c3b0 : ((l0.length : Int) == (l1.length : Int)) = true := beq_iff_eq.mpr c3
    have c3b1 : ((l0.length : Int) != (l1.length : Int)) = false := bne_eq_false_iff_eq.mpr c3
    have c3b2 : (l0.length == l1.length) = true := by first | simpa using c3 | (simp at c3 ⊢; omega)
    clear c3
    have H' := Aside0.mk H
    clear H
    go_enter Try.func23, Try.ntmps23
    go_wp2
    repeat (go_quiet (fail); try go_wp2)
    go_loopg [5] k (fun kq v5 w' => ∃ (x5_1 : Int), v5 = .int .i64 x5_1 ∧ Aside0 (laws_eqByteS.l0 kq l0 l1 x5_1 = some r) ∧ Aside0 (kq ≤ k) ∧ Drawn0 w w')
    case atStart => exact ⟨(0), (by first | rfl | (simp; done) | (simp [*]; done)), H', ⟨Nat.le_refl _⟩, by repeat (first | exact Drawn0.refl _ | apply Drawn0.step)⟩
    case round =>
      clear H'
      try clear c1
      try clear c2
      try clear p2
      try clear c3
      try clear c3b0
      try clear c3b1
      try clear c3b2
      obtain ⟨x5_1, rfl, HA, HK1, ⟨m1, rfl⟩⟩ := hrel
      cases gk with
      | zero => exact absurd HA.out (by simp [laws_eqByteS.l0])
      | succ k1 =>
        have H := HA.out
        clear HA
        simp only [laws_eqByteS.l0] at H
        by_cases c4 : x5_1 < (l0.length : Int)
        · rw [if_pos c4] at H
          have c4b0 : decide (x5_1 < (l0.length : Int)) = true := decide_eq_true c4
          clear c4
          by_cases c5 : 0 ≤ x5_1
          · rw [if_pos c5] at H
            have c5b0 : decide (0 ≤ x5_1) = true := decide_eq_true c5
            clear c5
            by_cases c6 : x5_1 < (l1.length : Int)
            · rw [if_pos c6] at H
              have c6b0 : decide (x5_1 < (l1.length : Int)) = true := decide_eq_true c6
              clear c6
              by_cases c7 : (rd l0 x5_1) = (rd l1 x5_1)
              · rw [if_pos c7] at H
                have c7b0 : ((rd l0 x5_1) == (rd l1 x5_1)) = true := beq_iff_eq.mpr c7
                have c7b1 : ((rd l0 x5_1) != (rd l1 x5_1)) = false := bne_eq_false_iff_eq.mpr c7
                clear c7
                have H' := Aside0.mk H
                clear H
                have p266 : 0 ≤ (x5_1 : Int) := of_decide_eq_true (by first | (with_reducible assumption) | assumption)
                have q266 : x5_1 < (l0.length : Int) := of_decide_eq_true (by first | (with_reducible assumption) | assumption)
                obtain ⟨ad266, e266, hx266_0⟩ := Kd.at_int HR0.out x5_1 p266 q266
                cases e266
                replace p266 := eq_true p266
                replace q266 := eq_true q266
                have p267 : 0 ≤ (x5_1 : Int) := of_decide_eq_true (by first | (with_reducible assumption) | assumption)
                have q267 : x5_1 < (l1.length : Int) := of_decide_eq_true (by first | (with_reducible assumption) | assumption)
                obtain ⟨ad267, e267, hx267_0⟩ := Kd.at_int HR1.out x5_1 p267 q267
                cases e267
                replace p267 := eq_true p267
                replace q267 := eq_true q267
                go_wp2
                repeat (go_quiet (fail); try go_wp2)
                go_roundg k1
                case measure => have := HK1.out; omega
                case rel => exact ⟨(wrap64 (x5_1 + 1)), (by first | rfl | (simp; done) | (simp [*]; done)), H', ⟨by have := HK1.out; omega⟩, by repeat (first | exact Drawn0.refl _ | apply Drawn0.step)⟩
              · rw [if_neg c7] at H
                have c7b0 : ((rd l0 x5_1) == (rd l1 x5_1)) = false := beq_eq_false_iff_ne.mpr c7
                have c7b1 : ((rd l0 x5_1) != (rd l1 x5_1)) = true := bne_iff_ne.mpr c7
                obtain rfl := Option.some.inj H
                have p266 : 0 ≤ (x5_1 : Int) := of_decide_eq_true (by first | (with_reducible assumption) | assumption)
                have q266 : x5_1 < (l0.length : Int) := of_decide_eq_true (by first | (with_reducible assumption) | assumption)
                obtain ⟨ad266, e266, hx266_0⟩ := Kd.at_int HR0.out x5_1 p266 q266
                cases e266
                replace p266 := eq_true p266
                replace q266 := eq_true q266
                have p267 : 0 ≤ (x5_1 : Int) := of_decide_eq_true (by first | (with_reducible assumption) | assumption)
                have q267 : x5_1 < (l1.length : Int) := of_decide_eq_true (by first | (with_reducible assumption) | assumption)
                obtain ⟨ad267, e267, hx267_0⟩ := Kd.at_int HR1.out x5_1 p267 q267
                cases e267
                replace p267 := eq_true p267
                replace q267 := eq_true q267
                go_wp2
                repeat (go_quiet (fail); try go_wp2)
                go_ret
                exact ⟨by first | rfl | (simp; done) | (simp [*]; done), by repeat (first | exact Drawn0.refl _ | apply Drawn0.step)⟩
            · rw [if_neg c6] at H
              exact absurd H (by simp)
          · rw [if_neg c5] at H
            exact absurd H (by simp)
        · rw [if_neg c4] at H
          have c4b0 : decide (x5_1 < (l0.length : Int)) = false := decide_eq_false c4
          clear c4
          obtain rfl := Option.some.inj H
          go_wp2
          repeat (go_quiet (fail); try go_wp2)
          go_ret
          exact ⟨by first | rfl | (simp; done) | (simp [*]; done), by repeat (first | exact Drawn0.refl _ | apply Drawn0.step)⟩
  · rw [if_neg c3] at H
    have c3b0 : ((l0.length : Int) == (l1.length : Int)) = false := beq_eq_false_iff_ne.mpr c3
    have c3b1 : ((l0.length : Int) != (l1.length : Int)) = true := bne_iff_ne.mpr c3
    have c3b2 : (l0.length == l1.length) = false := by first | simpa using c3 | (simp at c3 ⊢; omega)
    obtain rfl := Option.some.inj H
    go_enter Try.func23, Try.ntmps23
    go_wp2
    repeat (go_quiet (fail); try go_wp2)
    go_ret
    exact ⟨by first | rfl | (simp; done) | (simp [*]; done), by repeat (first | exact Drawn0.refl _ | apply Drawn0.step)⟩

end Go.Proofs.Ytaieobidkmihkaa.P


namespace Go.Proofs.Ytaieobidkmihkaa.P
open Go.RowKit Go.Proofs.YtaieobidkmihkaaW.PrintWords Go.Proofs.YtaieobidkmihkaaW.PrintLast Go.Proofs.YtaieobidkmihkaaW.PrintMore
attribute [local go_sem] max2_int min2_int max_two min_two max_three min_three max_four min_four   -- for this text's walks alone
set_option linter.unusedVariables false
set_option linter.unusedSimpArgs false

def laws_eqByteSS.l0 : Nat → List (List Int) → List (List Int) → Int → Option (Bool)
  | 0, _, _, _ => none
  | k + 1, x0, x1, x5 => if x5 < (x0.length : Int) then (if 0 ≤ x5 then (if x5 < (x1.length : Int) then ((laws_eqByteS.f k (rd_Lsu8 x0 x5) (rd_Lsu8 x1 x5)).bind fun t270 => (if t270 = true then (laws_eqByteSS.l0 k x0 x1 (wrap64 (x5 + 1))) else (some false))) else (none)) else (none)) else (some true)
def laws_eqByteSS.f (k : Nat) (l0 : List (List Int)) (l1 : List (List Int)) : Option (Bool) := if (l0.length : Int) = (l1.length : Int) then (laws_eqByteSS.l0 k l0 l1 0) else (some false)
set_option maxHeartbeats 8000000 in
set_option maxRecDepth 100000 in
theorem laws_eqByteSS.calls (k : Nat) (A0 : Option Addr) (c0 : Nat) (l0 : List (List Int)) (A1 : Option Addr) (c1 : Nat) (l1 : List (List Int)) (r : Bool) (w : World) (hr0 : Kd.C (Kd.slice 5 (Kd.int .u8)) w A0 l0.length l0) (hc0 : l0.length ≤ c0) (hr1 : Kd.C (Kd.slice 5 (Kd.int .u8)) w A1 l1.length l1) (hc1 : l1.length ≤ c1) (h : laws_eqByteSS.f k l0 l1 = some r) :
    Calls Try.prog 59 #[.slice A0 l0.length c0, .slice A1 l1.length c1] w fun e w' => e = .returned (.bool r) ∧ Drawn0 w w' := by
  have HR0 := Aside0.mk hr0
  have HC0 := Aside0.mk hc0
  clear hr0 hc0
  have HR1 := Aside0.mk hr1
  have HC1 := Aside0.mk hc1
  clear hr1 hc1
  have H : (if (l0.length : Int) = (l1.length : Int) then (laws_eqByteSS.l0 k l0 l1 0) else (some false)) = some r := h
  clear h
  by_cases c3 : (l0.length : Int) = (l1.length : Int)
  · rw [if_pos c3] at H
    have c3b0 : ((l0.length : Int) == (l1.length : Int)) = true := beq_iff_eq.mpr c3
    have c3b1 : ((l0.length : Int) != (l1.length : Int)) = false := bne_eq_false_iff_eq.mpr c3
    have c3b2 : (l0.length == l1.length) = true := by first | simpa using c3 | (simp at c3 ⊢; omega)
    clear c3
    have H' := Aside0.mk H
    clear H
    go_enter Try.func59, Try.ntmps59
    go_wp2
    repeat (go_quiet (fail); try go_wp2)
    go_loopg [5] k (fun kq v5 w' => ∃ (x5_1 : Int), v5 = .int .i64 x5_1 ∧ Aside0 (laws_eqByteSS.l0 kq l0 l1 x5_1 = some r) ∧ Aside0 (kq ≤ k) ∧ Drawn0 w w')
    case atStart => exact ⟨(0), (by first | rfl | (simp; done) | (simp [*]; done)), H', ⟨Nat.le_refl _⟩, by repeat (first | exact Drawn0.refl _ | apply Drawn0.step)⟩
    case round =>
      clear H'
      try clear c1
      try clear p2
      try clear c3
      try clear c3b0
      try clear c3b1
      try clear c3b2
      obtain ⟨x5_1, rfl, HA, HK1, ⟨m1, rfl⟩⟩ := hrel
      cases gk with
      | zero => exact absurd HA.out (by simp [laws_eqByteSS.l0])
      | succ k1 =>
        have H := HA.out
        clear HA
        simp only [laws_eqByteSS.l0] at H
        by_cases c4 : x5_1 < (l0.length : Int)
        · rw [if_pos c4] at H
          have c4b0 : decide (x5_1 < (l0.length : Int)) = true := decide_eq_true c4
          clear c4
          by_cases c5 : 0 ≤ x5_1
          · rw [if_pos c5] at H
            have c5b0 : decide (0 ≤ x5_1) = true := decide_eq_true c5
            clear c5
            by_cases c6 : x5_1 < (l1.length : Int)
            · rw [if_pos c6] at H
              have c6b0 : decide (x5_1 < (l1.length : Int)) = true := decide_eq_true c6
              clear c6
              replace H := Option.bind_eq_some_iff.mp H
              obtain ⟨t270, A70, H⟩ := H
              replace H : (if t270 = true then (laws_eqByteSS.l0 k1 l0 l1 (wrap64 (x5_1 + 1))) else (some false)) = some r := H
              have A7 := Aside0.mk A70
              clear A70
              by_cases c8 : t270 = true
              · subst c8
                have H1 : (laws_eqByteSS.l0 k1 l0 l1 (wrap64 (x5_1 + 1))) = some r := by rw [if_pos rfl] at H; exact H
                clear H
                have H := H1
                clear H1
                have H' := Aside0.mk H
                clear H
                have p268 : 0 ≤ (x5_1 : Int) := of_decide_eq_true (by first | (with_reducible assumption) | assumption)
                have q268 : x5_1 < (l0.length : Int) := of_decide_eq_true (by first | (with_reducible assumption) | assumption)
                obtain ⟨ad268, A268_0, c268_0, e268, hx268_0, hl268_0, hi268_0⟩ := at_Lsu8 HR0.out x5_1 p268 q268
                cases e268
                have HR268_0 := Aside0.mk hi268_0
                have HC268_0 := Aside0.mk hl268_0
                clear hi268_0 hl268_0
                replace p268 := eq_true p268
                replace q268 := eq_true q268
                have p269 : 0 ≤ (x5_1 : Int) := of_decide_eq_true (by first | (with_reducible assumption) | assumption)
                have q269 : x5_1 < (l1.length : Int) := of_decide_eq_true (by first | (with_reducible assumption) | assumption)
                obtain ⟨ad269, A269_0, c269_0, e269, hx269_0, hl269_0, hi269_0⟩ := at_Lsu8 HR1.out x5_1 p269 q269
                cases e269
                have HR269_0 := Aside0.mk hi269_0
                have HC269_0 := Aside0.mk hl269_0
                clear hi269_0 hl269_0
                replace p269 := eq_true p269
                replace q269 := eq_true q269
                go_wp2_with (first | (go_at_call 23; (with_reducible refine (laws_eqByteS.calls k1 _ _ (rd_Lsu8 l0 x5_1) _ _ (rd_Lsu8 l1 x5_1) true _ ?side1 ?side2 ?side3 ?side4 A7.out).mono ?_); (case side1 => repeat (first | exact HR268_0.out | (with_reducible refine Kd.C_alloc ?_ _) | (with_reducible refine Kd.C_drewN ?_ _) | (with_reducible refine Kd.C_drew ?_))); (case side2 => exact HC268_0.out); (case side3 => repeat (first | exact HR269_0.out | (with_reducible refine Kd.C_alloc ?_ _) | (with_reducible refine Kd.C_drewN ?_ _) | (with_reducible refine Kd.C_drew ?_))); (case side4 => exact HC269_0.out); rintro e w' ⟨rfl, ⟨nd, rfl⟩⟩; (try first | exact ⟨rfl, _, World.drewN_drewN _ _ _⟩ | exact ⟨rfl, _, Eq.trans (World.drewN_drewN _ _ _) (congrArg (World.drewN _) (Nat.add_assoc _ _ _))⟩)))
                repeat (go_quiet (first | (go_at_call 23; (with_reducible refine (laws_eqByteS.calls k1 _ _ (rd_Lsu8 l0 x5_1) _ _ (rd_Lsu8 l1 x5_1) true _ ?side1 ?side2 ?side3 ?side4 A7.out).mono ?_); (case side1 => repeat (first | exact HR268_0.out | (with_reducible refine Kd.C_alloc ?_ _) | (with_reducible refine Kd.C_drewN ?_ _) | (with_reducible refine Kd.C_drew ?_))); (case side2 => exact HC268_0.out); (case side3 => repeat (first | exact HR269_0.out | (with_reducible refine Kd.C_alloc ?_ _) | (with_reducible refine Kd.C_drewN ?_ _) | (with_reducible refine Kd.C_drew ?_))); (case side4 => exact HC269_0.out); rintro e w' ⟨rfl, ⟨nd, rfl⟩⟩; (try first | exact ⟨rfl, _, World.drewN_drewN _ _ _⟩ | exact ⟨rfl, _, Eq.trans (World.drewN_drewN _ _ _) (congrArg (World.drewN _) (Nat.add_assoc _ _ _))⟩))); try go_wp2_with (first | (go_at_call 23; (with_reducible refine (laws_eqByteS.calls k1 _ _ (rd_Lsu8 l0 x5_1) _ _ (rd_Lsu8 l1 x5_1) true _ ?side1 ?side2 ?side3 ?side4 A7.out).mono ?_); (case side1 => repeat (first | exact HR268_0.out | (with_reducible refine Kd.C_alloc ?_ _) | (with_reducible refine Kd.C_drewN ?_ _) | (with_reducible refine Kd.C_drew ?_))); (case side2 => exact HC268_0.out); (case side3 => repeat (first | exact HR269_0.out | (with_reducible refine Kd.C_alloc ?_ _) | (with_reducible refine Kd.C_drewN ?_ _) | (with_reducible refine Kd.C_drew ?_))); (case side4 => exact HC269_0.out); rintro e w' ⟨rfl, ⟨nd, rfl⟩⟩; (try first | exact ⟨rfl, _, World.drewN_drewN _ _ _⟩ | exact ⟨rfl, _, Eq.trans (World.drewN_drewN _ _ _) (congrArg (World.drewN _) (Nat.add_assoc _ _ _))⟩))))
                go_roundg k1
                case measure => have := HK1.out; omega
                case rel => exact ⟨(wrap64 (x5_1 + 1)), (by first | rfl | (simp; done) | (simp [*]; done)), H', ⟨by have := HK1.out; omega⟩, by repeat (first | exact Drawn0.refl _ | apply Drawn0.step)⟩
              · replace c8 := Bool.eq_false_iff.mpr c8
                subst c8
                have H1 : (some false) = some r := by rw [if_neg (show ¬ (false = true) by decide)] at H; exact H
                clear H
                have H := H1
                clear H1
                obtain rfl := Option.some.inj H
                have p268 : 0 ≤ (x5_1 : Int) := of_decide_eq_true (by first | (with_reducible assumption) | assumption)
                have q268 : x5_1 < (l0.length : Int) := of_decide_eq_true (by first | (with_reducible assumption) | assumption)
                obtain ⟨ad268, A268_0, c268_0, e268, hx268_0, hl268_0, hi268_0⟩ := at_Lsu8 HR0.out x5_1 p268 q268
                cases e268
                have HR268_0 := Aside0.mk hi268_0
                have HC268_0 := Aside0.mk hl268_0
                clear hi268_0 hl268_0
                replace p268 := eq_true p268
                replace q268 := eq_true q268
                have p269 : 0 ≤ (x5_1 : Int) := of_decide_eq_true (by first | (with_reducible assumption) | assumption)
                have q269 : x5_1 < (l1.length : Int) := of_decide_eq_true (by first | (with_reducible assumption) | assumption)
                obtain ⟨ad269, A269_0, c269_0, e269, hx269_0, hl269_0, hi269_0⟩ := at_Lsu8 HR1.out x5_1 p269 q269
                cases e269
                have HR269_0 := Aside0.mk hi269_0
                have HC269_0 := Aside0.mk hl269_0
                clear hi269_0 hl269_0
                replace p269 := eq_true p269
                replace q269 := eq_true q269
                go_wp2_with (first | (go_at_call 23; (with_reducible refine (laws_eqByteS.calls k1 _ _ (rd_Lsu8 l0 x5_1) _ _ (rd_Lsu8 l1 x5_1) false _ ?side1 ?side2 ?side3 ?side4 A7.out).mono ?_); (case side1 => repeat (first | exact HR268_0.out | (with_reducible refine Kd.C_alloc ?_ _) | (with_reducible refine Kd.C_drewN ?_ _) | (with_reducible refine Kd.C_drew ?_))); (case side2 => exact HC268_0.out); (case side3 => repeat (first | exact HR269_0.out | (with_reducible refine Kd.C_alloc ?_ _) | (with_reducible refine Kd.C_drewN ?_ _) | (with_reducible refine Kd.C_drew ?_))); (case side4 => exact HC269_0.out); rintro e w' ⟨rfl, ⟨nd, rfl⟩⟩; (try first | exact ⟨rfl, _, World.drewN_drewN _ _ _⟩ | exact ⟨rfl, _, Eq.trans (World.drewN_drewN _ _ _) (congrArg (World.drewN _) (Nat.add_assoc _ _ _))⟩)))
                repeat (go_quiet (first | (go_at_call 23; (with_reducible refine (laws_eqByteS.calls k1 _ _ (rd_Lsu8 l0 x5_1) _ _ (rd_Lsu8 l1 x5_1) false _ ?side1 ?side2 ?side3 ?side4 A7.out).mono ?_); (case side1 => repeat (first | exact HR268_0.out | (with_reducible refine Kd.C_alloc ?_ _) | (with_reducible refine Kd.C_drewN ?_ _) | (with_reducible refine Kd.C_drew ?_))); (case side2 => exact HC268_0.out); (case side3 => repeat (first | exact HR269_0.out | (with_reducible refine Kd.C_alloc ?_ _) | (with_reducible refine Kd.C_drewN ?_ _) | (with_reducible refine Kd.C_drew ?_))); (case side4 => exact HC269_0.out); rintro e w' ⟨rfl, ⟨nd, rfl⟩⟩; (try first | exact ⟨rfl, _, World.drewN_drewN _ _ _⟩ | exact ⟨rfl, _, Eq.trans (World.drewN_drewN _ _ _) (congrArg (World.drewN _) (Nat.add_assoc _ _ _))⟩))); try go_wp2_with (first | (go_at_call 23; (with_reducible refine (laws_eqByteS.calls k1 _ _ (rd_Lsu8 l0 x5_1) _ _ (rd_Lsu8 l1 x5_1) false _ ?side1 ?side2 ?side3 ?side4 A7.out).mono ?_); (case side1 => repeat (first | exact HR268_0.out | (with_reducible refine Kd.C_alloc ?_ _) | (with_reducible refine Kd.C_drewN ?_ _) | (with_reducible refine Kd.C_drew ?_))); (case side2 => exact HC268_0.out); (case side3 => repeat (first | exact HR269_0.out | (with_reducible refine Kd.C_alloc ?_ _) | (with_reducible refine Kd.C_drewN ?_ _) | (with_reducible refine Kd.C_drew ?_))); (case side4 => exact HC269_0.out); rintro e w' ⟨rfl, ⟨nd, rfl⟩⟩; (try first | exact ⟨rfl, _, World.drewN_drewN _ _ _⟩ | exact ⟨rfl, _, Eq.trans (World.drewN_drewN _ _ _) (congrArg (World.drewN _) (Nat.add_assoc _ _ _))⟩))))
                go_ret
                exact ⟨by first | rfl | (simp; done) | (simp [*]; done), by repeat (first | exact Drawn0.refl _ | apply Drawn0.step)⟩
            · rw [if_neg c6] at H
              exact absurd H (by simp)
          · rw [if_neg c5] at H
            exact absurd H (by simp)
        · rw [if_neg c4] at H
          have c4b0 : decide (x5_1 < (l0.length : Int)) = false := decide_eq_false c4
          clear c4
          obtain rfl := Option.some.inj H
          go_wp2
          repeat (go_quiet (fail); try go_wp2)
          go_ret
          exact ⟨by first | rfl | (simp; done) | (simp [*]; done), by repeat (first | exact Drawn0.refl _ | apply Drawn0.step)⟩
  · rw [if_neg c3] at H
    have c3b0 : ((l0.length : Int) == (l1.length : Int)) = false := beq_eq_false_iff_ne.mpr c3
    have c3b1 : ((l0.length : Int) != (l1.length : Int)) = true := bne_iff_ne.mpr c3
    have c3b2 : (l0.length == l1.length) = false := by first | simpa using c3 | (simp at c3 ⊢; omega)
    obtain rfl := Option.some.inj H
    go_enter Try.func59, Try.ntmps59
    go_wp2
    repeat (go_quiet (fail); try go_wp2)
    go_ret
    exact ⟨by first | rfl | (simp; done) | (simp [*]; done), by repeat (first | exact Drawn0.refl _ | apply Drawn0.step)⟩

end Go.Proofs.Ytaieobidkmihkaa.P


/- Plain functions of the marks, and what the printed loops over bytes come to. -/
namespace Go.Proofs.Ytaieobidkmihkaa.P
open Go.RowKit Go.Proofs.YtaieobidkmihkaaW.PrintWords
set_option linter.unusedVariables false
def marksB : Int → List Int → List Int
  | _, [] => []
  | k, _ :: xs => k % 256 :: marksB (k + 1) xs
def marksBB : Int → List (List Int) → List (List Int)
  | _, [] => []
  | k, x :: xs => marksB k x :: marksBB (k + x.length) xs
def sizeBB : List (List Int) → Nat
  | [] => 0
  | x :: xs => x.length + sizeBB xs
theorem marksBB_length (xs : List (List Int)) : ∀ k, (marksBB k xs).length = xs.length := by
  induction xs with
  | nil => intro k; rfl
  | cons x xs ih => intro k; simp [marksBB, ih]
theorem rd_mid (pre : List Int) (x : Int) (suf : List Int) : rd (pre ++ x :: suf) (pre.length : Int) = x := by
  unfold rd
  simp
theorem rdB_mid (pre : List (List Int)) (x : List Int) (suf : List (List Int)) : rd_Lsu8 (pre ++ x :: suf) (pre.length : Int) = x := by
  unfold rd_Lsu8
  simp
theorem wrap_ok {x : Int} (h0 : -9223372036854775808 ≤ x) (h1 : x ≤ 9223372036854775807) : wrap64 x = x := by
  unfold wrap64
  omega
theorem wrap_len {n : Nat} (h : (n : Int) + 1 ≤ 9223372036854775807) : wrap64 ((n : Int) + 1) = ((n + 1 : Nat) : Int) := by
  unfold wrap64
  omega
theorem markByteS_ev (suf : List Int) : ∀ (pre : List Int) (a : Int), 0 ≤ a → a + suf.length ≤ 4611686018427387904 → pre.length + suf.length ≤ 4611686018427387904 →
    Ev (fun k => laws_markByteS.l0 k (pre ++ suf) a (pre.length : Int)) (a + suf.length, pre ++ marksB a suf) := by
  induction suf with
  | nil =>
    intro pre a h0 h1 h2
    refine Ev.step (fun k => ?_) (Ev.now _)
    simp [laws_markByteS.l0, marksB]
  | cons x suf ih =>
    intro pre a h0 h1 h2
    simp only [List.length_cons] at h1 h2
    refine Ev.step (f := fun k => laws_markByteS.l0 k ((pre ++ [a % 256]) ++ suf) (a + 1) ((pre ++ [a % 256]).length : Int)) (fun k => ?_) ?_
    · simp only [laws_markByteS.l0]
      rw [if_pos (by simp; omega), if_pos (by omega), wrap_ok (by omega) (by omega), wrap_len (by omega)]
      simp
    · have := ih (pre ++ [a % 256]) (a + 1) (by omega) (by omega) (by simp; omega)
      simp only [marksB]
      rw [show a + ((x :: suf).length : Int) = a + 1 + (suf.length : Int) from by simp; omega]
      simpa using this
theorem markByteS_f (l : List Int) (a : Int) (h0 : 0 ≤ a) (h1 : a + l.length ≤ 4611686018427387904) : Ev (fun k => laws_markByteS.f k l a) (a + l.length, marksB a l) := by
  have := markByteS_ev l [] a h0 h1 (by simp; omega)
  simpa [laws_markByteS.f] using this
theorem heldByteS_ev (suf : List Int) : ∀ (pre : List Int) (a : Int), 0 ≤ a → a + suf.length ≤ 4611686018427387904 → pre.length + suf.length ≤ 4611686018427387904 →
    Ev (fun k => laws_heldByteS.l0 k (pre ++ marksB a suf) a (pre.length : Int)) (a + suf.length) := by
  induction suf with
  | nil =>
    intro pre a h0 h1 h2
    refine Ev.step (fun k => ?_) (Ev.now _)
    simp [laws_heldByteS.l0, marksB]
  | cons x suf ih =>
    intro pre a h0 h1 h2
    simp only [List.length_cons] at h1 h2
    rw [show marksB a (x :: suf) = a % 256 :: marksB (a + 1) suf from rfl]
    refine Ev.step (f := fun k => laws_heldByteS.l0 k ((pre ++ [a % 256]) ++ marksB (a + 1) suf) (a + 1) ((pre ++ [a % 256]).length : Int)) (fun k => ?_) ?_
    · simp only [laws_heldByteS.l0]
      rw [if_pos (by simp; omega), if_pos (by omega), rd_mid, if_pos rfl, wrap_ok (by omega) (by omega), wrap_len (by omega)]
      simp
    · have := ih (pre ++ [a % 256]) (a + 1) (by omega) (by omega) (by simp; omega)
      rw [show a + ((x :: suf).length : Int) = a + 1 + (suf.length : Int) from by simp; omega]
      exact this
theorem heldByteS_f (l : List Int) (a : Int) (h0 : 0 ≤ a) (h1 : a + l.length ≤ 4611686018427387904) : Ev (fun k => laws_heldByteS.f k (marksB a l) a) (a + l.length) := by
  have := heldByteS_ev l [] a h0 h1 (by simp; omega)
  simpa [laws_heldByteS.f] using this
theorem heldByteSS_ev (suf : List (List Int)) : ∀ (pre : List (List Int)) (a : Int), 0 ≤ a → a + sizeBB suf ≤ 4611686018427387904 → pre.length + suf.length ≤ 4611686018427387904 →
    Ev (fun k => laws_heldByteSS.l0 k (pre ++ marksBB a suf) a (pre.length : Int)) (a + sizeBB suf) := by
  induction suf with
  | nil =>
    intro pre a h0 h1 h2
    refine Ev.step (fun k => ?_) (Ev.now _)
    simp [laws_heldByteSS.l0, marksBB, sizeBB]
  | cons x suf ih =>
    intro pre a h0 h1 h2
    simp only [List.length_cons, sizeBB] at h1 h2
    rw [show marksBB a (x :: suf) = marksB a x :: marksBB (a + x.length) suf from rfl]
    refine Ev.step (f := fun k => (laws_heldByteS.f k (marksB a x) a).bind fun t => if t < 0 then some (-1) else laws_heldByteSS.l0 k ((pre ++ [marksB a x]) ++ marksBB (a + x.length) suf) t ((pre ++ [marksB a x]).length : Int)) (fun k => ?_) ?_
    · simp only [laws_heldByteSS.l0]
      rw [if_pos (by simp; omega), if_pos (by omega), rdB_mid, wrap_len (by omega)]
      simp
    · refine Ev.bind (heldByteS_f x a h0 (by omega)) ?_
      simp only [if_neg (show ¬ a + (x.length : Int) < 0 by omega)]
      have := ih (pre ++ [marksB a x]) (a + x.length) (by omega) (by omega) (by simp; omega)
      simp only [sizeBB]
      rw [show a + ((x.length + sizeBB suf : Nat) : Int) = a + x.length + (sizeBB suf : Int) from by omega]
      simpa using this
theorem heldByteSS_f (l : List (List Int)) (a : Int) (h0 : 0 ≤ a) (h1 : a + sizeBB l ≤ 4611686018427387904) (h2 : l.length ≤ 4611686018427387904) : Ev (fun k => laws_heldByteSS.f k (marksBB a l) a) (a + sizeBB l) := by
  have := heldByteSS_ev l [] a h0 h1 (by simp; omega)
  simpa [laws_heldByteSS.f] using this
end Go.Proofs.Ytaieobidkmihkaa.P


namespace Go.Proofs.Ytaieobidkmihkaa.P
open Go.RowKit Go.Proofs.YtaieobidkmihkaaW.PrintWords Go.Proofs.YtaieobidkmihkaaW.PrintLast Go.Proofs.YtaieobidkmihkaaW.PrintMore
attribute [local go_sem] max2_int min2_int max_two min_two max_three min_three max_four min_four   -- for this text's walks alone
set_option linter.unusedVariables false
set_option linter.unusedSimpArgs false

def impl_within.f (a0 : Int) (a1 : Int) (a2 : Int) : Option (Bool) := if a0 ≥ a1 then (some (decide (a0 ≤ a2))) else (some false)
set_option maxHeartbeats 8000000 in
set_option maxRecDepth 100000 in
theorem impl_within.calls (a0 : Int) (a1 : Int) (a2 : Int) (r : Bool) (w : World) (h : impl_within.f a0 a1 a2 = some r) :
    Calls Try.prog 81 #[.int .i64 a0, .int .i64 a1, .int .i64 a2] w fun e w' => e = .returned (.bool r) ∧ Drawn0 w w' := by
  have H : (if a0 ≥ a1 then (some (decide (a0 ≤ a2))) else (some false)) = some r := h
  clear h
  by_cases c4 : a0 ≥ a1
  · rw [if_pos c4] at H
    have c4b0 : decide (a1 ≤ a0) = true := decide_eq_true c4
    clear c4
    obtain rfl := Option.some.inj H
    go_enter Try.func81, Try.ntmps81
    go_wp2
    go_ret
    exact ⟨by first | rfl | (simp; done) | (simp [*]; done), by repeat (first | exact Drawn0.refl _ | apply Drawn0.step)⟩
  · rw [if_neg c4] at H
    have c4b0 : decide (a1 ≤ a0) = false := decide_eq_false c4
    clear c4
    obtain rfl := Option.some.inj H
    go_enter Try.func81, Try.ntmps81
    go_wp2
    go_ret
    exact ⟨by first | rfl | (simp; done) | (simp [*]; done), by repeat (first | exact Drawn0.refl _ | apply Drawn0.step)⟩

end Go.Proofs.Ytaieobidkmihkaa.P


namespace Go.Proofs.Ytaieobidkmihkaa.P
open Go.RowKit Go.Proofs.YtaieobidkmihkaaW.PrintWords Go.Proofs.YtaieobidkmihkaaW.PrintLast Go.Proofs.YtaieobidkmihkaaW.PrintMore
attribute [local go_sem] max2_int min2_int max_two min_two max_three min_three max_four min_four   -- for this text's walks alone
set_option linter.unusedVariables false
set_option linter.unusedSimpArgs false

def impl_IsMemory.l0 : Nat → List (List Int) → Int → Int → List (List Int) → Option (Bool)
  | 0, _, _, _, _ => none
  | k + 1, x6, x7, x8, x219000 => if x8 < x7 then (if 0 ≤ x8 then (if x8 < (x6.length : Int) then ((impl_within.f ((rd_Lsu8 x6 x8).length : Int) 1 64).bind fun t220 => (if t220 = true then (impl_IsMemory.l0 k x6 x7 (wrap64 (x8 + 1)) x219000) else (some false))) else (none)) else (none)) else (some (decide ((x219000.length : Int) ≤ 16)))
def impl_IsMemory.f (k : Nat) (l0_0 : List (List Int)) : Option (Bool) := impl_IsMemory.l0 k l0_0 (l0_0.length : Int) 0 l0_0
set_option maxHeartbeats 8000000 in
set_option maxRecDepth 100000 in
theorem impl_IsMemory.calls (k : Nat) (A0_0 : Option Addr) (c0_0 : Nat) (l0_0 : List (List Int)) (r : Bool) (w : World) (hr0_0 : Kd.C (Kd.slice 5 (Kd.int .u8)) w A0_0 l0_0.length l0_0) (hc0_0 : l0_0.length ≤ c0_0) (h : impl_IsMemory.f k l0_0 = some r) :
    Calls Try.prog 111 #[.agg #[.slice A0_0 l0_0.length c0_0]] w fun e w' => e = .returned (.bool r) ∧ Below w.heap.size w w' := by
  have hu31 := Try.underlying31
  have HR0_0 := Aside0.mk hr0_0
  have HC0_0 := Aside0.mk hc0_0
  clear hr0_0 hc0_0
  have HB := Aside0.mk (Below.refl w.heap.size w)
  have H : (impl_IsMemory.l0 k l0_0 (l0_0.length : Int) 0 l0_0) = some r := h
  clear h
  have H' := Aside0.mk H
  clear H
  go_enter Try.func111, Try.ntmps111
  go_wp2_with (first | ((with_reducible refine gate_dst (N := 1) rfl ?_); refine box_event ?hg (N := 1) ?hd (cs := #[.slice A0_0 l0_0.length c0_0]) (t := 31) ?hr ?_; (case hd => rfl); (case hg => rfl); (case hr => first | (go_simp; done) | (go_simp; rfl)); intro gb218 hg w2 hbox hb; have n0_ := Aside0.mk (below_step (by repeat (first | (with_reducible first | exact HB.out | apply below_alloc | apply pw_below_drewN | apply below_drew1) | exact HB.out)) hb); have n1_ := Aside0.mk (hbox); have n2_ := Aside0.mk ((by rw [hg]; exact (below_size (by repeat (first | (with_reducible first | exact HB.out | apply below_alloc | apply pw_below_drewN | apply below_drew1) | exact HB.out))) : w.heap.size ≤ gb218)); have n3_ := Aside0.mk ((by rw [hg]; exact (below_size (by repeat (first | (with_reducible first | exact HB.out | apply below_alloc | apply pw_below_drewN | apply below_drew1) | exact HB.out))) : w.heap.size ≤ gb218)); clear HB; have HB := n0_; have BK218 := n1_; have GW218 := n2_; have GE218 := n3_; clear n0_ n1_ n2_ n3_; clear hb hbox hg; have hcz3_0 : w2.cell? ⟨gb218, 0, none⟩ = some (.slice A0_0 l0_0.length c0_0) := (blk_cell BK218.out 0).trans rfl; have hfz3_0 := blk_frozen BK218.out 0))
  go_loopg [8] k (fun kq v8 w' => ∃ (x8_1 : Int), v8 = .int .i64 x8_1 ∧ Aside0 (impl_IsMemory.l0 kq l0_0 (l0_0.length : Int) x8_1 l0_0 = some r) ∧ Aside0 (kq ≤ k) ∧ Aside0 (w'.heap[gb218]? = some (.cells #[(.slice A0_0 l0_0.length c0_0)] 31 (0, 0))) ∧ Aside0 (Below w.heap.size w w'))
  case atStart => exact ⟨(0), (by first | rfl | (simp; done) | (simp [*]; done)), H', ⟨Nat.le_refl _⟩, ⟨by (with_reducible repeat (first | refine blk_drewN ?_ _ | refine blk_drew ?_ | refine blk_alloc ?_ _)); exact BK218.out⟩, ⟨by repeat (first | (with_reducible first | exact HB.out | apply below_alloc | apply pw_below_drewN | apply below_drew1 | refine below_set ?_ GE218.out) | exact HB.out)⟩⟩
  case round =>
    clear H'
    try clear c1
    try clear p2
    try clear hcz3_0
    try clear hfz3_0
    obtain ⟨x8_1, rfl, HA, HK1, BK218, HB⟩ := hrel
    cases gk with
    | zero => exact absurd HA.out (by simp [impl_IsMemory.l0])
    | succ k1 =>
      have H := HA.out
      clear HA
      simp only [impl_IsMemory.l0] at H
      by_cases c4 : x8_1 < (l0_0.length : Int)
      · rw [if_pos c4] at H
        have c4b0 : decide (x8_1 < (l0_0.length : Int)) = true := decide_eq_true c4
        clear c4
        by_cases c5 : 0 ≤ x8_1
        · rw [if_pos c5] at H
          have c5b0 : decide (0 ≤ x8_1) = true := decide_eq_true c5
          clear c5
          by_cases c6 : x8_1 < (l0_0.length : Int)
          · rw [if_pos c6] at H
            have c6b0 : decide (x8_1 < (l0_0.length : Int)) = true := decide_eq_true c6
            clear c6
            replace H := Option.bind_eq_some_iff.mp H
            obtain ⟨t220, A70, H⟩ := H
            replace H : (if t220 = true then (impl_IsMemory.l0 k1 l0_0 (l0_0.length : Int) (wrap64 (x8_1 + 1)) l0_0) else (some false)) = some r := H
            have A7 := Aside0.mk A70
            clear A70
            by_cases c8 : t220 = true
            · subst c8
              have H1 : (impl_IsMemory.l0 k1 l0_0 (l0_0.length : Int) (wrap64 (x8_1 + 1)) l0_0) = some r := by rw [if_pos rfl] at H; exact H
              clear H
              have H := H1
              clear H1
              have H' := Aside0.mk H
              clear H
              have p219 : 0 ≤ (x8_1 : Int) := of_decide_eq_true (by first | (with_reducible assumption) | assumption)
              have q219 : x8_1 < (l0_0.length : Int) := of_decide_eq_true (by first | (with_reducible assumption) | assumption)
              obtain ⟨ad219, A219_0, c219_0, e219, hx219_0, hl219_0, hi219_0⟩ := at_Lsu8 HR0_0.out x8_1 p219 q219
              cases e219
              replace hx219_0 := (HB.out.cell (World.block_lt_of_cell? w _ hx219_0)).trans hx219_0
              have HR219_0 := Aside0.mk hi219_0
              have HC219_0 := Aside0.mk hl219_0
              clear hi219_0 hl219_0
              replace p219 := eq_true p219
              replace q219 := eq_true q219
              go_wp2_with (first | ((with_reducible refine gate_callee (f := 81) rfl ?_); refine goesL_ (some 14) rfl rfl Try.func81 (by kernel_rfl) rfl #[.int .i64 ((rd_Lsu8 l0_0 x8_1).length : Int), .int .i64 1, .int .i64 64] rfl (by (try simp only [List.map_toArray, List.map_cons, List.map_nil]); first | done | rfl | (simp only [List.length_drop, List.length_take]; rfl)) ?_; (with_reducible refine (impl_within.calls ((rd_Lsu8 l0_0 x8_1).length : Int) 1 64 true _ A7.out).mono ?_); rintro e w' ⟨rfl, ⟨nd, rfl⟩⟩; refine ⟨_, rfl, ?_⟩))
              go_roundg k1
              case measure => have := HK1.out; omega
              case rel => exact ⟨(wrap64 (x8_1 + 1)), (by first | rfl | (simp; done) | (simp [*]; done)), H', ⟨by have := HK1.out; omega⟩, ⟨by (with_reducible repeat (first | refine blk_drewN ?_ _ | refine blk_drew ?_ | refine blk_alloc ?_ _)); exact BK218.out⟩, ⟨by repeat (first | (with_reducible first | exact HB.out | apply below_alloc | apply pw_below_drewN | apply below_drew1 | refine below_set ?_ GE218.out) | exact HB.out)⟩⟩
            · replace c8 := Bool.eq_false_iff.mpr c8
              subst c8
              have H1 : (some false) = some r := by rw [if_neg (show ¬ (false = true) by decide)] at H; exact H
              clear H
              have H := H1
              clear H1
              obtain rfl := Option.some.inj H
              have p219 : 0 ≤ (x8_1 : Int) := of_decide_eq_true (by first | (with_reducible assumption) | assumption)
              have q219 : x8_1 < (l0_0.length : Int) := of_decide_eq_true (by first | (with_reducible assumption) | assumption)
              obtain ⟨ad219, A219_0, c219_0, e219, hx219_0, hl219_0, hi219_0⟩ := at_Lsu8 HR0_0.out x8_1 p219 q219
              cases e219
              replace hx219_0 := (HB.out.cell (World.block_lt_of_cell? w _ hx219_0)).trans hx219_0
              have HR219_0 := Aside0.mk hi219_0
              have HC219_0 := Aside0.mk hl219_0
              clear hi219_0 hl219_0
              replace p219 := eq_true p219
              replace q219 := eq_true q219
              go_wp2_with (first | ((with_reducible refine gate_callee (f := 81) rfl ?_); refine goesL_ (some 14) rfl rfl Try.func81 (by kernel_rfl) rfl #[.int .i64 ((rd_Lsu8 l0_0 x8_1).length : Int), .int .i64 1, .int .i64 64] rfl (by (try simp only [List.map_toArray, List.map_cons, List.map_nil]); first | done | rfl | (simp only [List.length_drop, List.length_take]; rfl)) ?_; (with_reducible refine (impl_within.calls ((rd_Lsu8 l0_0 x8_1).length : Int) 1 64 false _ A7.out).mono ?_); rintro e w' ⟨rfl, ⟨nd, rfl⟩⟩; refine ⟨_, rfl, ?_⟩))
              go_ret
              exact ⟨by first | rfl | (simp [errW_none, errW_some] <;> rfl) | (simp [*, errW_none, errW_some] <;> rfl), by repeat (first | (with_reducible first | exact HB.out | apply below_alloc | apply pw_below_drewN | apply below_drew1 | refine below_set ?_ GE218.out) | exact HB.out)⟩
          · rw [if_neg c6] at H
            exact absurd H (by simp)
        · rw [if_neg c5] at H
          exact absurd H (by simp)
      · rw [if_neg c4] at H
        have c4b0 : decide (x8_1 < (l0_0.length : Int)) = false := decide_eq_false c4
        clear c4
        obtain rfl := Option.some.inj H
        have hcz9_0 : wr.cell? ⟨gb218, 0, none⟩ = some (.slice A0_0 l0_0.length c0_0) := (blk_cell BK218.out 0).trans rfl
        have hfz9_0 := blk_frozen BK218.out 0
        go_wp2
        go_ret
        exact ⟨by first | rfl | (simp [errW_none, errW_some] <;> rfl) | (simp [*, errW_none, errW_some] <;> rfl), by repeat (first | (with_reducible first | exact HB.out | apply below_alloc | apply pw_below_drewN | apply below_drew1 | refine below_set ?_ GE218.out) | exact HB.out)⟩

end Go.Proofs.Ytaieobidkmihkaa.P


namespace Go.Proofs.Ytaieobidkmihkaa.P
open Go.RowKit Go.Proofs.YtaieobidkmihkaaW.PrintWords Go.Proofs.YtaieobidkmihkaaW.PrintLast Go.Proofs.YtaieobidkmihkaaW.PrintMore
attribute [local go_sem] max2_int min2_int max_two min_two max_three min_three max_four min_four   -- for this text's walks alone
set_option linter.unusedVariables false
set_option linter.unusedSimpArgs false

def spec_l1In.f (a0 : Int) (a1 : Int) (a2 : Int) : Option (Bool) := if a0 ≥ a1 then (some (decide (a0 ≤ a2))) else (some false)
set_option maxHeartbeats 8000000 in
set_option maxRecDepth 100000 in
theorem spec_l1In.calls (a0 : Int) (a1 : Int) (a2 : Int) (r : Bool) (w : World) (h : spec_l1In.f a0 a1 a2 = some r) :
    Calls Try.prog 78 #[.int .i64 a0, .int .i64 a1, .int .i64 a2] w fun e w' => e = .returned (.bool r) ∧ Drawn0 w w' := by
  have H : (if a0 ≥ a1 then (some (decide (a0 ≤ a2))) else (some false)) = some r := h
  clear h
  by_cases c4 : a0 ≥ a1
  · rw [if_pos c4] at H
    have c4b0 : decide (a1 ≤ a0) = true := decide_eq_true c4
    clear c4
    obtain rfl := Option.some.inj H
    go_enter Try.func78, Try.ntmps78
    go_wp2
    go_ret
    exact ⟨by first | rfl | (simp; done) | (simp [*]; done), by repeat (first | exact Drawn0.refl _ | apply Drawn0.step)⟩
  · rw [if_neg c4] at H
    have c4b0 : decide (a1 ≤ a0) = false := decide_eq_false c4
    clear c4
    obtain rfl := Option.some.inj H
    go_enter Try.func78, Try.ntmps78
    go_wp2
    go_ret
    exact ⟨by first | rfl | (simp; done) | (simp [*]; done), by repeat (first | exact Drawn0.refl _ | apply Drawn0.step)⟩

end Go.Proofs.Ytaieobidkmihkaa.P


namespace Go.Proofs.Ytaieobidkmihkaa.P
open Go.RowKit Go.Proofs.YtaieobidkmihkaaW.PrintWords Go.Proofs.YtaieobidkmihkaaW.PrintLast Go.Proofs.YtaieobidkmihkaaW.PrintMore
attribute [local go_sem] max2_int min2_int max_two min_two max_three min_three max_four min_four   -- for this text's walks alone
set_option linter.unusedVariables false
set_option linter.unusedSimpArgs false

mutual
def spec_l2Memory.l0 : Nat → Int → List (List Int) → Option (Bool)
  | 0, _, _ => none
  | k + 1, x3, x106000 => if x3 < (x106000.length : Int) then (spec_l2Memory.j1 k x3 (decide (x3 ≤ 16)) x106000) else (spec_l2Memory.j1 k x3 false x106000)
def spec_l2Memory.j1 : Nat → Int → Bool → List (List Int) → Option (Bool)
  | 0, _, _, _ => none
  | k + 1, x3, x12, x106000 => if x12 = true then (if 0 ≤ x3 then (if x3 < (x106000.length : Int) then ((spec_l1In.f ((rd_Lsu8 x106000 x3).length : Int) 1 64).bind fun t107 => (if t107 = true then (spec_l2Memory.l0 k (wrap64 (x3 + 1)) x106000) else (some false))) else (none)) else (none)) else (some (decide ((x106000.length : Int) ≤ 16)))
end
def spec_l2Memory.f (k : Nat) (l0_0 : List (List Int)) : Option (Bool) := spec_l2Memory.l0 k 0 l0_0
set_option maxHeartbeats 8000000 in
set_option maxRecDepth 100000 in
theorem spec_l2Memory.calls (k : Nat) (A0_0 : Option Addr) (c0_0 : Nat) (l0_0 : List (List Int)) (r : Bool) (w : World) (hr0_0 : Kd.C (Kd.slice 5 (Kd.int .u8)) w A0_0 l0_0.length l0_0) (hc0_0 : l0_0.length ≤ c0_0) (h : spec_l2Memory.f k l0_0 = some r) :
    Calls Try.prog 122 #[.agg #[.slice A0_0 l0_0.length c0_0]] w fun e w' => e = .returned (.bool r) ∧ Below w.heap.size w w' := by
  have hu31 := Try.underlying31
  have HR0_0 := Aside0.mk hr0_0
  have HC0_0 := Aside0.mk hc0_0
  clear hr0_0 hc0_0
  have HB := Aside0.mk (Below.refl w.heap.size w)
  have H : (spec_l2Memory.l0 k 0 l0_0) = some r := h
  clear h
  have H' := Aside0.mk H
  clear H
  go_enter Try.func122, Try.ntmps122
  go_wp2_with (first | ((with_reducible refine gate_dst (N := 1) rfl ?_); refine box_event ?hg (N := 1) ?hd (cs := #[.slice A0_0 l0_0.length c0_0]) (t := 31) ?hr ?_; (case hd => rfl); (case hg => rfl); (case hr => first | (go_simp; done) | (go_simp; rfl)); intro gb105 hg w2 hbox hb; have n0_ := Aside0.mk (below_step (by repeat (first | (with_reducible first | exact HB.out | apply below_alloc | apply pw_below_drewN | apply below_drew1) | exact HB.out)) hb); have n1_ := Aside0.mk (hbox); have n2_ := Aside0.mk ((by rw [hg]; exact (below_size (by repeat (first | (with_reducible first | exact HB.out | apply below_alloc | apply pw_below_drewN | apply below_drew1) | exact HB.out))) : w.heap.size ≤ gb105)); have n3_ := Aside0.mk ((by rw [hg]; exact (below_size (by repeat (first | (with_reducible first | exact HB.out | apply below_alloc | apply pw_below_drewN | apply below_drew1) | exact HB.out))) : w.heap.size ≤ gb105)); clear HB; have HB := n0_; have BK105 := n1_; have GW105 := n2_; have GE105 := n3_; clear n0_ n1_ n2_ n3_; clear hb hbox hg))
  go_loopg [3] k (fun kq v3 w' => ∃ (x3_1 : Int), v3 = .int .i64 x3_1 ∧ Aside0 (spec_l2Memory.l0 kq x3_1 l0_0 = some r) ∧ Aside0 (kq ≤ k) ∧ Aside0 (w'.heap[gb105]? = some (.cells #[(.slice A0_0 l0_0.length c0_0)] 31 (0, 0))) ∧ Aside0 (Below w.heap.size w w'))
  case atStart => exact ⟨(0), (by first | rfl | (simp; done) | (simp [*]; done)), H', ⟨Nat.le_refl _⟩, ⟨by (with_reducible repeat (first | refine blk_drewN ?_ _ | refine blk_drew ?_ | refine blk_alloc ?_ _)); exact BK105.out⟩, ⟨by repeat (first | (with_reducible first | exact HB.out | apply below_alloc | apply pw_below_drewN | apply below_drew1 | refine below_set ?_ GE105.out) | exact HB.out)⟩⟩
  case round =>
    clear H'
    try clear c1
    try clear p2
    obtain ⟨x3_1, rfl, HA, HK1, BK105, HB⟩ := hrel
    cases gk with
    | zero => exact absurd HA.out (by simp [spec_l2Memory.l0])
    | succ k1 =>
      have H := HA.out
      clear HA
      simp only [spec_l2Memory.l0] at H
      have HC3 := Aside0.mk H
      clear H
      go_upto_region 2 with (fail)
      go_cut [12] (fun v12 wc => ∃ (kq : Nat) (x12_2 : Bool), v12 = .bool x12_2 ∧ Aside0 (spec_l2Memory.j1 kq x3_1 x12_2 l0_0 = some r) ∧ Aside0 (kq ≤ k1) ∧ Aside0 (wc.heap[gb105]? = some (.cells #[(.slice A0_0 l0_0.length c0_0)] 31 (0, 0))) ∧ Aside0 (Below w.heap.size w wc))
      case first =>
        have H := HC3.out
        clear HC3
        by_cases c4 : x3_1 < (l0_0.length : Int)
        · rw [if_pos c4] at H
          have c4b0 : decide (x3_1 < (l0_0.length : Int)) = true := decide_eq_true c4
          clear c4
          (first | rw [c4b0] | (simp only [i64_w, i32_w]; rw [c4b0]) | skip)
          have H' := Aside0.mk H
          clear H
          have hcz5_0 : wr.cell? ⟨gb105, 0, none⟩ = some (.slice A0_0 l0_0.length c0_0) := (blk_cell BK105.out 0).trans rfl
          have hfz5_0 := blk_frozen BK105.out 0
          go_wp2
          go_meet
          case rel => exact ⟨_, (decide (x3_1 ≤ 16)), (by first | rfl | (simp; done) | (simp [*]; done)), H', ⟨by have := HK1.out; first | omega | exact Nat.le_refl _⟩, ⟨by (with_reducible repeat (first | refine blk_drewN ?_ _ | refine blk_drew ?_ | refine blk_alloc ?_ _)); exact BK105.out⟩, ⟨by repeat (first | (with_reducible first | exact HB.out | apply below_alloc | apply pw_below_drewN | apply below_drew1 | refine below_set ?_ GE105.out) | exact HB.out)⟩⟩
        · rw [if_neg c4] at H
          have c4b0 : decide (x3_1 < (l0_0.length : Int)) = false := decide_eq_false c4
          clear c4
          (first | rw [c4b0] | (simp only [i64_w, i32_w]; rw [c4b0]) | skip)
          have H' := Aside0.mk H
          clear H
          have hcz6_0 : wr.cell? ⟨gb105, 0, none⟩ = some (.slice A0_0 l0_0.length c0_0) := (blk_cell BK105.out 0).trans rfl
          have hfz6_0 := blk_frozen BK105.out 0
          go_wp2
          go_meet
          case rel => exact ⟨_, (false), (by first | rfl | (simp; done) | (simp [*]; done)), H', ⟨by have := HK1.out; first | omega | exact Nat.le_refl _⟩, ⟨by (with_reducible repeat (first | refine blk_drewN ?_ _ | refine blk_drew ?_ | refine blk_alloc ?_ _)); exact BK105.out⟩, ⟨by repeat (first | (with_reducible first | exact HB.out | apply below_alloc | apply pw_below_drewN | apply below_drew1 | refine below_set ?_ GE105.out) | exact HB.out)⟩⟩
      case rest =>
        clear HC3
        try clear c1
        try clear p2
        try clear c4
        try clear c4b0
        try clear hcz5_0
        try clear hcz6_0
        try clear hfz5_0
        try clear hfz6_0
        try clear p2
        obtain ⟨kq, x12_2, rfl, HA, HJ2, BK105, HB⟩ := hcut
        cases kq with
        | zero => exact absurd HA.out (by simp [spec_l2Memory.j1])
        | succ kj2 =>
          have H := HA.out
          clear HA
          simp only [spec_l2Memory.j1] at H
          by_cases c7 : x12_2 = true
          · subst c7
            have H1 : (if 0 ≤ x3_1 then (if x3_1 < (l0_0.length : Int) then ((spec_l1In.f ((rd_Lsu8 l0_0 x3_1).length : Int) 1 64).bind fun t107 => (if t107 = true then (spec_l2Memory.l0 kj2 (wrap64 (x3_1 + 1)) l0_0) else (some false))) else (none)) else (none)) = some r := by rw [if_pos rfl] at H; exact H
            clear H
            have H := H1
            clear H1
            by_cases c8 : 0 ≤ x3_1
            · rw [if_pos c8] at H
              have c8b0 : decide (0 ≤ x3_1) = true := decide_eq_true c8
              clear c8
              by_cases c9 : x3_1 < (l0_0.length : Int)
              · rw [if_pos c9] at H
                have c9b0 : decide (x3_1 < (l0_0.length : Int)) = true := decide_eq_true c9
                clear c9
                replace H := Option.bind_eq_some_iff.mp H
                obtain ⟨t107, A100, H⟩ := H
                replace H : (if t107 = true then (spec_l2Memory.l0 kj2 (wrap64 (x3_1 + 1)) l0_0) else (some false)) = some r := H
                have A10 := Aside0.mk A100
                clear A100
                by_cases c11 : t107 = true
                · subst c11
                  have H1 : (spec_l2Memory.l0 kj2 (wrap64 (x3_1 + 1)) l0_0) = some r := by rw [if_pos rfl] at H; exact H
                  clear H
                  have H := H1
                  clear H1
                  have H' := Aside0.mk H
                  clear H
                  have hcz12_0 : wc.cell? ⟨gb105, 0, none⟩ = some (.slice A0_0 l0_0.length c0_0) := (blk_cell BK105.out 0).trans rfl
                  have hfz12_0 := blk_frozen BK105.out 0
                  have p106 : 0 ≤ (x3_1 : Int) := of_decide_eq_true (by first | (with_reducible assumption) | assumption)
                  have q106 : x3_1 < (l0_0.length : Int) := of_decide_eq_true (by first | (with_reducible assumption) | assumption)
                  obtain ⟨ad106, A106_0, c106_0, e106, hx106_0, hl106_0, hi106_0⟩ := at_Lsu8 HR0_0.out x3_1 p106 q106
                  cases e106
                  replace hx106_0 := (HB.out.cell (World.block_lt_of_cell? w _ hx106_0)).trans hx106_0
                  have HR106_0 := Aside0.mk hi106_0
                  have HC106_0 := Aside0.mk hl106_0
                  clear hi106_0 hl106_0
                  replace p106 := eq_true p106
                  replace q106 := eq_true q106
                  go_wp2_with (first | ((with_reducible refine gate_callee (f := 78) rfl ?_); refine goesL_ (some 21) rfl rfl Try.func78 (by kernel_rfl) rfl #[.int .i64 ((rd_Lsu8 l0_0 x3_1).length : Int), .int .i64 1, .int .i64 64] rfl (by (try simp only [List.map_toArray, List.map_cons, List.map_nil]); first | done | rfl | (simp only [List.length_drop, List.length_take]; rfl)) ?_; (with_reducible refine (spec_l1In.calls ((rd_Lsu8 l0_0 x3_1).length : Int) 1 64 true _ A10.out).mono ?_); rintro e w' ⟨rfl, ⟨nd, rfl⟩⟩; refine ⟨_, rfl, ?_⟩))
                  go_roundg kj2
                  case measure => have := HK1.out; have := HJ2.out; omega
                  case rel => exact ⟨(wrap64 (x3_1 + 1)), (by first | rfl | (simp; done) | (simp [*]; done)), H', ⟨by have := HK1.out; have := HJ2.out; omega⟩, ⟨by (with_reducible repeat (first | refine blk_drewN ?_ _ | refine blk_drew ?_ | refine blk_alloc ?_ _)); exact BK105.out⟩, ⟨by repeat (first | (with_reducible first | exact HB.out | apply below_alloc | apply pw_below_drewN | apply below_drew1 | refine below_set ?_ GE105.out) | exact HB.out)⟩⟩
                · replace c11 := Bool.eq_false_iff.mpr c11
                  subst c11
                  have H1 : (some false) = some r := by rw [if_neg (show ¬ (false = true) by decide)] at H; exact H
                  clear H
                  have H := H1
                  clear H1
                  obtain rfl := Option.some.inj H
                  have hcz13_0 : wc.cell? ⟨gb105, 0, none⟩ = some (.slice A0_0 l0_0.length c0_0) := (blk_cell BK105.out 0).trans rfl
                  have hfz13_0 := blk_frozen BK105.out 0
                  have p106 : 0 ≤ (x3_1 : Int) := of_decide_eq_true (by first | (with_reducible assumption) | assumption)
                  have q106 : x3_1 < (l0_0.length : Int) := of_decide_eq_true (by first | (with_reducible assumption) | assumption)
                  obtain ⟨ad106, A106_0, c106_0, e106, hx106_0, hl106_0, hi106_0⟩ := at_Lsu8 HR0_0.out x3_1 p106 q106
                  cases e106
                  replace hx106_0 := (HB.out.cell (World.block_lt_of_cell? w _ hx106_0)).trans hx106_0
                  have HR106_0 := Aside0.mk hi106_0
                  have HC106_0 := Aside0.mk hl106_0
                  clear hi106_0 hl106_0
                  replace p106 := eq_true p106
                  replace q106 := eq_true q106
                  go_wp2_with (first | ((with_reducible refine gate_callee (f := 78) rfl ?_); refine goesL_ (some 21) rfl rfl Try.func78 (by kernel_rfl) rfl #[.int .i64 ((rd_Lsu8 l0_0 x3_1).length : Int), .int .i64 1, .int .i64 64] rfl (by (try simp only [List.map_toArray, List.map_cons, List.map_nil]); first | done | rfl | (simp only [List.length_drop, List.length_take]; rfl)) ?_; (with_reducible refine (spec_l1In.calls ((rd_Lsu8 l0_0 x3_1).length : Int) 1 64 false _ A10.out).mono ?_); rintro e w' ⟨rfl, ⟨nd, rfl⟩⟩; refine ⟨_, rfl, ?_⟩))
                  go_ret
                  exact ⟨by first | rfl | (simp [errW_none, errW_some] <;> rfl) | (simp [*, errW_none, errW_some] <;> rfl), by repeat (first | (with_reducible first | exact HB.out | apply below_alloc | apply pw_below_drewN | apply below_drew1 | refine below_set ?_ GE105.out) | exact HB.out)⟩
              · rw [if_neg c9] at H
                exact absurd H (by simp)
            · rw [if_neg c8] at H
              exact absurd H (by simp)
          · replace c7 := Bool.eq_false_iff.mpr c7
            subst c7
            have H1 : (some (decide ((l0_0.length : Int) ≤ 16))) = some r := by rw [if_neg (show ¬ (false = true) by decide)] at H; exact H
            clear H
            have H := H1
            clear H1
            obtain rfl := Option.some.inj H
            have hcz14_0 : wc.cell? ⟨gb105, 0, none⟩ = some (.slice A0_0 l0_0.length c0_0) := (blk_cell BK105.out 0).trans rfl
            have hfz14_0 := blk_frozen BK105.out 0
            go_wp2
            go_ret
            exact ⟨by first | rfl | (simp [errW_none, errW_some] <;> rfl) | (simp [*, errW_none, errW_some] <;> rfl), by repeat (first | (with_reducible first | exact HB.out | apply below_alloc | apply pw_below_drewN | apply below_drew1 | refine below_set ?_ GE105.out) | exact HB.out)⟩

end Go.Proofs.Ytaieobidkmihkaa.P


/- What the printed leaves (sizes, copies, equality, validity of memories) come to. -/
namespace Go.Proofs.Ytaieobidkmihkaa.P
open Go.RowKit Go.Proofs.YtaieobidkmihkaaW.PrintWords
set_option linter.unusedVariables false
theorem within_f (a b c : Int) : impl_within.f a b c = some (decide (b ≤ a ∧ a ≤ c)) := by
  unfold impl_within.f
  by_cases h : b ≤ a
  · rw [if_pos h]; simp [h]
  · rw [if_neg h]; simp [h]
theorem l1In_f (a b c : Int) : spec_l1In.f a b c = some (decide (b ≤ a ∧ a ≤ c)) := by
  unfold spec_l1In.f
  by_cases h : b ≤ a
  · rw [if_pos h]; simp [h]
  · rw [if_neg h]; simp [h]
theorem wf_i64 {n : Int} (h : (Lit.int .i64 n).wf = true) : -9223372036854775808 ≤ n ∧ n ≤ 9223372036854775807 := by
  simp only [Lit.wf, Bool.and_eq_true, decide_eq_true_eq] at h
  have h1 : IntKind.i64.min = -9223372036854775808 := by decide
  have h2 : IntKind.i64.max = 9223372036854775807 := by decide
  rw [h1, h2] at h
  exact h
theorem C_inner_len {α : Type} {d : Kd α} {e n : Nat} {w : World} {A : Option Addr} {xs : List (List α)} (h : Kd.C (Kd.slice e d) w A n xs) : ∀ x ∈ xs, x.length ≤ 9223372036854775807 := by
  intro x hx
  obtain ⟨j, hj, rfl⟩ := List.mem_iff_getElem.1 hx
  have hn : 0 < n := by have := h.1; omega
  obtain ⟨ad, _, hc⟩ := h.2.2 hn
  obtain ⟨c, _, hK, _⟩ := hc j _ (List.getElem?_eq_getElem hj)
  obtain ⟨A2, c2, _, _, hC⟩ := hK
  exact hC.2.1
theorem szByteS_f (l : List Int) (a : Int) (h0 : 0 ≤ a) (h1 : a ≤ 1048576) (hl : l.length ≤ 9223372036854775807) :
    laws_szByteS.f l a = some (if (l.length : Int) ≤ a then a - l.length else -1) := by
  unfold laws_szByteS.f
  rw [wrap_ok (by omega) (by omega)]
  by_cases h : (l.length : Int) ≤ a
  · rw [if_neg (by omega), if_pos h]
  · rw [if_pos (by omega), if_neg h]
theorem szByteSS_ev (suf : List (List Int)) : ∀ (pre : List (List Int)) (a : Int), 0 ≤ a → a ≤ 1048576 → pre.length + suf.length ≤ 4611686018427387904 → (∀ x ∈ suf, x.length ≤ 9223372036854775807) →
    ∃ r, Ev (fun k => laws_szByteSS.l0 k (pre ++ suf) a (pre.length : Int)) r ∧ ((sizeBB suf : Int) ≤ a ∧ r = a - sizeBB suf ∨ r = -1) := by
  induction suf with
  | nil =>
    intro pre a h0 h1 h2 h3
    refine ⟨a, Ev.step (fun k => ?_) (Ev.now _), .inl ⟨by simp [sizeBB]; omega, by simp [sizeBB]⟩⟩
    simp [laws_szByteSS.l0]
  | cons x suf ih =>
    intro pre a h0 h1 h2 h3
    simp only [List.length_cons] at h2
    have hx := h3 x (by simp)
    have step : ∀ k, laws_szByteSS.l0 (k + 1) (pre ++ x :: suf) a (pre.length : Int) = if (x.length : Int) ≤ a then laws_szByteSS.l0 k ((pre ++ [x]) ++ suf) (a - x.length) ((pre ++ [x]).length : Int) else some (-1) := by
      intro k
      simp only [laws_szByteSS.l0]
      rw [if_pos (by simp; omega), if_pos (by omega), rdB_mid, szByteS_f x a h0 h1 hx, Option.bind_some, wrap_len (by omega)]
      by_cases h : (x.length : Int) ≤ a
      · rw [if_pos h, if_neg (by omega), if_pos h]; simp
      · rw [if_neg h, if_pos (by omega), if_neg h]
    by_cases h : (x.length : Int) ≤ a
    · obtain ⟨r, hr, hh⟩ := ih (pre ++ [x]) (a - x.length) (by omega) (by omega) (by simp; omega) (fun y hy => h3 y (by simp [hy]))
      refine ⟨r, Ev.step (fun k => (step k).trans (if_pos h)) hr, ?_⟩
      rcases hh with ⟨h4, h5⟩ | h4
      · exact .inl ⟨by simp only [sizeBB]; omega, by simp only [sizeBB]; omega⟩
      · exact .inr h4
    · exact ⟨-1, Ev.step (fun k => (step k).trans (if_neg h)) (Ev.now _), .inr rfl⟩
theorem szByteSS_f (l : List (List Int)) (a : Int) (h0 : 0 ≤ a) (h1 : a ≤ 1048576) (hl : l.length ≤ 9223372036854775807) (h3 : ∀ x ∈ l, x.length ≤ 9223372036854775807) :
    ∃ r, Ev (fun k => laws_szByteSS.f k l a) r ∧ ((l.length : Int) + sizeBB l ≤ a ∧ r = a - l.length - sizeBB l ∨ r = -1) := by
  by_cases h : (l.length : Int) ≤ a
  · obtain ⟨r, hr, hh⟩ := szByteSS_ev l [] (a - l.length) (by omega) (by omega) (by simp; omega) h3
    refine ⟨r, Ev.congr (fun k => ?_) hr, ?_⟩
    · unfold laws_szByteSS.f
      rw [wrap_ok (by omega) (by omega), if_neg (by omega)]
      rfl
    · rcases hh with ⟨h4, h5⟩ | h4
      · exact .inl ⟨by omega, by omega⟩
      · exact .inr h4
  · refine ⟨-1, Ev.congr (fun k => ?_) (Ev.now _), .inr rfl⟩
    unfold laws_szByteSS.f
    rw [wrap_ok (by omega) (by omega), if_pos (by omega)]
theorem set_mid {α : Type} (pre : List α) (z y : α) (suf : List α) : (pre ++ z :: suf).set pre.length y = (pre ++ [y]) ++ suf := by simp
theorem toByteS_ev (suf : List Int) : ∀ (pre zs : List Int), zs.length = suf.length → pre.length + suf.length ≤ 4611686018427387904 →
    Ev (fun k => laws_toByteS.l0 k (pre ++ suf) (pre ++ zs) (pre.length : Int)) (pre ++ suf) := by
  induction suf with
  | nil =>
    intro pre zs hz h2
    obtain rfl : zs = [] := List.eq_nil_of_length_eq_zero hz
    refine Ev.step (fun k => ?_) (Ev.now _)
    simp [laws_toByteS.l0]
  | cons x suf ih =>
    intro pre zs hz h2
    obtain ⟨z, zs, rfl⟩ : ∃ z zs', zs = z :: zs' := by
      cases zs with
      | nil => simp at hz
      | cons z zs => exact ⟨z, zs, rfl⟩
    simp only [List.length_cons] at h2 hz
    refine Ev.step (f := fun k => laws_toByteS.l0 k ((pre ++ [x]) ++ suf) ((pre ++ [x]) ++ zs) ((pre ++ [x]).length : Int)) (fun k => ?_) ?_
    · simp only [laws_toByteS.l0]
      rw [if_pos (by simp; omega), if_pos (by omega), if_pos (by simp; omega), rd_mid, wrap_len (by omega)]
      simp
    · have := ih (pre ++ [x]) zs (by omega) (by simp; omega)
      simpa using this
theorem toByteS_f (l : List Int) (h : l.length ≤ 281474976710656) : Ev (fun k => laws_toByteS.f k l) l := by
  refine Ev.congr (fun k => ?_) (toByteS_ev l [] (List.replicate l.length 0) (by simp) (by simp; omega))
  unfold laws_toByteS.f
  rw [if_pos (by omega), if_pos (by simpa using h)]
  simp
theorem eqByteS_ev (suf : List Int) : ∀ (pre : List Int), pre.length + suf.length ≤ 9223372036854775807 → Ev (fun k => laws_eqByteS.l0 k (pre ++ suf) (pre ++ suf) (pre.length : Int)) true := by
  induction suf with
  | nil =>
    intro pre h2
    refine Ev.step (fun k => ?_) (Ev.now _)
    simp [laws_eqByteS.l0]
  | cons x suf ih =>
    intro pre h2
    simp only [List.length_cons] at h2
    refine Ev.step (f := fun k => laws_eqByteS.l0 k ((pre ++ [x]) ++ suf) ((pre ++ [x]) ++ suf) ((pre ++ [x]).length : Int)) (fun k => ?_) (ih (pre ++ [x]) (by simp; omega))
    simp only [laws_eqByteS.l0]
    rw [if_pos (by simp; omega), if_pos (by omega), if_pos (by simp; omega), if_pos trivial, wrap_len (by omega)]
    simp
theorem eqByteS_f (l : List Int) (h : l.length ≤ 9223372036854775807) : Ev (fun k => laws_eqByteS.f k l l) true := by
  refine Ev.congr (fun k => ?_) (eqByteS_ev l [] (by simpa using h))
  unfold laws_eqByteS.f
  rw [if_pos rfl]
  rfl
theorem eqByteSS_ev (suf : List (List Int)) : ∀ (pre : List (List Int)), pre.length + suf.length ≤ 9223372036854775807 → (∀ x ∈ suf, x.length ≤ 9223372036854775807) → Ev (fun k => laws_eqByteSS.l0 k (pre ++ suf) (pre ++ suf) (pre.length : Int)) true := by
  induction suf with
  | nil =>
    intro pre h2 h3
    refine Ev.step (fun k => ?_) (Ev.now _)
    simp [laws_eqByteSS.l0]
  | cons x suf ih =>
    intro pre h2 h3
    simp only [List.length_cons] at h2
    refine Ev.step (f := fun k => (laws_eqByteS.f k x x).bind fun t => if t = true then laws_eqByteSS.l0 k ((pre ++ [x]) ++ suf) ((pre ++ [x]) ++ suf) ((pre ++ [x]).length : Int) else some false) (fun k => ?_) ?_
    · simp only [laws_eqByteSS.l0]
      rw [if_pos (by simp; omega), if_pos (by omega), if_pos (by simp; omega), rdB_mid, wrap_len (by omega)]
      simp
    · refine Ev.bind (eqByteS_f x (h3 x (by simp))) ?_
      simp only [if_true]
      exact ih (pre ++ [x]) (by simp; omega) (fun y hy => h3 y (by simp [hy]))
theorem eqByteSS_f (l : List (List Int)) (h : l.length ≤ 9223372036854775807) (h3 : ∀ x ∈ l, x.length ≤ 9223372036854775807) : Ev (fun k => laws_eqByteSS.f k l l) true := by
  refine Ev.congr (fun k => ?_) (eqByteSS_ev l [] (by simpa using h) h3)
  unfold laws_eqByteSS.f
  rw [if_pos rfl]
  rfl
def memB (m : List (List Int)) : Bool := m.all (fun x => decide (1 ≤ x.length ∧ x.length ≤ 64)) && decide (m.length ≤ 16)
theorem IsMemory_ev (suf : List (List Int)) : ∀ (pre : List (List Int)), pre.length + suf.length ≤ 9223372036854775807 →
    Ev (fun k => impl_IsMemory.l0 k (pre ++ suf) ((pre ++ suf).length : Int) (pre.length : Int) (pre ++ suf)) (suf.all (fun x => decide (1 ≤ x.length ∧ x.length ≤ 64)) && decide ((pre ++ suf).length ≤ 16)) := by
  induction suf with
  | nil =>
    intro pre h2
    refine Ev.step (fun k => ?_) (Ev.now _)
    simp [impl_IsMemory.l0]
    omega
  | cons x suf ih =>
    intro pre h2
    simp only [List.length_cons] at h2
    have step : ∀ k, impl_IsMemory.l0 (k + 1) (pre ++ x :: suf) ((pre ++ x :: suf).length : Int) (pre.length : Int) (pre ++ x :: suf) = if 1 ≤ x.length ∧ x.length ≤ 64 then impl_IsMemory.l0 k ((pre ++ [x]) ++ suf) (((pre ++ [x]) ++ suf).length : Int) ((pre ++ [x]).length : Int) ((pre ++ [x]) ++ suf) else some false := by
      intro k
      simp only [impl_IsMemory.l0]
      rw [if_pos (by simp; omega), if_pos (by omega), if_pos (by simp; omega), rdB_mid, within_f, Option.bind_some, wrap_len (by omega)]
      by_cases h : 1 ≤ x.length ∧ x.length ≤ 64
      · rw [if_pos h, if_pos (by simp; omega)]; simp
      · rw [if_neg h, if_neg (by simp; omega)]
    by_cases h : 1 ≤ x.length ∧ x.length ≤ 64
    · refine Ev.step (fun k => (step k).trans (if_pos h)) ?_
      have := ih (pre ++ [x]) (by simp; omega)
      simpa [h] using this
    · refine Ev.step (fun k => (step k).trans (if_neg h)) ?_
      have h' : decide (1 ≤ x.length ∧ x.length ≤ 64) = false := decide_eq_false h
      simp only [List.all_cons, h', Bool.false_and]
      exact Ev.now _
theorem IsMemory_f (m : List (List Int)) (h : m.length ≤ 9223372036854775807) : Ev (fun k => impl_IsMemory.f k m) (memB m) := by
  have := IsMemory_ev m [] (by simpa using h)
  simpa [impl_IsMemory.f, memB] using this
theorem l2Memory_ev (suf : List (List Int)) : ∀ (pre : List (List Int)), pre.length ≤ 17 → pre.length + suf.length ≤ 9223372036854775807 →
    Ev (fun k => spec_l2Memory.l0 k (pre.length : Int) (pre ++ suf)) ((decide ((pre ++ suf).length ≤ 16)) && suf.all (fun x => decide (1 ≤ x.length ∧ x.length ≤ 64))) := by
  induction suf with
  | nil =>
    intro pre h1 h2
    refine Ev.step (f := fun k => spec_l2Memory.j1 k (pre.length : Int) false (pre ++ [])) (fun k => ?_) (Ev.step (fun k => ?_) (Ev.now _))
    · simp [spec_l2Memory.l0]
    · simp [spec_l2Memory.j1]
      omega
  | cons x suf ih =>
    intro pre h1 h2
    simp only [List.length_cons] at h2
    by_cases h16 : pre.length ≤ 16
    · refine Ev.step (f := fun k => spec_l2Memory.j1 k (pre.length : Int) true (pre ++ x :: suf)) (fun k => ?_) ?_
      · simp only [spec_l2Memory.l0]
        rw [if_pos (by simp; omega), decide_eq_true (by omega)]
      · have step : ∀ k, spec_l2Memory.j1 (k + 1) (pre.length : Int) true (pre ++ x :: suf) = if 1 ≤ x.length ∧ x.length ≤ 64 then spec_l2Memory.l0 k ((pre ++ [x]).length : Int) ((pre ++ [x]) ++ suf) else some false := by
          intro k
          simp only [spec_l2Memory.j1]
          rw [if_pos trivial, if_pos (by omega), if_pos (by simp; omega), rdB_mid, l1In_f, Option.bind_some, wrap_len (by omega)]
          by_cases h : 1 ≤ x.length ∧ x.length ≤ 64
          · rw [if_pos h, if_pos (by simp; omega)]; simp
          · rw [if_neg h, if_neg (by simp; omega)]
        by_cases h : 1 ≤ x.length ∧ x.length ≤ 64
        · refine Ev.step (fun k => (step k).trans (if_pos h)) ?_
          have := ih (pre ++ [x]) (by simp; omega) (by simp; omega)
          simpa [h] using this
        · refine Ev.step (fun k => (step k).trans (if_neg h)) ?_
          have h' : decide (1 ≤ x.length ∧ x.length ≤ 64) = false := decide_eq_false h
          simp only [List.all_cons, h', Bool.false_and, Bool.and_false]
          exact Ev.now _
    · have hl : ¬ (pre ++ x :: suf).length ≤ 16 := by simp; omega
      refine Ev.step (f := fun k => spec_l2Memory.j1 k (pre.length : Int) false (pre ++ x :: suf)) (fun k => ?_) (Ev.step (fun k => ?_) (Ev.now _))
      · simp only [spec_l2Memory.l0]
        rw [if_pos (by simp; omega), decide_eq_false (by omega)]
      · simp only [spec_l2Memory.j1]
        rw [if_neg (by simp), decide_eq_false hl, decide_eq_false (by omega)]
        rfl
theorem l2Memory_f (m : List (List Int)) (h : m.length ≤ 9223372036854775807) : Ev (fun k => spec_l2Memory.f k m) (memB m) := by
  have := l2Memory_ev m [] (by simp) (by simpa using h)
  simpa [spec_l2Memory.f, memB, Bool.and_comm] using this
end Go.Proofs.Ytaieobidkmihkaa.P


/- What a window sees, in the memory itself: where it lies. -/
namespace Go.Proofs.Ytaieobidkmihkaa.P
open Go.RowKit Go.Proofs.YtaieobidkmihkaaW.PrintWords Go.Proofs.YtaieobidkmihkaaW.PrintLast Go.Proofs.YtaieobidkmihkaaW.PrintMore Go.Proofs.YtaieobidkmihkaaW.Mine
set_option linter.unusedVariables false
set_option linter.unusedSimpArgs false
def seenA (g : Nat) (s : Int) (cap : Nat) : Option Addr := if cap = s.toNat then some ⟨g, 0, none⟩ else some ⟨g, s.toNat, none⟩
set_option maxHeartbeats 1600000 in
set_option maxRecDepth 100000 in
theorem seen_c (g0 : Nat) (L c0 : Nat) (a s n cp : Int) (g rl cap : Nat) (w : World)
    (hcell : w.cell? ⟨g0, a.toNat, none⟩ = some (.slice (some ⟨g, 0, none⟩) rl cap))
    (ha0 : 0 ≤ a) (ha1 : a < (L : Int)) (hs : 0 ≤ s) (hn : 0 ≤ n) (hsn : s + n ≤ (rl : Int)) (hrc : rl ≤ cap) (hb : rl ≤ 1048576) :
    Calls Try.prog 72 #[.agg #[.slice (some ⟨g0, 0, none⟩) L c0], .agg #[.int .i64 a, .int .i64 s, .int .i64 n, .int .i64 cp]] w fun e w' => e = .returned (.slice (seenA g s cap) n.toNat (cap - s.toNat)) ∧ Below w.heap.size w w' := by
  have HB0 := Aside0.mk (Below.refl w.heap.size w)
  have HC := Aside0.mk hcell
  clear hcell
  have hw : wrap64 (s + n) = s + n := wrap_ok (by omega) (by omega)
  have HW := Aside0.mk hw
  clear hw
  have hle : s ≤ s + n := by omega
  have hlc : s + n ≤ (cap : Int) := by omega
  go_enter Try.func72, Try.ntmps72
  go_wp2_with (first | ((with_reducible refine gate_dst (N := 2) rfl ?_); refine box_event ?hg (N := 2) ?hd (cs := #[.slice (some ⟨g0, 0, none⟩) L c0]) (t := 31) ?hr ?_; (case hd => rfl); (case hg => rfl); (case hr => first | (go_simp; done) | (go_simp; rfl)); intro b1 hg1 w1 hbox hb1; have X1 := Aside0.mk hbox; have HB1 := Aside0.mk (below_step HB0.out hb1); have HC1 := Aside0.mk ((hb1.cell (World.block_lt_of_cell? w _ HC.out)).trans HC.out); clear hbox hb1 hg1) | ((with_reducible refine gate_dst (N := 3) rfl ?_); refine box_event ?hg (N := 3) ?hd (cs := #[.int .i64 a, .int .i64 s, .int .i64 n, .int .i64 cp]) (t := 32) ?hr ?_; (case hd => rfl); (case hg => rfl); (case hr => first | (go_simp; done) | (go_simp; rfl)); intro b2 hg2 w2 hbox hb2; have X1' := Aside0.mk (blk_below X1.out hb2); have X2 := Aside0.mk hbox; have HB2 := Aside0.mk (below_step HB1.out hb2); have HC2 := Aside0.mk ((hb2.cell (World.block_lt_of_cell? w1 _ HC1.out)).trans HC1.out); clear hbox hb2 hg2))
  have z0 : w2.cell? ⟨b1, 0, none⟩ = some (.slice (some ⟨g0, 0, none⟩) L c0) := (blk_cell X1'.out 0).trans rfl
  have z1 : w2.cell? ⟨b2, 0, none⟩ = some (.int .i64 a) := (blk_cell X2.out 0).trans rfl
  have z2 : w2.cell? ⟨b2, 1, none⟩ = some (.int .i64 s) := (blk_cell X2.out 1).trans rfl
  have z3 : w2.cell? ⟨b2, 2, none⟩ = some (.int .i64 n) := (blk_cell X2.out 2).trans rfl
  have z4 := HC2.out
  have hw := HW.out
  unfold wrap64 at hw
  have hnn : (s + n).toNat - s.toNat = n.toNat := by omega
  have HN := Aside0.mk hnn
  clear hnn
  go_quiet (fail)
  go_wp2
  all_goals go_ret
  all_goals exact ⟨by rw [HN.out]; simp [seenA, *], below_step HB2.out (pw_below_drewN (Below.refl _ _) _)⟩
end Go.Proofs.Ytaieobidkmihkaa.P


/- A row of a memory laid open: what a window sees of it is read and written in place. -/
namespace Go.Proofs.YtaieobidkmihkaaW.Mine
open Go.RowKit Go.Proofs.YtaieobidkmihkaaW.PrintWords
set_option linter.unusedVariables false
set_option linter.unusedSimpArgs false
def RowO (e2 e base lo hi : Nat) (A : Option Addr) (n c : Nat) (m : List (List Int)) (i g cap : Nat) (row : List Int) (w : World) : Prop :=
  ∃ (g0 : Nat) (cur : Array Value), A = some ⟨g0, 0, none⟩ ∧ g ≠ g0 ∧ (lo ≤ g0 ∧ g0 < hi) ∧ w.cell? ⟨g0, i, none⟩ = some (.slice (some ⟨g, 0, none⟩) row.length cap) ∧ RowAt e2 e base lo hi n c g0 m i g cap cur row w
def rowO (e2 e : Nat) (W : World) (lo hi : Nat) (A : Option Addr) (n c : Nat) (m : List (List Int)) (i g cap : Nat) (row : List Int) : Th := ⟨lo, hi, RowO e2 e W.heap.size lo hi A n c m i g cap row⟩
section
variable {e2 e lo hi n c i g cap : Nat} {A : Option Addr} {m : List (List Int)} {row : List Int} {W w w1 : World} {ts : List Th}
theorem cell_of_heap {w w' : World} {a : Addr} (h : w'.heap[a.block]? = w.heap[a.block]?) : w'.cell? a = w.cell? a := by
  unfold World.cell?
  rw [h]
theorem RowO.agree {base : Nat} (h : RowO e2 e base lo hi A n c m i g cap row w) (ha : Agree lo hi w w1) : RowO e2 e base lo hi A n c m i g cap row w1 := by
  obtain ⟨g0, cur, h1, h2, h3, h4, h5⟩ := h
  exact ⟨g0, cur, h1, h2, h3, by rw [cell_of_heap (ha g0 h3.1 h3.2)]; exact h4, h5.agree ha⟩
theorem RowO.kd {base : Nat} (h : RowO e2 e base lo hi A n c m i g cap row w) : Kd.S (Kd.slice e2 (Kd.int .u8)) e w base (fun k => lo ≤ k ∧ k < hi) (.slice A n c) (m.set i row) := by
  obtain ⟨g0, cur, h1, _, _, _, h5⟩ := h
  subst h1
  exact h5.close
theorem RowO.wrote {row' : List Int} (q : Nat) (hst : Stk W ts w) (hq : ts[q]? = some (rowO e2 e W lo hi A n c m i g cap row)) (hl : row'.length = row.length) (hb : Below g w w1) (hs : w.heap.size ≤ w1.heap.size) (hk : ∀ k, k < w.heap.size → k ≠ g → w1.heap[k]? = w.heap[k]?)
    (hg : ∀ cur : Array Value, w.heap[g]? = some (.cells cur e2 (0, 0)) → row.length ≤ cur.size → cur.toList.take row.length = row.map (fun x => Value.int .u8 x) → ∃ cur' : Array Value, w1.heap[g]? = some (.cells cur' e2 (0, 0)) ∧ cur'.size = cur.size ∧ cur'.toList.take row.length = row'.map (fun x => Value.int .u8 x)) :
    Wrote (rowO e2 e W lo hi A n c m i g cap row) (rowO e2 e W lo hi A n c m i g cap row') w w1 := by
  have h : RowO e2 e W.heap.size lo hi A n c m i g cap row w := hst.get q hq
  have hhi : hi ≤ w.heap.size := (hst.all _ (List.mem_of_getElem? hq)).2.2.1
  obtain ⟨g0, cur, h1, h2, h3, h4, h5⟩ := h
  have h6 := h5
  obtain ⟨hlo, hh, hle, hmax, hsz, htk, hback⟩ := h6
  obtain ⟨cur', hh', hs', ht'⟩ := hg cur hh (by omega) htk
  refine ⟨hb.mono hlo.1, hs, fun k hkl hn => hk k hkl (fun e_ => hn (by subst e_; exact hlo)), rfl, rfl, fun w'' ha => ?_⟩
  have hg0 : w1.heap[g0]? = w.heap[g0]? := hk g0 (World.block_lt_of_cell? w ⟨g0, i, none⟩ h4) (Ne.symm h2)
  have hR : RowAt e2 e W.heap.size lo hi n c g0 m i g cap cur' row' w1 := by
    refine ⟨hlo, hh', by omega, hmax, by omega, by rw [hl]; exact ht', fun w2 cur2 row2 hk2 hh2 hs2 hl2 ht2 => hback w2 cur2 row2 (fun k hlk hhk hn => ?_) hh2 hs2 (by omega) (by rw [← hl]; exact ht2)⟩
    rw [hk2 k hlk hhk hn]
    exact hk k (Nat.lt_of_lt_of_le hhk hhi) hn
  exact RowO.agree ⟨g0, cur', h1, h2, h3, by rw [cell_of_heap hg0, hl]; exact h4, hR⟩ ha
end
end Go.Proofs.YtaieobidkmihkaaW.Mine
namespace Go.Proofs.Ytaieobidkmihkaa.P
open Go.RowKit Go.Proofs.YtaieobidkmihkaaW.PrintWords Go.Proofs.YtaieobidkmihkaaW.Mine Go.Sort
set_option linter.unusedVariables false
set_option linter.unusedSimpArgs false
section
variable {e2 e lo hi n c i g cap : Nat} {A : Option Addr} {m : List (List Int)} {row : List Int} {W w w1 : World} {ts : List Th}
def Al (X : Option Addr) (g off n : Nat) : Prop := n = 0 ∨ X = some ⟨g, off, none⟩
theorem al_seen (s k : Int) (h0 : 0 ≤ s) (h1 : s + k ≤ (row.length : Int)) (hc : row.length ≤ cap) : Al (seenA g s cap) g s.toNat k.toNat := by
  unfold Al seenA
  by_cases h : cap = s.toNat
  · exact .inl (by omega)
  · exact .inr (if_neg h)
end
end Go.Proofs.Ytaieobidkmihkaa.P


/- Cuts of what a window sees; a call that changes a row of its caller's. -/
namespace Go.Proofs.YtaieobidkmihkaaW.Mine
open Go.RowKit Go.Proofs.YtaieobidkmihkaaW.PrintWords
set_option linter.unusedVariables false
set_option linter.unusedSimpArgs false
section
variable {W w w' : World} {ts ts' : List Th} {lo hi : Nat} {P1 P2 : World → Prop}
def frm (a b : Nat) (w0 : World) : Th := ⟨a, b, fun w => Agree a b w0 w⟩
end
end Go.Proofs.YtaieobidkmihkaaW.Mine
namespace Go.Proofs.Ytaieobidkmihkaa.P
open Go.RowKit Go.Proofs.YtaieobidkmihkaaW.PrintWords Go.Proofs.YtaieobidkmihkaaW.Mine
set_option linter.unusedVariables false
set_option linter.unusedSimpArgs false
def cutA (X : Option Addr) (l C : Nat) : Option Addr := if C = l then X else X.map (·.add l)
theorem Al.cut {X : Option Addr} {g off n C : Nat} (h : Al X g off n) (l k : Nat) (hC : n ≤ C) (hl : l + k ≤ n) : Al (cutA X l C) g (off + l) k := by
  unfold Al at *
  rcases h with h | h
  · exact .inl (by omega)
  · by_cases hk : k = 0
    · exact .inl hk
    · refine .inr ?_
      unfold cutA
      rw [if_neg (by omega), h]
      by_cases hl0 : l = 0 <;> simp [Addr.add, hl0]
section
variable {P : Program} {o : Oper} {a : Act} {w : World} {T : TypeId} {x y z : Operand} {X : Option Addr} {n C : Nat} {k k2 : IntKind} {l h : Int}
theorem run_cut_l (hT : P.underlying T = some (.slice (P.elem T))) (hs : (sizeOf (P.elem T)).run P w = .ok 1 w) (hop : o.op = .slice T x (some y) none none) (hx : a.eval x = .slice X n C) (hy : a.eval y = .int k l) (h0 : 0 ≤ l) (h1 : l ≤ n) :
    (execOp a.eval o).run P w = .ok (.value (.slice (cutA X l.toNat C) (n - l.toNat) (C - l.toNat))) w := by
  unfold execOp
  rw [hop]
  simp [hx, hy, run_sliceAt_slice w T _ _ _ _ hT, run_slice_l w T X n C hT k l h0 h1, Result.andThen, hs, sliced, cutA]
end
section
variable {ops : Array Oper} {evs : List EvT} {W : World} {base : List Th} {mods : List Md} {aF : (Nat → Lt) → Act} {X : Option Addr} {n C : Nat} {x y z : Operand} {k k2 : IntKind} {l h : Int}
theorem slB : Try.prog.underlying 29 = some (.slice (Try.prog.elem 29)) := by kernel_rfl
set_option maxRecDepth 100000 in
theorem szB (w : World) : (sizeOf (Try.prog.elem 29)).run Try.prog w = .ok 1 w := by
  have : Try.prog.elem 29 = 5 := by kernel_rfl
  rw [this]
  rfl
theorem cl_ {i : Nat} {d : Tmp} {o : Oper} (ho : ops.toList[i]? = some o) (h0 : 0 ≤ l) (h1 : l ≤ n) (hop : o.op = .slice 29 x (some y) none none := by rfl) (hx : ∀ s, (aF s).eval x = .slice X n C := by intro s; rfl) (hy : ∀ s, (aF s).eval y = .int k l := by intro s; rfl) (hw : ∀ s, Region.wanted o (yielded ops (aF s).tmps) = true := by intro s; rfl) :
    Sh Try.prog ops W base mods aF evs (evP i d [] (fun s => .slice (cutA X l.toNat C) (n - l.toNat) (C - l.toNat))) := pu ho (fun _ => rfl) hw (fun s w => run_cut_l slB (szB w) hop (hx s) (hy s) h0 h1)
end
end Go.Proofs.Ytaieobidkmihkaa.P


/- All other blocks of a body as things; loops and exits; a call that changes rows that lie anywhere. -/
namespace Go.Proofs.YtaieobidkmihkaaW.Mine
open Go.RowKit Go.Proofs.YtaieobidkmihkaaW.PrintWords
set_option linter.unusedVariables false
set_option linter.unusedSimpArgs false
def Th.out (k : Nat) (t : Th) : Bool := decide (k < t.lo) || decide (t.hi ≤ k)
def restOf (a : Nat) (ts : List Th) (w : World) : Nat → List Th
  | 0 => []
  | n + 1 => (if (ts.all (Th.out (a + n))) = true then [frm (a + n) (a + n + 1) w] else []) ++ restOf a ts w n
theorem restOf_mem {a : Nat} {ts : List Th} {w : World} {x : Th} : ∀ {n : Nat}, x ∈ restOf a ts w n → ∃ k, a ≤ k ∧ k < a + n ∧ ts.all (Th.out k) = true ∧ x = frm k (k + 1) w
  | 0, h => by cases h
  | n + 1, h => by
    unfold restOf at h
    rcases List.mem_append.1 h with h | h
    · split at h
      · rename_i hh
        rw [List.mem_singleton] at h
        exact ⟨a + n, by omega, by omega, hh, h⟩
      · cases h
    · obtain ⟨k, h1, h2, h3⟩ := restOf_mem h
      exact ⟨k, h1, by omega, h3⟩
theorem mem_restOf {a : Nat} {ts : List Th} {w : World} : ∀ {n : Nat} (k : Nat), a ≤ k → k < a + n → ts.all (Th.out k) = true → frm k (k + 1) w ∈ restOf a ts w n
  | 0, k, h1, h2, _ => by omega
  | n + 1, k, h1, h2, h3 => by
    unfold restOf
    by_cases e : k = a + n
    · subst e
      rw [if_pos h3]
      exact List.mem_append_left _ (List.mem_singleton.2 rfl)
    · exact List.mem_append_right _ (mem_restOf k h1 (by omega) h3)
theorem restOf_ap {a : Nat} {ts : List Th} {w : World} : ∀ (n : Nat), (restOf a ts w n).Pairwise Th.apart
  | 0 => List.Pairwise.nil
  | n + 1 => by
    unfold restOf
    refine List.pairwise_append.2 ⟨?_, restOf_ap n, fun x hx y hy => ?_⟩
    · split
      · exact List.pairwise_singleton _ _
      · exact List.Pairwise.nil
    · split at hx
      · rw [List.mem_singleton] at hx
        subst hx
        obtain ⟨k, h1, h2, _, rfl⟩ := restOf_mem hy
        exact .inr (by show k + 1 ≤ a + n; omega)
      · cases hx
def Rest (W : World) (ts : List Th) (w : World) (fs : List Th) : Prop := ∀ k, W.heap.size ≤ k → k < w.heap.size → ts.all (Th.out k) = true → frm k (k + 1) w ∈ fs
theorem Stk.cover {W w : World} {ts : List Th} (h : Stk W ts w) : ∃ fs, Stk W (ts ++ fs) w ∧ Rest W ts w fs := by
  refine ⟨restOf W.heap.size ts w (w.heap.size - W.heap.size), ⟨h.hb, fun t ht => ?_, ?_⟩, fun k h1 h2 h3 => mem_restOf k h1 (by omega) h3⟩
  · rcases List.mem_append.1 ht with ht | ht
    · exact h.all t ht
    · obtain ⟨k, h1, h2, _, rfl⟩ := restOf_mem ht
      exact ⟨h1, Nat.le_succ _, by show k + 1 ≤ w.heap.size; omega, fun w' ha => ha⟩
  · refine List.pairwise_append.2 ⟨h.ap, restOf_ap _, fun x hx y hy => ?_⟩
    obtain ⟨k, h1, h2, h3, rfl⟩ := restOf_mem hy
    have h4 := List.all_eq_true.1 h3 x hx
    unfold Th.out at h4
    rw [Bool.or_eq_true, decide_eq_true_eq, decide_eq_true_eq] at h4
    unfold Th.apart
    show x.hi ≤ k ∨ k + 1 ≤ x.lo
    omega
theorem Rest.move {W w w' : World} {ts ts' fs : List Th} (hr : Rest W ts w fs) (h : Stk W ts' w') (hs : ∀ x ∈ fs, x ∈ ts') {α : Type} {d : Kd α} {e base : Nat} {ok : Nat → Prop} {v : Value} {xs : List α} (hS : Kd.S d e w base ok v xs) (hbase : W.heap.size ≤ base) (hok : ∀ k, ok k → base ≤ k → ts.all (Th.out k) = true) : Kd.S d e w' base ok v xs := by
  have h1 := Kd.S_bound hS
  refine Kd.S_mono (Kd.S_move (w1 := w') h1 (fun k hk => ?_)) (fun k hk => hk.1)
  have hm := hs _ (hr k (Nat.le_trans hbase hk.2.1) hk.2.2.1 (hok k hk.1 hk.2.1))
  exact (show Agree k (k + 1) w w' from (h.all _ hm).2.2.2 w' (Agree.refl _ _ _)) k (Nat.le_refl _) (Nat.lt_succ_self _)
theorem Stk.after {W w w' : World} {ts : List Th} (h : Stk W ts w) (i : Nat) {g t : Nat} {cs cs2 : Array Value} {ok : Nat → Prop} (hi : ts[i]? = some (boxT g cs t)) (ho : w'.os = w.os ∧ w'.tape = w.tape ∧ w'.output = w.output) (hK : Kept w w' (fun k => ok k ∨ k = g)) (hok : ∀ k, ok k → W.heap.size ≤ k ∧ ts.all (Th.out k) = true) (hb : bx g cs2 t w') : Stk W (ts.set i (boxT g cs2 t)) w' := by
  have hgi := h.all _ (List.mem_of_getElem? hi)
  have hgW : W.heap.size ≤ g := hgi.1
  have h0 : Stk W (ts.eraseIdx i) w' := by
    refine ⟨⟨ho.1.trans h.hb.os, ho.2.1.trans h.hb.tape, ho.2.2.trans h.hb.output, Nat.le_trans h.hb.size hK.1, fun k hk => (hK.2 k (Nat.lt_of_lt_of_le hk h.hb.size) (fun hh => ?_)).trans (h.hb.block k hk)⟩, fun x hx => ?_, (h.ap.sublist (List.eraseIdx_sublist ts i))⟩
    · rcases hh with hh | hh
      · have := (hok k hh).1; omega
      · omega
    · have hxm : x ∈ ts := (List.eraseIdx_sublist ts i).subset hx
      have hm := h.all x hxm
      refine ⟨hm.1, hm.2.move hK.1 (fun k h1 h2 => hK.2 k (Nat.lt_of_lt_of_le h2 hm.2.2.1) (fun hh => ?_))⟩
      rcases hh with hh | rfl
      · have h3 := List.all_eq_true.1 (hok k hh).2 x hxm
        unfold Th.out at h3
        rw [Bool.or_eq_true, decide_eq_true_eq, decide_eq_true_eq] at h3
        omega
      · have h4 := (List.pairwise_cons.1 (h.front i hi).ap).1 x hx
        unfold Th.apart at h4
        have h4' : k + 1 ≤ x.lo ∨ x.hi ≤ k := h4
        omega
  have h1 : Stk W (boxT g cs2 t :: ts.eraseIdx i) w' := by
    refine ⟨h0.hb, fun x hx => ?_, List.pairwise_cons.2 ⟨fun x hx => ?_, h0.ap⟩⟩
    · rcases List.mem_cons.1 hx with rfl | hx
      · exact ⟨hgW, Nat.le_succ _, blk_lt hb, fun w'' ha => (ha g (Nat.le_refl _) (Nat.lt_succ_self _)).trans hb⟩
      · exact h0.all x hx
    · exact (List.pairwise_cons.1 (h.front i hi).ap).1 x hx
  refine h1.perm ?_
  have hp := front_perm (ts.set i (boxT g cs2 t)) i (t := boxT g cs2 t) (by rw [List.getElem?_set_self (List.getElem?_eq_some_iff.1 hi).1])
  rw [List.eraseIdx_set_eq] at hp
  exact hp
section
variable {P : Program} {Q : Exit → Act → World → Prop} {a : Act} {w : World} {n : Act → World → Prop}
theorem exB {id : Nat} (h : Q .normal a w) : Exit.inBlock id Q (.exit id) a w := by
  show (if id = id then _ else _)
  rw [if_pos rfl]
  exact h
theorem exT {id : Nat} (h : Q (.exit id) a w) : Exit.then n Q (.exit id) a w := h
theorem exO {id id2 : Nat} (hn : id2 ≠ id) (h : Q (.exit id2) a w) : Exit.inBlock id Q (.exit id2) a w := by
  show (if id2 = id then _ else _)
  rw [if_neg hn]
  exact h
theorem inB {id : Nat} (h : Q .normal a w) : Exit.inBlock id Q .normal a w := h
end
end Go.Proofs.YtaieobidkmihkaaW.Mine


/- Loads out of what stood ahead of a call: a captured variable, an argument's element. -/
namespace Go.Proofs.YtaieobidkmihkaaW.Mine
open Go.RowKit Go.Proofs.YtaieobidkmihkaaW.PrintWords
set_option linter.unusedVariables false
set_option linter.unusedSimpArgs false
theorem one_at {w : World} {p : Addr} {v : Value} (h : w.cell? p = some v) : ∀ (j : Nat) (u : Value), (#[v] : Array Value)[j]? = some u → w.cell? p = some u := by
  intro j u hj
  have : j = 0 := by
    rcases Nat.lt_or_ge j 1 with h1 | h1
    · omega
    · rw [Array.getElem?_eq_none (by simpa using h1)] at hj; cases hj
  subst this
  have : v = u := by simpa using hj
  subst this
  exact h
section
variable {P : Program} {ops : Array Oper} {evs : List EvT} {W : World} {base : List Th} {mods : List Md} {aF : (Nat → Lt) → Act}
theorem lo {i : Nat} {d : Tmp} {v : (Nat → Lt) → Value} {o : Oper} (ho : ops.toList[i]? = some o) {ad : Nat → Addr} {cs : Array Value} (hW : ∀ j u, cs[j]? = some u → W.cell? (ad j) = some u)
    (hr : ∀ s w, (∀ j u, cs[j]? = some u → w.cell? (ad j) = some u) → (execOp (aF s).eval o).run P w = .ok (.value (v s)) w)
    (hd : o.dst = some d := by rfl) (hF : ∀ s, v (only [] s) = v s := by intro s; rfl) (hw : ∀ s, Region.wanted o (yielded ops (aF s).tmps) = true := by intro s; rfl) : Sh P ops W base mods aF evs (evL i d [] v) := by
  refine ⟨fun s x => ⟨hF s, rfl, rfl⟩, ⟨o, by rw [← Array.getElem?_toList]; exact ho, fun s w hst K hK => wanted_get (hw s) ?_⟩⟩
  unfold Oper.wp
  rw [hr s w (fun j u hj => (hst.hb.cell (World.block_lt_of_cell? W _ (hW j u hj))).trans (hW j u hj))]
  show K ((aF s).put o.dst (v s)) w
  rw [hd]
  exact hK.out default w (Stk.nil w)
end
end Go.Proofs.YtaieobidkmihkaaW.Mine


namespace Go.Proofs.Ytaieobidkmihkaa.P
open Go.RowKit Go.Proofs.YtaieobidkmihkaaW.PrintWords Go.Proofs.YtaieobidkmihkaaW.PrintLast Go.Proofs.YtaieobidkmihkaaW.PrintMore
attribute [local go_sem] max2_int min2_int max_two min_two max_three min_three max_four min_four   -- for this text's walks alone
set_option linter.unusedVariables false
set_option linter.unusedSimpArgs false

def impl_Memory_hasArray.f (l0_0 : List (List Int)) (a1 : Int) : Option (Bool) := (impl_within.f a1 0 (wrap64 ((l0_0.length : Int) - 1))).bind fun t222 => (some t222)
set_option maxHeartbeats 8000000 in
set_option maxRecDepth 100000 in
theorem impl_Memory_hasArray.calls (A0_0 : Option Addr) (c0_0 : Nat) (l0_0 : List (List Int)) (a1 : Int) (r : Bool) (w : World) (hr0_0 : Kd.C (Kd.slice 5 (Kd.int .u8)) w A0_0 l0_0.length l0_0) (hc0_0 : l0_0.length ≤ c0_0) (h : impl_Memory_hasArray.f l0_0 a1 = some r) :
    Calls Try.prog 132 #[.agg #[.slice A0_0 l0_0.length c0_0], .int .i64 a1] w fun e w' => e = .returned (.bool r) ∧ Below w.heap.size w w' := by
  have hu31 := Try.underlying31
  have HR0_0 := Aside0.mk hr0_0
  have HC0_0 := Aside0.mk hc0_0
  clear hr0_0 hc0_0
  have HB := Aside0.mk (Below.refl w.heap.size w)
  have H : ((impl_within.f a1 0 (wrap64 ((l0_0.length : Int) - 1))).bind fun t222 => (some t222)) = some r := h
  clear h
  replace H := Option.bind_eq_some_iff.mp H
  obtain ⟨t222, A30, H⟩ := H
  replace H : (some t222) = some r := H
  have A3 := Aside0.mk A30
  clear A30
  obtain rfl := Option.some.inj H
  go_enter Try.func132, Try.ntmps132
  go_wp2_with (first | ((with_reducible refine gate_dst (N := 2) rfl ?_); refine box_event ?hg (N := 2) ?hd (cs := #[.slice A0_0 l0_0.length c0_0]) (t := 31) ?hr ?_; (case hd => rfl); (case hg => rfl); (case hr => first | (go_simp; done) | (go_simp; rfl)); intro gb221 hg w4 hbox hb; have n0_ := Aside0.mk (below_step (by repeat (first | (with_reducible first | exact HB.out | apply below_alloc | apply pw_below_drewN | apply below_drew1) | exact HB.out)) hb); have n1_ := Aside0.mk (hbox); have n2_ := Aside0.mk ((by rw [hg]; exact (below_size (by repeat (first | (with_reducible first | exact HB.out | apply below_alloc | apply pw_below_drewN | apply below_drew1) | exact HB.out))) : w.heap.size ≤ gb221)); have n3_ := Aside0.mk ((by rw [hg]; exact (below_size (by repeat (first | (with_reducible first | exact HB.out | apply below_alloc | apply pw_below_drewN | apply below_drew1) | exact HB.out))) : w.heap.size ≤ gb221)); clear HB; have HB := n0_; have BK221 := n1_; have GW221 := n2_; have GE221 := n3_; clear n0_ n1_ n2_ n3_; clear hb hbox hg; have hcz5_0 : w4.cell? ⟨gb221, 0, none⟩ = some (.slice A0_0 l0_0.length c0_0) := (blk_cell BK221.out 0).trans rfl; have hfz5_0 := blk_frozen BK221.out 0) | ((with_reducible refine gate_callee (f := 81) rfl ?_); refine goesL_ (some 10) rfl rfl Try.func81 (by kernel_rfl) rfl #[.int .i64 a1, .int .i64 0, .int .i64 (wrap64 ((l0_0.length : Int) - 1))] rfl (by (try simp only [List.map_toArray, List.map_cons, List.map_nil]); first | done | rfl | (simp only [List.length_drop, List.length_take]; rfl)) ?_; (with_reducible refine (impl_within.calls a1 0 (wrap64 ((l0_0.length : Int) - 1)) t222 _ A3.out).mono ?_); rintro e w' ⟨rfl, ⟨nd, rfl⟩⟩; refine ⟨_, rfl, ?_⟩))
  go_ret
  exact ⟨by first | rfl | (simp [errW_none, errW_some] <;> rfl) | (simp [*, errW_none, errW_some] <;> rfl), by repeat (first | (with_reducible first | exact HB.out | apply below_alloc | apply pw_below_drewN | apply below_drew1 | refine below_set ?_ GE221.out) | exact HB.out)⟩

end Go.Proofs.Ytaieobidkmihkaa.P


-- written by wip/gen_fn.py
namespace Go.Proofs.Ytaieobidkmihkaa.P
open Go.RowKit Go.Proofs.YtaieobidkmihkaaW.PrintWords Go.Proofs.YtaieobidkmihkaaW.PrintLast Go.Proofs.YtaieobidkmihkaaW.PrintMore Go.Proofs.YtaieobidkmihkaaW.Mine
open List (setIfInBounds_toArray set_cons_zero set_cons_succ)
attribute [local go_sem] max2_int min2_int max_two min_two max_three min_three max_four min_four
set_option linter.unusedVariables false
set_option linter.unusedSimpArgs false
set_option maxHeartbeats 8000000 in
set_option maxRecDepth 100000 in
theorem impl_Memory_hasWindow_w0 (A0_0 : Option Addr) (c0_0 : Nat) (l0_0 : List (List Int)) (a1_0 : Int) (a1_1 : Int) (a1_2 : Int) (a1_3 : Int) (w : World) (hr0_0 : Kd.C (Kd.slice 5 (Kd.int .u8)) w A0_0 l0_0.length l0_0) (hc0_0 : l0_0.length ≤ c0_0) (H1 : impl_Memory_hasArray.f l0_0 a1_0 = some false) :
    Calls Try.prog 121 #[.agg #[.slice A0_0 l0_0.length c0_0], .agg #[.int .i64 a1_0, .int .i64 a1_1, .int .i64 a1_2, .int .i64 a1_3]] w fun e w' => e = .returned (.bool false) ∧ Below w.heap.size w w' := by
  have HR0_0 := Aside0.mk hr0_0; have HC0_0 := Aside0.mk hc0_0; clear hr0_0 hc0_0
  have H1_ := Aside0.mk H1; clear H1; have H1 := H1_; clear H1_
  have HS0 : Aside0 (Stk w [] w) := ⟨Stk.nil w⟩
  go_enter Try.func121, Try.ntmps121
  refine reg (aF := ?_) (nw := ?_) [evB 0 2 [] 31 (fun s => #[.slice A0_0 l0_0.length c0_0]) 9999 [] (fun s => #[.slice A0_0 l0_0.length c0_0]), evB 1 3 [] 32 (fun s => #[.int .i64 a1_0, .int .i64 a1_1, .int .i64 a1_2, .int .i64 a1_3]) 9999 [] (fun s => #[.int .i64 a1_0, .int .i64 a1_1, .int .i64 a1_2, .int .i64 a1_3]), evP 2 4 [] (fun s => .bool false)] [] [] false 3 rfl rfl (by kernel_rfl) rfl (mf0) ?aF ?nw HS0.out ?hs ?_
  rotate_left 2
  case aF => intro s; simp only [putE, EvT.val, Act.put, setIfInBounds_toArray, set_cons_zero, set_cons_succ]; rfl
  case nw => intro s; simp only [thA, bsA, List.nil_append, List.cons_append, List.append_nil, if_true, if_false, Nat.reduceLT, set_cons_zero, set_cons_succ]; rfl
  case hs => exact ⟨bv rfl (fun s w => by go_simp; try rfl), bv rfl (fun s w => by go_simp; try rfl), pu rfl, trivial⟩
  intro s1 w1 h; have HS1 := Aside0.mk h; clear h HS0
  refine tl0 ?_
  refine reg0 (aF := ?_) [evL 0 5 [] (fun s => .agg #[.slice A0_0 l0_0.length c0_0]), evP 1 6 [] (fun s => .pointer (some ⟨(s1 1).lo, 0, none⟩)), evL 2 7 [] (fun s => .int .i64 a1_0), evC 3 (some 8) [] (fun s x => .bool false) (fun s x => []), evP 4 9 [] (fun s => .bool false), evP 5 10 [] (fun s => undef), evP 6 11 [] (fun s => undef), evP 7 12 [] (fun s => undef), evP 8 13 [] (fun s => .bool false), evP 9 14 [] (fun s => .bool false), evP 10 15 [] (fun s => undef), evP 11 16 [] (fun s => undef), evP 12 17 [] (fun s => undef), evP 13 18 [] (fun s => undef), evP 14 19 [] (fun s => undef), evP 15 20 [] (fun s => .bool false), evP 16 21 [] (fun s => .bool false), evP 17 22 [] (fun s => undef), evP 18 23 [] (fun s => undef), evP 19 24 [] (fun s => undef), evP 20 25 [] (fun s => undef), evP 21 26 [] (fun s => undef), evP 22 27 [] (fun s => undef), evP 23 28 [] (fun s => undef), evP 24 29 [] (fun s => undef), evP 25 30 [] (fun s => undef), evP 26 31 [] (fun s => undef), evP 27 32 [] (fun s => undef), evP 28 33 [] (fun s => undef), evP 29 34 [] (fun s => undef), evP 30 35 [] (fun s => .bool false)] [31] true 32 rfl rfl (by kernel_rfl) rfl (fun _ => rfl) ?aF HS1.out ?hs ?_
  rotate_left 1
  case aF => intro s; simp only [putE, EvT.val, Act.put, setIfInBounds_toArray, set_cons_zero, set_cons_succ]; rfl
  case hs => exact ⟨ld rfl 0 (fun s => rfl) (fun s w h => by have h0 := h 0 _ rfl; clear h; go_simp; try rfl), pu rfl (hr := fun s w => by go_simp; try rfl), ld rfl 1 (fun s => rfl) (fun s w h => by have h0 := h 0 _ rfl; have h1 := h 1 _ rfl; have h2 := h 2 _ rfl; have h3 := h 3 _ rfl; clear h; go_simp; try rfl), cl rfl (fun s => #[.agg #[.slice A0_0 l0_0.length c0_0], .int .i64 a1_0]) Try.func132 (fun s w1 h => (impl_Memory_hasArray.calls _ _ _ _ _ _ (Kd.C_below HR0_0.out h.hb) HC0_0.out H1.out).mono (by rintro e w2 ⟨rfl, hb⟩; exact fin0 hb)), pu rfl, pf rfl, pf rfl, pf rfl, pu rfl, pu rfl, pf rfl, pf rfl, pf rfl, pf rfl, pf rfl, pu rfl, pu rfl, pf rfl, pf rfl, pf rfl, pf rfl, pf rfl, pf rfl, pf rfl, pf rfl, pf rfl, pf rfl, pf rfl, pf rfl, pf rfl, pu rfl, trivial⟩
  intro s2 w2 h; have HS2 := Aside0.mk h; clear h HS1
  refine tlP (v := .bool false) 4 rfl ?_
  simp only [Act.put, setIfInBounds_toArray, set_cons_zero, set_cons_succ]
  refine tl0 ?_
  refine wp_ret ?_
  go_ret
  exact ⟨by first | rfl | simp, HS2.out.hb⟩
set_option maxHeartbeats 8000000 in
set_option maxRecDepth 100000 in
theorem impl_Memory_hasWindow_w1 (A0_0 : Option Addr) (c0_0 : Nat) (l0_0 : List (List Int)) (a1_0 : Int) (a1_1 : Int) (a1_2 : Int) (a1_3 : Int) (w : World) (hr0_0 : Kd.C (Kd.slice 5 (Kd.int .u8)) w A0_0 l0_0.length l0_0) (hc0_0 : l0_0.length ≤ c0_0) (H1 : impl_Memory_hasArray.f l0_0 a1_0 = some true) (H2 : impl_within.f a1_3 0 64 = some false) :
    Calls Try.prog 121 #[.agg #[.slice A0_0 l0_0.length c0_0], .agg #[.int .i64 a1_0, .int .i64 a1_1, .int .i64 a1_2, .int .i64 a1_3]] w fun e w' => e = .returned (.bool false) ∧ Below w.heap.size w w' := by
  have HR0_0 := Aside0.mk hr0_0; have HC0_0 := Aside0.mk hc0_0; clear hr0_0 hc0_0
  have H1_ := Aside0.mk H1; clear H1; have H1 := H1_; clear H1_
  have H2_ := Aside0.mk H2; clear H2; have H2 := H2_; clear H2_
  have HS0 : Aside0 (Stk w [] w) := ⟨Stk.nil w⟩
  go_enter Try.func121, Try.ntmps121
  refine reg (aF := ?_) (nw := ?_) [evB 0 2 [] 31 (fun s => #[.slice A0_0 l0_0.length c0_0]) 9999 [] (fun s => #[.slice A0_0 l0_0.length c0_0]), evB 1 3 [] 32 (fun s => #[.int .i64 a1_0, .int .i64 a1_1, .int .i64 a1_2, .int .i64 a1_3]) 9999 [] (fun s => #[.int .i64 a1_0, .int .i64 a1_1, .int .i64 a1_2, .int .i64 a1_3]), evP 2 4 [] (fun s => .bool false)] [] [] false 3 rfl rfl (by kernel_rfl) rfl (mf0) ?aF ?nw HS0.out ?hs ?_
  rotate_left 2
  case aF => intro s; simp only [putE, EvT.val, Act.put, setIfInBounds_toArray, set_cons_zero, set_cons_succ]; rfl
  case nw => intro s; simp only [thA, bsA, List.nil_append, List.cons_append, List.append_nil, if_true, if_false, Nat.reduceLT, set_cons_zero, set_cons_succ]; rfl
  case hs => exact ⟨bv rfl (fun s w => by go_simp; try rfl), bv rfl (fun s w => by go_simp; try rfl), pu rfl, trivial⟩
  intro s1 w1 h; have HS1 := Aside0.mk h; clear h HS0
  refine tl0 ?_
  refine reg0 (aF := ?_) [evL 0 5 [] (fun s => .agg #[.slice A0_0 l0_0.length c0_0]), evP 1 6 [] (fun s => .pointer (some ⟨(s1 1).lo, 0, none⟩)), evL 2 7 [] (fun s => .int .i64 a1_0), evC 3 (some 8) [] (fun s x => .bool true) (fun s x => []), evP 4 9 [] (fun s => .bool true), evP 5 10 [] (fun s => .pointer (some ⟨(s1 1).lo, 3, none⟩)), evL 6 11 [] (fun s => .int .i64 a1_3), evC 7 (some 12) [] (fun s x => .bool false) (fun s x => []), evP 8 13 [] (fun s => .bool false), evP 9 14 [] (fun s => .bool false), evP 10 15 [] (fun s => undef), evP 11 16 [] (fun s => undef), evP 12 17 [] (fun s => undef), evP 13 18 [] (fun s => undef), evP 14 19 [] (fun s => undef), evP 15 20 [] (fun s => .bool false), evP 16 21 [] (fun s => .bool false), evP 17 22 [] (fun s => undef), evP 18 23 [] (fun s => undef), evP 19 24 [] (fun s => undef), evP 20 25 [] (fun s => undef), evP 21 26 [] (fun s => undef), evP 22 27 [] (fun s => undef), evP 23 28 [] (fun s => undef), evP 24 29 [] (fun s => undef), evP 25 30 [] (fun s => undef), evP 26 31 [] (fun s => undef), evP 27 32 [] (fun s => undef), evP 28 33 [] (fun s => undef), evP 29 34 [] (fun s => undef), evP 30 35 [] (fun s => .bool false)] [31] true 32 rfl rfl (by kernel_rfl) rfl (fun _ => rfl) ?aF HS1.out ?hs ?_
  rotate_left 1
  case aF => intro s; simp only [putE, EvT.val, Act.put, setIfInBounds_toArray, set_cons_zero, set_cons_succ]; rfl
  case hs => exact ⟨ld rfl 0 (fun s => rfl) (fun s w h => by have h0 := h 0 _ rfl; clear h; go_simp; try rfl), pu rfl (hr := fun s w => by go_simp; try rfl), ld rfl 1 (fun s => rfl) (fun s w h => by have h0 := h 0 _ rfl; have h1 := h 1 _ rfl; have h2 := h 2 _ rfl; have h3 := h 3 _ rfl; clear h; go_simp; try rfl), cl rfl (fun s => #[.agg #[.slice A0_0 l0_0.length c0_0], .int .i64 a1_0]) Try.func132 (fun s w1 h => (impl_Memory_hasArray.calls _ _ _ _ _ _ (Kd.C_below HR0_0.out h.hb) HC0_0.out H1.out).mono (by rintro e w2 ⟨rfl, hb⟩; exact fin0 hb)), pu rfl, pu rfl (hr := fun s w => by go_simp; try rfl), ld rfl 1 (fun s => rfl) (fun s w h => by have h0 := h 0 _ rfl; have h1 := h 1 _ rfl; have h2 := h 2 _ rfl; have h3 := h 3 _ rfl; clear h; go_simp; try rfl), cl rfl (fun s => #[.int .i64 a1_3, .int .i64 0, .int .i64 64]) Try.func81 (fun s w1 h => (impl_within.calls _ _ _ _ _ H2.out).mono (by rintro e w2 ⟨rfl, hd⟩; exact fin0 hd.below)), pu rfl, pu rfl, pf rfl, pf rfl, pf rfl, pf rfl, pf rfl, pu rfl, pu rfl, pf rfl, pf rfl, pf rfl, pf rfl, pf rfl, pf rfl, pf rfl, pf rfl, pf rfl, pf rfl, pf rfl, pf rfl, pf rfl, pu rfl, trivial⟩
  intro s2 w2 h; have HS2 := Aside0.mk h; clear h HS1
  refine tlP (v := .bool false) 4 rfl ?_
  simp only [Act.put, setIfInBounds_toArray, set_cons_zero, set_cons_succ]
  refine tl0 ?_
  refine wp_ret ?_
  go_ret
  exact ⟨by first | rfl | simp, HS2.out.hb⟩
set_option maxHeartbeats 8000000 in
set_option maxRecDepth 100000 in
theorem impl_Memory_hasWindow_w2 (A0_0 : Option Addr) (c0_0 : Nat) (l0_0 : List (List Int)) (a1_0 : Int) (a1_1 : Int) (a1_2 : Int) (a1_3 : Int) (w : World) (hr0_0 : Kd.C (Kd.slice 5 (Kd.int .u8)) w A0_0 l0_0.length l0_0) (hc0_0 : l0_0.length ≤ c0_0) (H1 : impl_Memory_hasArray.f l0_0 a1_0 = some true) (H2 : impl_within.f a1_3 0 64 = some true) (H3 : impl_within.f a1_2 0 a1_3 = some false) :
    Calls Try.prog 121 #[.agg #[.slice A0_0 l0_0.length c0_0], .agg #[.int .i64 a1_0, .int .i64 a1_1, .int .i64 a1_2, .int .i64 a1_3]] w fun e w' => e = .returned (.bool false) ∧ Below w.heap.size w w' := by
  have HR0_0 := Aside0.mk hr0_0; have HC0_0 := Aside0.mk hc0_0; clear hr0_0 hc0_0
  have H1_ := Aside0.mk H1; clear H1; have H1 := H1_; clear H1_
  have H2_ := Aside0.mk H2; clear H2; have H2 := H2_; clear H2_
  have H3_ := Aside0.mk H3; clear H3; have H3 := H3_; clear H3_
  have HS0 : Aside0 (Stk w [] w) := ⟨Stk.nil w⟩
  go_enter Try.func121, Try.ntmps121
  refine reg (aF := ?_) (nw := ?_) [evB 0 2 [] 31 (fun s => #[.slice A0_0 l0_0.length c0_0]) 9999 [] (fun s => #[.slice A0_0 l0_0.length c0_0]), evB 1 3 [] 32 (fun s => #[.int .i64 a1_0, .int .i64 a1_1, .int .i64 a1_2, .int .i64 a1_3]) 9999 [] (fun s => #[.int .i64 a1_0, .int .i64 a1_1, .int .i64 a1_2, .int .i64 a1_3]), evP 2 4 [] (fun s => .bool false)] [] [] false 3 rfl rfl (by kernel_rfl) rfl (mf0) ?aF ?nw HS0.out ?hs ?_
  rotate_left 2
  case aF => intro s; simp only [putE, EvT.val, Act.put, setIfInBounds_toArray, set_cons_zero, set_cons_succ]; rfl
  case nw => intro s; simp only [thA, bsA, List.nil_append, List.cons_append, List.append_nil, if_true, if_false, Nat.reduceLT, set_cons_zero, set_cons_succ]; rfl
  case hs => exact ⟨bv rfl (fun s w => by go_simp; try rfl), bv rfl (fun s w => by go_simp; try rfl), pu rfl, trivial⟩
  intro s1 w1 h; have HS1 := Aside0.mk h; clear h HS0
  refine tl0 ?_
  refine reg0 (aF := ?_) [evL 0 5 [] (fun s => .agg #[.slice A0_0 l0_0.length c0_0]), evP 1 6 [] (fun s => .pointer (some ⟨(s1 1).lo, 0, none⟩)), evL 2 7 [] (fun s => .int .i64 a1_0), evC 3 (some 8) [] (fun s x => .bool true) (fun s x => []), evP 4 9 [] (fun s => .bool true), evP 5 10 [] (fun s => .pointer (some ⟨(s1 1).lo, 3, none⟩)), evL 6 11 [] (fun s => .int .i64 a1_3), evC 7 (some 12) [] (fun s x => .bool true) (fun s x => []), evP 8 13 [] (fun s => .bool true), evP 9 14 [] (fun s => .bool true), evP 10 15 [] (fun s => .pointer (some ⟨(s1 1).lo, 2, none⟩)), evL 11 16 [] (fun s => .int .i64 a1_2), evP 12 17 [] (fun s => .pointer (some ⟨(s1 1).lo, 3, none⟩)), evL 13 18 [] (fun s => .int .i64 a1_3), evC 14 (some 19) [] (fun s x => .bool false) (fun s x => []), evP 15 20 [] (fun s => .bool false), evP 16 21 [] (fun s => .bool false), evP 17 22 [] (fun s => undef), evP 18 23 [] (fun s => undef), evP 19 24 [] (fun s => undef), evP 20 25 [] (fun s => undef), evP 21 26 [] (fun s => undef), evP 22 27 [] (fun s => undef), evP 23 28 [] (fun s => undef), evP 24 29 [] (fun s => undef), evP 25 30 [] (fun s => undef), evP 26 31 [] (fun s => undef), evP 27 32 [] (fun s => undef), evP 28 33 [] (fun s => undef), evP 29 34 [] (fun s => undef), evP 30 35 [] (fun s => .bool false)] [31] true 32 rfl rfl (by kernel_rfl) rfl (fun _ => rfl) ?aF HS1.out ?hs ?_
  rotate_left 1
  case aF => intro s; simp only [putE, EvT.val, Act.put, setIfInBounds_toArray, set_cons_zero, set_cons_succ]; rfl
  case hs => exact ⟨ld rfl 0 (fun s => rfl) (fun s w h => by have h0 := h 0 _ rfl; clear h; go_simp; try rfl), pu rfl (hr := fun s w => by go_simp; try rfl), ld rfl 1 (fun s => rfl) (fun s w h => by have h0 := h 0 _ rfl; have h1 := h 1 _ rfl; have h2 := h 2 _ rfl; have h3 := h 3 _ rfl; clear h; go_simp; try rfl), cl rfl (fun s => #[.agg #[.slice A0_0 l0_0.length c0_0], .int .i64 a1_0]) Try.func132 (fun s w1 h => (impl_Memory_hasArray.calls _ _ _ _ _ _ (Kd.C_below HR0_0.out h.hb) HC0_0.out H1.out).mono (by rintro e w2 ⟨rfl, hb⟩; exact fin0 hb)), pu rfl, pu rfl (hr := fun s w => by go_simp; try rfl), ld rfl 1 (fun s => rfl) (fun s w h => by have h0 := h 0 _ rfl; have h1 := h 1 _ rfl; have h2 := h 2 _ rfl; have h3 := h 3 _ rfl; clear h; go_simp; try rfl), cl rfl (fun s => #[.int .i64 a1_3, .int .i64 0, .int .i64 64]) Try.func81 (fun s w1 h => (impl_within.calls _ _ _ _ _ H2.out).mono (by rintro e w2 ⟨rfl, hd⟩; exact fin0 hd.below)), pu rfl, pu rfl, pu rfl (hr := fun s w => by go_simp; try rfl), ld rfl 1 (fun s => rfl) (fun s w h => by have h0 := h 0 _ rfl; have h1 := h 1 _ rfl; have h2 := h 2 _ rfl; have h3 := h 3 _ rfl; clear h; go_simp; try rfl), pu rfl (hr := fun s w => by go_simp; try rfl), ld rfl 1 (fun s => rfl) (fun s w h => by have h0 := h 0 _ rfl; have h1 := h 1 _ rfl; have h2 := h 2 _ rfl; have h3 := h 3 _ rfl; clear h; go_simp; try rfl), cl rfl (fun s => #[.int .i64 a1_2, .int .i64 0, .int .i64 a1_3]) Try.func81 (fun s w1 h => (impl_within.calls _ _ _ _ _ H3.out).mono (by rintro e w2 ⟨rfl, hd⟩; exact fin0 hd.below)), pu rfl, pu rfl, pf rfl, pf rfl, pf rfl, pf rfl, pf rfl, pf rfl, pf rfl, pf rfl, pf rfl, pf rfl, pf rfl, pf rfl, pf rfl, pu rfl, trivial⟩
  intro s2 w2 h; have HS2 := Aside0.mk h; clear h HS1
  refine tlP (v := .bool false) 4 rfl ?_
  simp only [Act.put, setIfInBounds_toArray, set_cons_zero, set_cons_succ]
  refine tl0 ?_
  refine wp_ret ?_
  go_ret
  exact ⟨by first | rfl | simp, HS2.out.hb⟩
set_option maxHeartbeats 8000000 in
set_option maxRecDepth 100000 in
theorem impl_Memory_hasWindow_w3 (ge : Addr) (c0_0 : Nat) (l0_0 : List (List Int)) (a1_0 : Int) (a1_1 : Int) (a1_2 : Int) (a1_3 : Int) (Xe : Option Addr) (cape : Nat) (row : List Int) (w : World) (hr0_0 : Kd.C (Kd.slice 5 (Kd.int .u8)) w (some ge) l0_0.length l0_0) (hc0_0 : l0_0.length ≤ c0_0) (hel : w.cell? (ge.add a1_0.toNat) = some (.slice Xe row.length cape)) (H1 : impl_Memory_hasArray.f l0_0 a1_0 = some true) (H2 : impl_within.f a1_3 0 64 = some true) (H3 : impl_within.f a1_2 0 a1_3 = some true) (H4 : impl_within.f a1_1 0 ((row.length : Int) - a1_3) = some false) (F0 : 0 ≤ a1_0) (F1 : a1_0 < (l0_0.length : Int)) (F2 : 0 ≤ a1_3) (F3 : a1_3 ≤ 64) (F4 : row.length ≤ 9223372036854775807) :
    Calls Try.prog 121 #[.agg #[.slice (some ge) l0_0.length c0_0], .agg #[.int .i64 a1_0, .int .i64 a1_1, .int .i64 a1_2, .int .i64 a1_3]] w fun e w' => e = .returned (.bool false) ∧ Below w.heap.size w w' := by
  have HR0_0 := Aside0.mk hr0_0; have HC0_0 := Aside0.mk hc0_0; clear hr0_0 hc0_0
  have HEL := Aside0.mk hel; clear hel
  have H1_ := Aside0.mk H1; clear H1; have H1 := H1_; clear H1_
  have H2_ := Aside0.mk H2; clear H2; have H2 := H2_; clear H2_
  have H3_ := Aside0.mk H3; clear H3; have H3 := H3_; clear H3_
  have H4_ := Aside0.mk H4; clear H4; have H4 := H4_; clear H4_
  have HS0 : Aside0 (Stk w [] w) := ⟨Stk.nil w⟩
  go_enter Try.func121, Try.ntmps121
  refine reg (aF := ?_) (nw := ?_) [evB 0 2 [] 31 (fun s => #[.slice (some ge) l0_0.length c0_0]) 9999 [] (fun s => #[.slice (some ge) l0_0.length c0_0]), evB 1 3 [] 32 (fun s => #[.int .i64 a1_0, .int .i64 a1_1, .int .i64 a1_2, .int .i64 a1_3]) 9999 [] (fun s => #[.int .i64 a1_0, .int .i64 a1_1, .int .i64 a1_2, .int .i64 a1_3]), evP 2 4 [] (fun s => .bool false)] [] [] false 3 rfl rfl (by kernel_rfl) rfl (mf0) ?aF ?nw HS0.out ?hs ?_
  rotate_left 2
  case aF => intro s; simp only [putE, EvT.val, Act.put, setIfInBounds_toArray, set_cons_zero, set_cons_succ]; rfl
  case nw => intro s; simp only [thA, bsA, List.nil_append, List.cons_append, List.append_nil, if_true, if_false, Nat.reduceLT, set_cons_zero, set_cons_succ]; rfl
  case hs => exact ⟨bv rfl (fun s w => by go_simp; try rfl), bv rfl (fun s w => by go_simp; try rfl), pu rfl, trivial⟩
  intro s1 w1 h; have HS1 := Aside0.mk h; clear h HS0
  refine tl0 ?_
  refine reg0 (aF := ?_) [evL 0 5 [] (fun s => .agg #[.slice (some ge) l0_0.length c0_0]), evP 1 6 [] (fun s => .pointer (some ⟨(s1 1).lo, 0, none⟩)), evL 2 7 [] (fun s => .int .i64 a1_0), evC 3 (some 8) [] (fun s x => .bool true) (fun s x => []), evP 4 9 [] (fun s => .bool true), evP 5 10 [] (fun s => .pointer (some ⟨(s1 1).lo, 3, none⟩)), evL 6 11 [] (fun s => .int .i64 a1_3), evC 7 (some 12) [] (fun s x => .bool true) (fun s x => []), evP 8 13 [] (fun s => .bool true), evP 9 14 [] (fun s => .bool true), evP 10 15 [] (fun s => .pointer (some ⟨(s1 1).lo, 2, none⟩)), evL 11 16 [] (fun s => .int .i64 a1_2), evP 12 17 [] (fun s => .pointer (some ⟨(s1 1).lo, 3, none⟩)), evL 13 18 [] (fun s => .int .i64 a1_3), evC 14 (some 19) [] (fun s x => .bool true) (fun s x => []), evP 15 20 [] (fun s => .bool true), evP 16 21 [] (fun s => .bool true), evP 17 22 [] (fun s => .pointer (some ⟨(s1 1).lo, 1, none⟩)), evR 18 23 1 (fun s => .int .i64 a1_1), evP 19 24 [] (fun s => .pointer (some ⟨(s1 0).lo, 0, none⟩)), evL 20 25 [] (fun s => .slice (some ge) l0_0.length c0_0), evP 21 26 [] (fun s => .pointer (some ⟨(s1 1).lo, 0, none⟩)), evL 22 27 [] (fun s => .int .i64 a1_0), evP 23 28 [] (fun s => .pointer (some (ge.add a1_0.toNat))), evL 24 29 [] (fun s => .slice Xe row.length cape), evP 25 30 [] (fun s => .int .i64 (row.length : Int)), evP 26 31 [] (fun s => .pointer (some ⟨(s1 1).lo, 3, none⟩)), evL 27 32 [] (fun s => .int .i64 a1_3), evP 28 33 [] (fun s => .int .i64 ((row.length : Int) - a1_3)), evC 29 (some 34) [] (fun s x => .bool false) (fun s x => []), evP 30 35 [] (fun s => .bool false)] [31] true 32 rfl rfl (by kernel_rfl) rfl (fun _ => rfl) ?aF HS1.out ?hs ?_
  rotate_left 1
  case aF => intro s; simp only [putE, EvT.val, Act.put, setIfInBounds_toArray, set_cons_zero, set_cons_succ]; rfl
  case hs => exact ⟨ld rfl 0 (fun s => rfl) (fun s w h => by have h0 := h 0 _ rfl; clear h; go_simp; try rfl), pu rfl (hr := fun s w => by go_simp; try rfl), ld rfl 1 (fun s => rfl) (fun s w h => by have h0 := h 0 _ rfl; have h1 := h 1 _ rfl; have h2 := h 2 _ rfl; have h3 := h 3 _ rfl; clear h; go_simp; try rfl), cl rfl (fun s => #[.agg #[.slice (some ge) l0_0.length c0_0], .int .i64 a1_0]) Try.func132 (fun s w1 h => (impl_Memory_hasArray.calls _ _ _ _ _ _ (Kd.C_below HR0_0.out h.hb) HC0_0.out H1.out).mono (by rintro e w2 ⟨rfl, hb⟩; exact fin0 hb)), pu rfl, pu rfl (hr := fun s w => by go_simp; try rfl), ld rfl 1 (fun s => rfl) (fun s w h => by have h0 := h 0 _ rfl; have h1 := h 1 _ rfl; have h2 := h 2 _ rfl; have h3 := h 3 _ rfl; clear h; go_simp; try rfl), cl rfl (fun s => #[.int .i64 a1_3, .int .i64 0, .int .i64 64]) Try.func81 (fun s w1 h => (impl_within.calls _ _ _ _ _ H2.out).mono (by rintro e w2 ⟨rfl, hd⟩; exact fin0 hd.below)), pu rfl, pu rfl, pu rfl (hr := fun s w => by go_simp; try rfl), ld rfl 1 (fun s => rfl) (fun s w h => by have h0 := h 0 _ rfl; have h1 := h 1 _ rfl; have h2 := h 2 _ rfl; have h3 := h 3 _ rfl; clear h; go_simp; try rfl), pu rfl (hr := fun s w => by go_simp; try rfl), ld rfl 1 (fun s => rfl) (fun s w h => by have h0 := h 0 _ rfl; have h1 := h 1 _ rfl; have h2 := h 2 _ rfl; have h3 := h 3 _ rfl; clear h; go_simp; try rfl), cl rfl (fun s => #[.int .i64 a1_2, .int .i64 0, .int .i64 a1_3]) Try.func81 (fun s w1 h => (impl_within.calls _ _ _ _ _ H3.out).mono (by rintro e w2 ⟨rfl, hd⟩; exact fin0 hd.below)), pu rfl, pu rfl, pu rfl (hr := fun s w => by go_simp; try rfl), lr rfl 1 rfl (fun s w h => by have h0 := h 0 _ rfl; have h1 := h 1 _ rfl; have h2 := h 2 _ rfl; have h3 := h 3 _ rfl; clear h; go_simp; try rfl), pu rfl (hr := fun s w => by go_simp; try rfl), ld rfl 0 (fun s => rfl) (fun s w h => by have h0 := h 0 _ rfl; clear h; go_simp; try rfl), pu rfl (hr := fun s w => by go_simp; try rfl), ld rfl 1 (fun s => rfl) (fun s w h => by have h0 := h 0 _ rfl; have h1 := h 1 _ rfl; have h2 := h 2 _ rfl; have h3 := h 3 _ rfl; clear h; go_simp; try rfl), pu rfl (hr := fun s w => by go_simp; try rfl), lo rfl (one_at HEL.out) (fun s w h => by have h0 := h 0 _ rfl; clear h; go_simp; try rfl), pu rfl (hr := fun s w => by go_simp; try rfl), pu rfl (hr := fun s w => by go_simp; try rfl), ld rfl 1 (fun s => rfl) (fun s w h => by have h0 := h 0 _ rfl; have h1 := h 1 _ rfl; have h2 := h 2 _ rfl; have h3 := h 3 _ rfl; clear h; go_simp; try rfl), pa .sub (r := (row.length : Int) - a1_3) (.inr (.inl ⟨rfl, (i64_ok (n := (row.length : Int) - a1_3) (by omega) (by omega))⟩)) rfl, cl rfl (fun s => #[.int .i64 a1_1, .int .i64 0, .int .i64 ((row.length : Int) - a1_3)]) Try.func81 (fun s w1 h => (impl_within.calls _ _ _ _ _ H4.out).mono (by rintro e w2 ⟨rfl, hd⟩; exact fin0 hd.below)), pu rfl, trivial⟩
  intro s2 w2 h; have HS2 := Aside0.mk h; clear h HS1
  refine tlP (v := .bool false) 4 rfl ?_
  simp only [Act.put, setIfInBounds_toArray, set_cons_zero, set_cons_succ]
  refine tl0 ?_
  refine wp_ret ?_
  go_ret
  exact ⟨by first | rfl | simp, HS2.out.hb⟩
set_option maxHeartbeats 8000000 in
set_option maxRecDepth 100000 in
theorem impl_Memory_hasWindow_w4 (ge : Addr) (c0_0 : Nat) (l0_0 : List (List Int)) (a1_0 : Int) (a1_1 : Int) (a1_2 : Int) (a1_3 : Int) (Xe : Option Addr) (cape : Nat) (row : List Int) (w : World) (hr0_0 : Kd.C (Kd.slice 5 (Kd.int .u8)) w (some ge) l0_0.length l0_0) (hc0_0 : l0_0.length ≤ c0_0) (hel : w.cell? (ge.add a1_0.toNat) = some (.slice Xe row.length cape)) (H1 : impl_Memory_hasArray.f l0_0 a1_0 = some true) (H2 : impl_within.f a1_3 0 64 = some true) (H3 : impl_within.f a1_2 0 a1_3 = some true) (H4 : impl_within.f a1_1 0 ((row.length : Int) - a1_3) = some true) (F0 : 0 ≤ a1_0) (F1 : a1_0 < (l0_0.length : Int)) (F2 : 0 ≤ a1_3) (F3 : a1_3 ≤ 64) (F4 : row.length ≤ 9223372036854775807) :
    Calls Try.prog 121 #[.agg #[.slice (some ge) l0_0.length c0_0], .agg #[.int .i64 a1_0, .int .i64 a1_1, .int .i64 a1_2, .int .i64 a1_3]] w fun e w' => e = .returned (.bool true) ∧ Below w.heap.size w w' := by
  have HR0_0 := Aside0.mk hr0_0; have HC0_0 := Aside0.mk hc0_0; clear hr0_0 hc0_0
  have HEL := Aside0.mk hel; clear hel
  have H1_ := Aside0.mk H1; clear H1; have H1 := H1_; clear H1_
  have H2_ := Aside0.mk H2; clear H2; have H2 := H2_; clear H2_
  have H3_ := Aside0.mk H3; clear H3; have H3 := H3_; clear H3_
  have H4_ := Aside0.mk H4; clear H4; have H4 := H4_; clear H4_
  have HS0 : Aside0 (Stk w [] w) := ⟨Stk.nil w⟩
  go_enter Try.func121, Try.ntmps121
  refine reg (aF := ?_) (nw := ?_) [evB 0 2 [] 31 (fun s => #[.slice (some ge) l0_0.length c0_0]) 9999 [] (fun s => #[.slice (some ge) l0_0.length c0_0]), evB 1 3 [] 32 (fun s => #[.int .i64 a1_0, .int .i64 a1_1, .int .i64 a1_2, .int .i64 a1_3]) 9999 [] (fun s => #[.int .i64 a1_0, .int .i64 a1_1, .int .i64 a1_2, .int .i64 a1_3]), evP 2 4 [] (fun s => .bool false)] [] [] false 3 rfl rfl (by kernel_rfl) rfl (mf0) ?aF ?nw HS0.out ?hs ?_
  rotate_left 2
  case aF => intro s; simp only [putE, EvT.val, Act.put, setIfInBounds_toArray, set_cons_zero, set_cons_succ]; rfl
  case nw => intro s; simp only [thA, bsA, List.nil_append, List.cons_append, List.append_nil, if_true, if_false, Nat.reduceLT, set_cons_zero, set_cons_succ]; rfl
  case hs => exact ⟨bv rfl (fun s w => by go_simp; try rfl), bv rfl (fun s w => by go_simp; try rfl), pu rfl, trivial⟩
  intro s1 w1 h; have HS1 := Aside0.mk h; clear h HS0
  refine tl0 ?_
  refine reg0 (aF := ?_) [evL 0 5 [] (fun s => .agg #[.slice (some ge) l0_0.length c0_0]), evP 1 6 [] (fun s => .pointer (some ⟨(s1 1).lo, 0, none⟩)), evL 2 7 [] (fun s => .int .i64 a1_0), evC 3 (some 8) [] (fun s x => .bool true) (fun s x => []), evP 4 9 [] (fun s => .bool true), evP 5 10 [] (fun s => .pointer (some ⟨(s1 1).lo, 3, none⟩)), evL 6 11 [] (fun s => .int .i64 a1_3), evC 7 (some 12) [] (fun s x => .bool true) (fun s x => []), evP 8 13 [] (fun s => .bool true), evP 9 14 [] (fun s => .bool true), evP 10 15 [] (fun s => .pointer (some ⟨(s1 1).lo, 2, none⟩)), evL 11 16 [] (fun s => .int .i64 a1_2), evP 12 17 [] (fun s => .pointer (some ⟨(s1 1).lo, 3, none⟩)), evL 13 18 [] (fun s => .int .i64 a1_3), evC 14 (some 19) [] (fun s x => .bool true) (fun s x => []), evP 15 20 [] (fun s => .bool true), evP 16 21 [] (fun s => .bool true), evP 17 22 [] (fun s => .pointer (some ⟨(s1 1).lo, 1, none⟩)), evR 18 23 1 (fun s => .int .i64 a1_1), evP 19 24 [] (fun s => .pointer (some ⟨(s1 0).lo, 0, none⟩)), evL 20 25 [] (fun s => .slice (some ge) l0_0.length c0_0), evP 21 26 [] (fun s => .pointer (some ⟨(s1 1).lo, 0, none⟩)), evL 22 27 [] (fun s => .int .i64 a1_0), evP 23 28 [] (fun s => .pointer (some (ge.add a1_0.toNat))), evL 24 29 [] (fun s => .slice Xe row.length cape), evP 25 30 [] (fun s => .int .i64 (row.length : Int)), evP 26 31 [] (fun s => .pointer (some ⟨(s1 1).lo, 3, none⟩)), evL 27 32 [] (fun s => .int .i64 a1_3), evP 28 33 [] (fun s => .int .i64 ((row.length : Int) - a1_3)), evC 29 (some 34) [] (fun s x => .bool true) (fun s x => []), evP 30 35 [] (fun s => .bool true)] [31] true 32 rfl rfl (by kernel_rfl) rfl (fun _ => rfl) ?aF HS1.out ?hs ?_
  rotate_left 1
  case aF => intro s; simp only [putE, EvT.val, Act.put, setIfInBounds_toArray, set_cons_zero, set_cons_succ]; rfl
  case hs => exact ⟨ld rfl 0 (fun s => rfl) (fun s w h => by have h0 := h 0 _ rfl; clear h; go_simp; try rfl), pu rfl (hr := fun s w => by go_simp; try rfl), ld rfl 1 (fun s => rfl) (fun s w h => by have h0 := h 0 _ rfl; have h1 := h 1 _ rfl; have h2 := h 2 _ rfl; have h3 := h 3 _ rfl; clear h; go_simp; try rfl), cl rfl (fun s => #[.agg #[.slice (some ge) l0_0.length c0_0], .int .i64 a1_0]) Try.func132 (fun s w1 h => (impl_Memory_hasArray.calls _ _ _ _ _ _ (Kd.C_below HR0_0.out h.hb) HC0_0.out H1.out).mono (by rintro e w2 ⟨rfl, hb⟩; exact fin0 hb)), pu rfl, pu rfl (hr := fun s w => by go_simp; try rfl), ld rfl 1 (fun s => rfl) (fun s w h => by have h0 := h 0 _ rfl; have h1 := h 1 _ rfl; have h2 := h 2 _ rfl; have h3 := h 3 _ rfl; clear h; go_simp; try rfl), cl rfl (fun s => #[.int .i64 a1_3, .int .i64 0, .int .i64 64]) Try.func81 (fun s w1 h => (impl_within.calls _ _ _ _ _ H2.out).mono (by rintro e w2 ⟨rfl, hd⟩; exact fin0 hd.below)), pu rfl, pu rfl, pu rfl (hr := fun s w => by go_simp; try rfl), ld rfl 1 (fun s => rfl) (fun s w h => by have h0 := h 0 _ rfl; have h1 := h 1 _ rfl; have h2 := h 2 _ rfl; have h3 := h 3 _ rfl; clear h; go_simp; try rfl), pu rfl (hr := fun s w => by go_simp; try rfl), ld rfl 1 (fun s => rfl) (fun s w h => by have h0 := h 0 _ rfl; have h1 := h 1 _ rfl; have h2 := h 2 _ rfl; have h3 := h 3 _ rfl; clear h; go_simp; try rfl), cl rfl (fun s => #[.int .i64 a1_2, .int .i64 0, .int .i64 a1_3]) Try.func81 (fun s w1 h => (impl_within.calls _ _ _ _ _ H3.out).mono (by rintro e w2 ⟨rfl, hd⟩; exact fin0 hd.below)), pu rfl, pu rfl, pu rfl (hr := fun s w => by go_simp; try rfl), lr rfl 1 rfl (fun s w h => by have h0 := h 0 _ rfl; have h1 := h 1 _ rfl; have h2 := h 2 _ rfl; have h3 := h 3 _ rfl; clear h; go_simp; try rfl), pu rfl (hr := fun s w => by go_simp; try rfl), ld rfl 0 (fun s => rfl) (fun s w h => by have h0 := h 0 _ rfl; clear h; go_simp; try rfl), pu rfl (hr := fun s w => by go_simp; try rfl), ld rfl 1 (fun s => rfl) (fun s w h => by have h0 := h 0 _ rfl; have h1 := h 1 _ rfl; have h2 := h 2 _ rfl; have h3 := h 3 _ rfl; clear h; go_simp; try rfl), pu rfl (hr := fun s w => by go_simp; try rfl), lo rfl (one_at HEL.out) (fun s w h => by have h0 := h 0 _ rfl; clear h; go_simp; try rfl), pu rfl (hr := fun s w => by go_simp; try rfl), pu rfl (hr := fun s w => by go_simp; try rfl), ld rfl 1 (fun s => rfl) (fun s w h => by have h0 := h 0 _ rfl; have h1 := h 1 _ rfl; have h2 := h 2 _ rfl; have h3 := h 3 _ rfl; clear h; go_simp; try rfl), pa .sub (r := (row.length : Int) - a1_3) (.inr (.inl ⟨rfl, (i64_ok (n := (row.length : Int) - a1_3) (by omega) (by omega))⟩)) rfl, cl rfl (fun s => #[.int .i64 a1_1, .int .i64 0, .int .i64 ((row.length : Int) - a1_3)]) Try.func81 (fun s w1 h => (impl_within.calls _ _ _ _ _ H4.out).mono (by rintro e w2 ⟨rfl, hd⟩; exact fin0 hd.below)), pu rfl, trivial⟩
  intro s2 w2 h; have HS2 := Aside0.mk h; clear h HS1
  refine tlP (v := .bool true) 4 rfl ?_
  simp only [Act.put, setIfInBounds_toArray, set_cons_zero, set_cons_succ]
  refine tl0 ?_
  refine wp_ret ?_
  go_ret
  exact ⟨by first | rfl | simp, HS2.out.hb⟩
end Go.Proofs.Ytaieobidkmihkaa.P


/- (Memory).hasWindow: is a window one on a memory? -/
namespace Go.Proofs.Ytaieobidkmihkaa.P
open Go.RowKit Go.Proofs.YtaieobidkmihkaaW.PrintWords Go.Proofs.YtaieobidkmihkaaW.PrintLast Go.Proofs.YtaieobidkmihkaaW.PrintMore
set_option linter.unusedVariables false
set_option linter.unusedSimpArgs false
def winB (m : List (List Int)) (a s l c : Int) : Bool := decide (0 ≤ a ∧ a < m.length ∧ 0 ≤ c ∧ c ≤ 64 ∧ 0 ≤ l ∧ l ≤ c ∧ 0 ≤ s ∧ s ≤ ((rd_Lsu8 m a).length : Int) - c)
theorem hasArray_f (m : List (List Int)) (a : Int) (hm : m.length ≤ 9223372036854775807) : impl_Memory_hasArray.f m a = some (decide (0 ≤ a ∧ a < m.length)) := by
  unfold impl_Memory_hasArray.f
  rw [wrap_ok (by omega) (by omega), within_f, Option.bind_some]
  congr 1
  rw [decide_eq_decide]
  omega
def impl_Memory_hasWindow.f (m : List (List Int)) (a s l c : Int) : Option Bool := if m.length ≤ 9223372036854775807 ∧ (∀ x ∈ m, x.length ≤ 9223372036854775807) then some (winB m a s l c) else none
theorem hasWindow_f (m : List (List Int)) (a s l c : Int) (hm : m.length ≤ 9223372036854775807) (hx : ∀ x ∈ m, x.length ≤ 9223372036854775807) : impl_Memory_hasWindow.f m a s l c = some (winB m a s l c) := if_pos ⟨hm, hx⟩
theorem impl_Memory_hasWindow.calls (A0_0 : Option Addr) (c0_0 : Nat) (l0_0 : List (List Int)) (a1_0 : Int) (a1_1 : Int) (a1_2 : Int) (a1_3 : Int) (r : Bool) (w : World) (hr0_0 : Kd.C (Kd.slice 5 (Kd.int .u8)) w A0_0 l0_0.length l0_0) (hc0_0 : l0_0.length ≤ c0_0) (h : impl_Memory_hasWindow.f l0_0 a1_0 a1_1 a1_2 a1_3 = some r) :
    Calls Try.prog 121 #[.agg #[.slice A0_0 l0_0.length c0_0], .agg #[.int .i64 a1_0, .int .i64 a1_1, .int .i64 a1_2, .int .i64 a1_3]] w fun e w' => e = .returned (.bool r) ∧ Below w.heap.size w w' := by
  unfold impl_Memory_hasWindow.f at h
  split at h
  next hh =>
    obtain ⟨hm, hx⟩ := hh
    obtain rfl := Option.some.inj h
    have ha := hasArray_f l0_0 a1_0 hm
    by_cases h1 : 0 ≤ a1_0 ∧ a1_0 < l0_0.length
    · rw [decide_eq_true h1] at ha
      by_cases h2 : 0 ≤ a1_3 ∧ a1_3 ≤ 64
      · have hb := (within_f a1_3 0 64).trans (congrArg some (decide_eq_true h2))
        by_cases h3 : 0 ≤ a1_2 ∧ a1_2 ≤ a1_3
        · have hc := (within_f a1_2 0 a1_3).trans (congrArg some (decide_eq_true h3))
          obtain ⟨ad, A0, c0, rfl, hcell, hle, hC⟩ := at_Lsu8 hr0_0 a1_0 h1.1 h1.2
          have hl : (rd_Lsu8 l0_0 a1_0).length ≤ 9223372036854775807 := by
            unfold rd_Lsu8
            rw [List.getD_eq_getElem?_getD, List.getElem?_eq_getElem (show a1_0.toNat < l0_0.length by omega)]
            exact hx _ (List.getElem_mem _)
          have hd := within_f a1_1 0 (((rd_Lsu8 l0_0 a1_0).length : Int) - a1_3)
          by_cases h4 : 0 ≤ a1_1 ∧ a1_1 ≤ ((rd_Lsu8 l0_0 a1_0).length : Int) - a1_3
          · have e : winB l0_0 a1_0 a1_1 a1_2 a1_3 = true := decide_eq_true (by omega)
            rw [e]
            rw [decide_eq_true h4] at hd
            exact impl_Memory_hasWindow_w4 (hr0_0 := hr0_0) (hc0_0 := hc0_0) (hel := hcell) (H1 := ha) (H2 := hb) (H3 := hc) (H4 := hd) (F0 := h1.1) (F1 := h1.2) (F2 := h2.1) (F3 := h2.2) (F4 := hl)
          · have e : winB l0_0 a1_0 a1_1 a1_2 a1_3 = false := decide_eq_false (by omega)
            rw [e]
            rw [decide_eq_false h4] at hd
            exact impl_Memory_hasWindow_w3 (hr0_0 := hr0_0) (hc0_0 := hc0_0) (hel := hcell) (H1 := ha) (H2 := hb) (H3 := hc) (H4 := hd) (F0 := h1.1) (F1 := h1.2) (F2 := h2.1) (F3 := h2.2) (F4 := hl)
        · have e : winB l0_0 a1_0 a1_1 a1_2 a1_3 = false := decide_eq_false (by omega)
          rw [e]
          exact impl_Memory_hasWindow_w2 A0_0 c0_0 l0_0 a1_0 a1_1 a1_2 a1_3 w hr0_0 hc0_0 ha hb ((within_f a1_2 0 a1_3).trans (congrArg some (decide_eq_false h3)))
      · have e : winB l0_0 a1_0 a1_1 a1_2 a1_3 = false := decide_eq_false (by omega)
        rw [e]
        exact impl_Memory_hasWindow_w1 A0_0 c0_0 l0_0 a1_0 a1_1 a1_2 a1_3 w hr0_0 hc0_0 ha ((within_f a1_3 0 64).trans (congrArg some (decide_eq_false h2)))
    · have e : winB l0_0 a1_0 a1_1 a1_2 a1_3 = false := decide_eq_false (by omega)
      rw [e]
      rw [decide_eq_false h1] at ha
      exact impl_Memory_hasWindow_w0 A0_0 c0_0 l0_0 a1_0 a1_1 a1_2 a1_3 w hr0_0 hc0_0 ha
  next => cases h
end Go.Proofs.Ytaieobidkmihkaa.P


/- impl.areOn: a memory is valid and has all windows of a list. Its closure, slices.IndexFunc and slices.ContainsFunc over it. -/
namespace Go.Proofs.Ytaieobidkmihkaa.P
open Go.RowKit Go.Proofs.YtaieobidkmihkaaW.PrintWords Go.Proofs.YtaieobidkmihkaaW.PrintLast Go.Proofs.YtaieobidkmihkaaW.PrintMore
set_option linter.unusedVariables false
set_option linter.unusedSimpArgs false
def winW (m : List (List Int)) (x : SimplWindow) : Bool := winB m x.f0 x.f1 x.f2 x.f3
set_option maxHeartbeats 1600000 in
set_option maxRecDepth 100000 in
theorem areOn1_c (b : Nat) (A : Option Addr) (c : Nat) (m : List (List Int)) (x0 x1 x2 x3 : Int) (w : World) (hcell : w.cell? ⟨b, 0, none⟩ = some (.slice A m.length c)) (hr : Kd.C (Kd.slice 5 (Kd.int .u8)) w A m.length m) (hc : m.length ≤ c) :
    Calls Try.prog 120 #[.agg #[.int .i64 x0, .int .i64 x1, .int .i64 x2, .int .i64 x3], .pointer (some ⟨b, 0, none⟩)] w fun e w' => e = .returned (.bool (!winB m x0 x1 x2 x3)) ∧ Below w.heap.size w w' := by
  have HR := Aside0.mk hr
  have HC := Aside0.mk hc
  clear hr hc
  have hb := World.block_lt_of_cell? w _ hcell
  have HF := Aside0.mk (hasWindow_f m x0 x1 x2 x3 HR.out.2.1 (C_inner_len HR.out))
  go_enter Try.func120, Try.ntmps120
  go_wp2_with (go_at_call 121; refine (impl_Memory_hasWindow.calls A c m x0 x1 x2 x3 _ _ (Kd.C_below HR.out ((Below.refl _ _).alloc (Nat.le_refl _) _)) HC.out HF.out).mono ?_; rintro e w1 ⟨rfl, hB⟩)
  go_ret
  exact ⟨rfl, ((Below.refl _ _).alloc (Nat.le_refl _) _).trans (hB.mono (by simp))⟩
theorem rdW_eq (l : List SimplWindow) (i : Nat) (h : i < l.length) : rd_TimplWindow l (i : Int) = l[i] := by simp [rd_TimplWindow, h]
set_option maxHeartbeats 1600000 in
set_option maxRecDepth 100000 in
theorem areOnI_c (b : Nat) (A : Option Addr) (c : Nat) (m : List (List Int)) (A1 : Option Addr) (c1 : Nat) (l : List SimplWindow) (w : World) (hcell : w.cell? ⟨b, 0, none⟩ = some (.slice A m.length c)) (hr : Kd.C (Kd.slice 5 (Kd.int .u8)) w A m.length m) (hc : m.length ≤ c) (hr1 : Kd.C kimplWindow w A1 l.length l) :
    Calls Try.prog 131 #[.slice A1 l.length c1, .func (.func 120) #[] #[.pointer (some ⟨b, 0, none⟩)]] w fun e w' => (∃ r : Int, e = .returned (.int .i64 r) ∧ decide (r ≥ 0) = !(l.all (winW m))) ∧ Below w.heap.size w w' := by
  have HR := Aside0.mk hr
  have HC := Aside0.mk hc
  have HR1 := Aside0.mk hr1
  have HCELL := Aside0.mk hcell
  have HLEN := Aside0.mk hr1.2.1
  clear hr hc hr1 hcell
  go_enter Try.func131, Try.ntmps131
  go_wp2
  go_loopw [8] (fun v8 wr => ∃ i : Nat, i ≤ l.length ∧ v8 = .int .i64 (i : Int) ∧ Aside0 ((l.take i).all (winW m) = true) ∧ Aside0 (Below w.heap.size w wr)) (fun v8 _ => l.length - (intOf v8).toNat)
  case atStart => exact ⟨0, Nat.zero_le _, rfl, ⟨by simp⟩, ⟨Below.refl _ _⟩⟩
  case round =>
    obtain ⟨i, hi, rfl, HALL, HB⟩ := hrel
    have hlen := HLEN.out
    by_cases hlt : i < l.length
    · have hlt' : (i : Int) < (l.length : Int) := by omega
      have hi0 : (0 : Int) ≤ (i : Int) := by omega
      obtain ⟨ad, e, hx0, hx1, hx2, hx3⟩ := at_TimplWindow HR1.out (i : Int) hi0 hlt'
      cases e
      obtain ⟨x, ex⟩ : ∃ x, l[i] = x := ⟨_, rfl⟩
      rw [rdW_eq l i hlt, ex] at hx0 hx1 hx2 hx3
      have hy0 := (HB.out.cell (World.block_lt_of_cell? w _ hx0)).trans hx0
      have hy1 := (HB.out.cell (World.block_lt_of_cell? w _ hx1)).trans hx1
      have hy2 := (HB.out.cell (World.block_lt_of_cell? w _ hx2)).trans hx2
      have hy3 := (HB.out.cell (World.block_lt_of_cell? w _ hx3)).trans hx3
      clear hx0 hx1 hx2 hx3
      have EX := Aside0.mk ex
      clear ex
      have HY := Aside0.mk (areOn1_c b A c m x.f0 x.f1 x.f2 x.f3 wr ((HB.out.cell (World.block_lt_of_cell? w _ HCELL.out)).trans HCELL.out) (Kd.C_below HR.out HB.out) HC.out)
      rw [Int.toNat_natCast] at hy0 hy1 hy2 hy3
      by_cases hw : winB m x.f0 x.f1 x.f2 x.f3 = true
      · have HW := Aside0.mk hw
        clear hw
        go_wp2_with (go_at_call 120; refine HY.out.mono ?_; rintro e w1 ⟨rfl, hB1⟩; rw [HW.out]; have HB1 := Aside0.mk hB1; clear hB1)
        go_roundw
        case rel => exact ⟨i + 1, by omega, by go_num, ⟨by rw [List.take_succ_eq_append_getElem hlt, List.all_append, HALL.out, EX.out]; simp [winW, HW.out]⟩, ⟨below_step HB.out HB1.out⟩⟩
        case measure => simp [intOf]; omega
      · have HW := Aside0.mk (Bool.eq_false_iff.2 hw)
        clear hw
        go_wp2_with (go_at_call 120; refine HY.out.mono ?_; rintro e w1 ⟨rfl, hB1⟩; rw [HW.out]; have HB1 := Aside0.mk hB1; clear hB1)
        go_ret
        refine ⟨⟨_, rfl, ?_⟩, below_step HB.out HB1.out⟩
        have hall : l.all (winW m) = false := by
          rw [List.all_eq_false]
          exact ⟨x, by rw [← EX.out]; exact List.getElem_mem hlt, by simp [winW, HW.out]⟩
        rw [hall]
        simp
    · obtain rfl : i = l.length := by omega
      have HALL2 := Aside0.mk (by have := HALL.out; rwa [List.take_length] at this : l.all (winW m) = true)
      clear HALL
      go_wp2
      go_ret
      refine ⟨⟨_, rfl, ?_⟩, HB.out⟩
      rw [HALL2.out]
      simp
set_option maxHeartbeats 1600000 in
set_option maxRecDepth 100000 in
theorem areOnC_c (b : Nat) (A : Option Addr) (c : Nat) (m : List (List Int)) (A1 : Option Addr) (c1 : Nat) (l : List SimplWindow) (w : World) (hcell : w.cell? ⟨b, 0, none⟩ = some (.slice A m.length c)) (hr : Kd.C (Kd.slice 5 (Kd.int .u8)) w A m.length m) (hc : m.length ≤ c) (hr1 : Kd.C kimplWindow w A1 l.length l) :
    Calls Try.prog 119 #[.slice A1 l.length c1, .func (.func 120) #[] #[.pointer (some ⟨b, 0, none⟩)]] w fun e w' => e = .returned (.bool (!(l.all (winW m)))) ∧ Below w.heap.size w w' := by
  have HY := Aside0.mk (areOnI_c b A c m A1 c1 l w hcell hr hc hr1)
  clear hcell hr hc hr1
  go_enter Try.func119, Try.ntmps119
  go_wp2_with (go_at_call 131; refine HY.out.mono ?_; rintro e w1 ⟨⟨r, rfl, hr⟩, hB1⟩; have HR := Aside0.mk hr; clear hr)
  go_ret
  exact ⟨by rw [← HR.out]; rfl, hB1⟩
def impl_areOn.f (l0_0 : List (List Int)) (l1 : List SimplWindow) : Option Bool := some (memB l0_0 && l1.all (winW l0_0))
set_option maxHeartbeats 1600000 in
set_option maxRecDepth 100000 in
theorem impl_areOn.calls (A0_0 : Option Addr) (c0_0 : Nat) (l0_0 : List (List Int)) (A1 : Option Addr) (c1 : Nat) (l1 : List SimplWindow) (r : Bool) (w : World) (hr0_0 : Kd.C (Kd.slice 5 (Kd.int .u8)) w A0_0 l0_0.length l0_0) (hc0_0 : l0_0.length ≤ c0_0) (hr1 : Kd.C kimplWindow w A1 l1.length l1) (hc1 : l1.length ≤ c1) (h : impl_areOn.f l0_0 l1 = some r) :
    Calls Try.prog 92 #[.agg #[.slice A0_0 l0_0.length c0_0], .slice A1 l1.length c1] w fun e w' => e = .returned (.bool r) ∧ Below w.heap.size w w' := by
  have H := Aside0.mk (Option.some.inj h)
  clear h
  have HR := Aside0.mk hr0_0
  have HC := Aside0.mk hc0_0
  have HR1 := Aside0.mk hr1
  clear hr0_0 hc0_0 hr1
  obtain ⟨k, hk⟩ := (IsMemory_f l0_0 HR.out.2.1).rounds
  have HK := Aside0.mk hk
  clear hk
  by_cases hm : memB l0_0 = true
  · have HM := Aside0.mk hm
    clear hm
    go_enter Try.func92, Try.ntmps92
    go_wp2_with (first | (go_at_call 111; refine (impl_IsMemory.calls k A0_0 c0_0 l0_0 _ _ (Kd.C_below HR.out ((Below.refl _ _).alloc (Nat.le_refl _) _)) HC.out HK.out).mono ?_; rintro e w1 ⟨rfl, hB⟩; rw [HM.out]; have HB := Aside0.mk hB; have hcell : w1.cell? ⟨w.heap.size, 0, none⟩ = some (.slice A0_0 l0_0.length c0_0) := (hB.cell (p := ⟨w.heap.size, 0, none⟩) (by simp)).trans (by simp); clear hB) | (go_at_call 119; refine (areOnC_c _ A0_0 c0_0 l0_0 A1 c1 l1 _ hcell (Kd.C_below HR.out (((Below.refl _ _).alloc (Nat.le_refl _) _).trans (HB.out.mono (by simp)))) HC.out (Kd.C_below HR1.out (((Below.refl _ _).alloc (Nat.le_refl _) _).trans (HB.out.mono (by simp))))).mono ?_; rintro e w2 ⟨rfl, hB2⟩; have HB2 := Aside0.mk hB2; clear hB2))
    go_ret
    exact ⟨by rw [← H.out, HM.out]; simp, (((Below.refl _ _).alloc (Nat.le_refl _) _).trans (HB.out.mono (by simp))).trans (HB2.out.mono (by have := HB.out.size; simp at this; omega))⟩
  · have HM := Aside0.mk (Bool.eq_false_iff.2 hm)
    clear hm
    go_enter Try.func92, Try.ntmps92
    go_wp2_with (first | (go_at_call 111; refine (impl_IsMemory.calls k A0_0 c0_0 l0_0 _ _ (Kd.C_below HR.out ((Below.refl _ _).alloc (Nat.le_refl _) _)) HC.out HK.out).mono ?_; rintro e w1 ⟨rfl, hB⟩; rw [HM.out]; have HB := Aside0.mk hB; clear hB))
    go_ret
    exact ⟨by rw [← H.out, HM.out]; simp, ((Below.refl _ _).alloc (Nat.le_refl _) _).trans (HB.out.mono (by simp))⟩
end Go.Proofs.Ytaieobidkmihkaa.P


namespace Go.Proofs.Ytaieobidkmihkaa.P
open Go.RowKit Go.Proofs.YtaieobidkmihkaaW.PrintWords Go.Proofs.YtaieobidkmihkaaW.PrintLast Go.Proofs.YtaieobidkmihkaaW.PrintMore
attribute [local go_sem] max2_int min2_int max_two min_two max_three min_three max_four min_four   -- for this text's walks alone
set_option linter.unusedVariables false
set_option linter.unusedSimpArgs false

def laws_szMemory.f (k : Nat) (l0_0 : List (List Int)) (a1 : Int) : Option (Int) := (laws_szByteSS.f k l0_0 a1).bind fun t104 => (if t104 < 0 then (some (-1)) else (some t104))
set_option maxHeartbeats 8000000 in
set_option maxRecDepth 100000 in
theorem laws_szMemory.calls (k : Nat) (A0_0 : Option Addr) (c0_0 : Nat) (l0_0 : List (List Int)) (a1 : Int) (r : Int) (w : World) (hr0_0 : Kd.C (Kd.slice 5 (Kd.int .u8)) w A0_0 l0_0.length l0_0) (hc0_0 : l0_0.length ≤ c0_0) (h : laws_szMemory.f k l0_0 a1 = some r) :
    Calls Try.prog 15 #[.agg #[.slice A0_0 l0_0.length c0_0], .int .i64 a1] w fun e w' => e = .returned (.int .i64 r) ∧ Below w.heap.size w w' := by
  have hu24 := Try.underlying24
  have HR0_0 := Aside0.mk hr0_0
  have HC0_0 := Aside0.mk hc0_0
  clear hr0_0 hc0_0
  have HB := Aside0.mk (Below.refl w.heap.size w)
  have H : ((laws_szByteSS.f k l0_0 a1).bind fun t104 => (if t104 < 0 then (some (-1)) else (some t104))) = some r := h
  clear h
  replace H := Option.bind_eq_some_iff.mp H
  obtain ⟨t104, A30, H⟩ := H
  replace H : (if t104 < 0 then (some (-1)) else (some t104)) = some r := H
  have A3 := Aside0.mk A30
  clear A30
  by_cases c4 : t104 < 0
  · rw [if_pos c4] at H
    have c4b0 : decide (t104 < 0) = true := decide_eq_true c4
    clear c4
    obtain rfl := Option.some.inj H
    go_enter Try.func15, Try.ntmps15
    go_wp2_with (first | ((with_reducible refine gate_dst (N := 2) rfl ?_); refine box_event ?hg (N := 2) ?hd (cs := #[.slice A0_0 l0_0.length c0_0]) (t := 24) ?hr ?_; (case hd => rfl); (case hg => rfl); (case hr => first | (go_simp; done) | (go_simp; rfl)); intro gb103 hg w5 hbox hb; have n0_ := Aside0.mk (below_step (by repeat (first | (with_reducible first | exact HB.out | apply below_alloc | apply pw_below_drewN | apply below_drew1) | exact HB.out)) hb); have n1_ := Aside0.mk (hbox); have n2_ := Aside0.mk ((by rw [hg]; exact (below_size (by repeat (first | (with_reducible first | exact HB.out | apply below_alloc | apply pw_below_drewN | apply below_drew1) | exact HB.out))) : w.heap.size ≤ gb103)); have n3_ := Aside0.mk ((by rw [hg]; exact (below_size (by repeat (first | (with_reducible first | exact HB.out | apply below_alloc | apply pw_below_drewN | apply below_drew1) | exact HB.out))) : w.heap.size ≤ gb103)); clear HB; have HB := n0_; have BK103 := n1_; have GW103 := n2_; have GE103 := n3_; clear n0_ n1_ n2_ n3_; clear hb hbox hg; have hcz6_0 : w5.cell? ⟨gb103, 0, none⟩ = some (.slice A0_0 l0_0.length c0_0) := (blk_cell BK103.out 0).trans rfl; have hfz6_0 := blk_frozen BK103.out 0) | ((with_reducible refine gate_callee (f := 55) rfl ?_); refine goesL_ (some 8) rfl rfl Try.func55 (by kernel_rfl) rfl #[.slice A0_0 l0_0.length c0_0, .int .i64 a1] rfl (by (try simp only [List.map_toArray, List.map_cons, List.map_nil]); first | done | rfl | (simp only [List.length_drop, List.length_take]; rfl)) ?_; (with_reducible refine (laws_szByteSS.calls k _ _ l0_0 a1 t104 _ ?side1 ?side2 A3.out).mono ?_); (case side1 => repeat (first | exact (Kd.C_below HR0_0.out HB.out) | (with_reducible refine Kd.C_alloc ?_ _) | (with_reducible refine Kd.C_drewN ?_ _) | (with_reducible refine Kd.C_drew ?_))); (case side2 => exact HC0_0.out); rintro e w' ⟨rfl, ⟨nd, rfl⟩⟩; refine ⟨_, rfl, ?_⟩))
    go_ret
    exact ⟨by first | rfl | (simp [errW_none, errW_some] <;> rfl) | (simp [*, errW_none, errW_some] <;> rfl), by repeat (first | (with_reducible first | exact HB.out | apply below_alloc | apply pw_below_drewN | apply below_drew1 | refine below_set ?_ GE103.out) | exact HB.out)⟩
  · rw [if_neg c4] at H
    have c4b0 : decide (t104 < 0) = false := decide_eq_false c4
    clear c4
    obtain rfl := Option.some.inj H
    go_enter Try.func15, Try.ntmps15
    go_wp2_with (first | ((with_reducible refine gate_dst (N := 2) rfl ?_); refine box_event ?hg (N := 2) ?hd (cs := #[.slice A0_0 l0_0.length c0_0]) (t := 24) ?hr ?_; (case hd => rfl); (case hg => rfl); (case hr => first | (go_simp; done) | (go_simp; rfl)); intro gb103 hg w7 hbox hb; have n0_ := Aside0.mk (below_step (by repeat (first | (with_reducible first | exact HB.out | apply below_alloc | apply pw_below_drewN | apply below_drew1) | exact HB.out)) hb); have n1_ := Aside0.mk (hbox); have n2_ := Aside0.mk ((by rw [hg]; exact (below_size (by repeat (first | (with_reducible first | exact HB.out | apply below_alloc | apply pw_below_drewN | apply below_drew1) | exact HB.out))) : w.heap.size ≤ gb103)); have n3_ := Aside0.mk ((by rw [hg]; exact (below_size (by repeat (first | (with_reducible first | exact HB.out | apply below_alloc | apply pw_below_drewN | apply below_drew1) | exact HB.out))) : w.heap.size ≤ gb103)); clear HB; have HB := n0_; have BK103 := n1_; have GW103 := n2_; have GE103 := n3_; clear n0_ n1_ n2_ n3_; clear hb hbox hg; have hcz8_0 : w7.cell? ⟨gb103, 0, none⟩ = some (.slice A0_0 l0_0.length c0_0) := (blk_cell BK103.out 0).trans rfl; have hfz8_0 := blk_frozen BK103.out 0) | ((with_reducible refine gate_callee (f := 55) rfl ?_); refine goesL_ (some 8) rfl rfl Try.func55 (by kernel_rfl) rfl #[.slice A0_0 l0_0.length c0_0, .int .i64 a1] rfl (by (try simp only [List.map_toArray, List.map_cons, List.map_nil]); first | done | rfl | (simp only [List.length_drop, List.length_take]; rfl)) ?_; (with_reducible refine (laws_szByteSS.calls k _ _ l0_0 a1 t104 _ ?side1 ?side2 A3.out).mono ?_); (case side1 => repeat (first | exact (Kd.C_below HR0_0.out HB.out) | (with_reducible refine Kd.C_alloc ?_ _) | (with_reducible refine Kd.C_drewN ?_ _) | (with_reducible refine Kd.C_drew ?_))); (case side2 => exact HC0_0.out); rintro e w' ⟨rfl, ⟨nd, rfl⟩⟩; refine ⟨_, rfl, ?_⟩))
    go_ret
    exact ⟨by first | rfl | (simp [errW_none, errW_some] <;> rfl) | (simp [*, errW_none, errW_some] <;> rfl), by repeat (first | (with_reducible first | exact HB.out | apply below_alloc | apply pw_below_drewN | apply below_drew1 | refine below_set ?_ GE103.out) | exact HB.out)⟩

end Go.Proofs.Ytaieobidkmihkaa.P


/- Marking a row of rows of bytes: each inner row is written in place. -/
namespace Go.Proofs.Ytaieobidkmihkaa.P
open Go.RowKit Go.Proofs.YtaieobidkmihkaaW.PrintWords Go.Proofs.YtaieobidkmihkaaW.PrintLast Go.Proofs.YtaieobidkmihkaaW.PrintMore Go.Proofs.YtaieobidkmihkaaW.Mine
set_option linter.unusedVariables false
set_option linter.unusedSimpArgs false
def curBB (a : Int) (l : List (List Int)) (i : Nat) : List (List Int) := marksBB a (l.take i) ++ l.drop i
theorem marksBB_append (xs ys : List (List Int)) : ∀ a, marksBB a (xs ++ ys) = marksBB a xs ++ marksBB (a + sizeBB xs) ys := by
  induction xs with
  | nil => intro a; simp [marksBB, sizeBB]
  | cons x xs ih =>
    intro a
    simp only [List.cons_append, marksBB, sizeBB, ih]
    rw [show a + ((x.length + sizeBB xs : Nat) : Int) = a + x.length + sizeBB xs from by omega]
theorem sizeBB_append (xs ys : List (List Int)) : sizeBB (xs ++ ys) = sizeBB xs + sizeBB ys := by
  induction xs with
  | nil => simp [sizeBB]
  | cons x xs ih => simp only [List.cons_append, sizeBB, ih]; omega
theorem sizeBB_take_succ (l : List (List Int)) (i : Nat) (h : i < l.length) : sizeBB (l.take (i + 1)) = sizeBB (l.take i) + (l.getD i []).length := by
  rw [List.take_succ_eq_append_getElem h, sizeBB_append]
  simp [sizeBB, h]
theorem sizeBB_take_le (l : List (List Int)) (i : Nat) : sizeBB (l.take i) ≤ sizeBB l := by
  have h := sizeBB_append (l.take i) (l.drop i)
  rw [List.take_append_drop] at h
  omega
theorem curBB_length (a : Int) (l : List (List Int)) (i : Nat) : (curBB a l i).length = l.length := by
  simp [curBB, marksBB_length]
  omega
theorem curBB_get (a : Int) (l : List (List Int)) (i : Nat) (h : i < l.length) : (curBB a l i).getD i [] = l.getD i [] := by
  have h1 : (marksBB a (l.take i)).length = i := by simp [marksBB_length]; omega
  simp [curBB, List.getD_eq_getElem?_getD, List.getElem?_append_right, h1]
theorem curBB_set (a : Int) (l : List (List Int)) (i : Nat) (h : i < l.length) : (curBB a l i).set i (marksB (a + sizeBB (l.take i)) (l.getD i [])) = curBB a l (i + 1) := by
  have h1 : (marksBB a (l.take i)).length = i := by simp [marksBB_length]; omega
  unfold curBB
  rw [List.take_succ_eq_append_getElem h, marksBB_append, List.drop_eq_getElem_cons h]
  have := set_mid (marksBB a (l.take i)) l[i] (marksB (a + sizeBB (l.take i)) (l.getD i [])) (l.drop (i + 1))
  rw [h1] at this
  rw [this]
  simp [marksBB, h]
theorem curBB_zero (a : Int) (l : List (List Int)) : curBB a l 0 = l := by simp [curBB, marksBB]
theorem curBB_all (a : Int) (l : List (List Int)) : curBB a l l.length = marksBB a l := by simp [curBB]
set_option maxHeartbeats 1600000 in
set_option maxRecDepth 100000 in
theorem markByteSS_c (P_ : Nat → Prop) (u : Value) (l : List (List Int)) (a : Int) (w0 w : World) (hB : Below w0.heap.size w0 w) (ho : Kd.S (Kd.slice 5 (Kd.int .u8)) 29 w w0.heap.size P_ u l)
    (ha0 : 0 ≤ a) (ha : a + sizeBB l ≤ 4611686018427387904) (hl : l.length ≤ 4611686018427387904) :
    Calls Try.prog 60 #[u, .int .i64 a] w fun e w' => e = .returned (.int .i64 (a + sizeBB l)) ∧ Kd.S (Kd.slice 5 (Kd.int .u8)) 29 w' w0.heap.size P_ u (marksBB a l) ∧ Below w0.heap.size w0 w' ∧ Kept w w' P_ := by
  obtain ⟨A, c, rfl⟩ := Kd.S_slice ho
  have HO := Aside0.mk ho
  have HB := Aside0.mk hB
  have HL := Aside0.mk hl
  have HA := Aside0.mk ha
  clear ho hB
  go_enter Try.func60, Try.ntmps60
  go_wp2
  go_loopw [1, 5] (fun v1 v5 wr => ∃ i : Nat, i ≤ l.length ∧ v5 = .int .i64 (i : Int) ∧ v1 = .int .i64 (a + sizeBB (l.take i)) ∧ Aside0 (Kd.S (Kd.slice 5 (Kd.int .u8)) 29 wr w0.heap.size P_ (.slice A l.length c) (curBB a l i)) ∧ Aside0 (Below w0.heap.size w0 wr) ∧ Aside0 (Kept w wr P_)) (fun _ v5 _ => l.length - (intOf v5).toNat)
  case atStart => exact ⟨0, Nat.zero_le _, rfl, by simp [sizeBB], ⟨by rw [curBB_zero]; exact HO.out⟩, HB, ⟨Kept.refl _ _⟩⟩
  case round =>
    clear HO HB
    obtain ⟨i, hi, rfl, rfl, HO, HB, HK⟩ := hrel
    by_cases hlt : i < l.length
    · obtain ⟨g, cap, hv, hb1, hb2, hb3⟩ := Kd.S_form HO.out (by rw [curBB_length]; omega)
      injection hv with hv1 hv2 hv3
      subst hv1
      subst hv3
      clear hb1 hb2 hb3 hv2
      have HT := Aside0.mk (sizeBB_take_le l i)
      have HT2 := Aside0.mk (sizeBB_take_le l (i + 1))
      have HT3 := Aside0.mk (sizeBB_take_succ l i hlt)
      have HT4 := Aside0.mk (show (l.getD i []).length = (l[i]'hlt).length from by simp [hlt])
      obtain ⟨v, hcell, hR, hok, hback⟩ := S_inner rfl HO.out (i : Int) (by omega) (by omega)
      rw [Int.toNat_natCast, curBB_get a l i hlt] at hR
      rw [Int.toNat_natCast] at hcell
      have HR := Aside0.mk hR
      have HOK := Aside0.mk hok
      have HBK := Aside0.mk (@hback)
      clear hR hok hback
      have hlt' : (i : Int) < (l.length : Int) := by omega
      have hi0 : (0 : Int) ≤ (i : Int) := by omega
      obtain ⟨k, hk⟩ := (markByteS_f (l.getD i []) (a + sizeBB (l.take i)) (by omega) (by have := HA.out; have := HT.out; have := HT2.out; have := HT3.out; omega)).rounds
      have HC := Aside0.mk (laws_markByteS.calls k _ _ _ _ _ _ w0 wr HB.out HR.out hk)
      clear hk
      go_wp2_with (go_at_call 25; refine HC.out.mono ?_; rintro e w1 ⟨rfl, hR1, hB1, hK1⟩)
      have HR1 := Aside0.mk hR1
      have HB1 := Aside0.mk hB1
      have HK1 := Aside0.mk hK1
      clear hR1 hB1 hK1 hcell
      go_roundw
      case rel => exact ⟨i + 1, by omega, by go_num, congrArg (Value.int .i64) (by have := HT3.out; have := HT4.out; omega), ⟨by
          have h3 := HBK.out (w1 := w1) (HK1.out.mono (fun k hk => hk.symm)) HR1.out
          rw [Int.toNat_natCast, curBB_set a l i hlt] at h3
          exact h3⟩, HB1, ⟨HK.out.then_ HK1.out (fun k hk => .inl (HOK.out k hk.symm).1)⟩⟩
      case measure => simp [intOf]; omega
    · obtain rfl : i = l.length := by omega
      go_wp2
      go_ret
      exact ⟨by rw [List.take_length]; rfl, by rw [← curBB_all]; exact HO.out, HB.out, HK.out⟩
def laws_markByteSS.f (l : List (List Int)) (a : Int) : Option (Int × List (List Int)) := if 0 ≤ a ∧ a + sizeBB l ≤ 4611686018427387904 ∧ l.length ≤ 4611686018427387904 then some (a + sizeBB l, marksBB a l) else none
theorem laws_markByteSS.calls (P_ : Nat → Prop) (u : Value) (l : List (List Int)) (a : Int) (r1 : Int) (r2 : List (List Int)) (w0 w : World) (hB : Below w0.heap.size w0 w) (ho : Kd.S (Kd.slice 5 (Kd.int .u8)) 29 w w0.heap.size P_ u l) (h : laws_markByteSS.f l a = some (r1, r2)) :
    Calls Try.prog 60 #[u, .int .i64 a] w fun e w' => e = .returned (.int .i64 r1) ∧ Kd.S (Kd.slice 5 (Kd.int .u8)) 29 w' w0.heap.size P_ u r2 ∧ Below w0.heap.size w0 w' ∧ Kept w w' P_ := by
  unfold laws_markByteSS.f at h
  split at h
  next hh =>
    obtain ⟨rfl, rfl⟩ : a + sizeBB l = r1 ∧ marksBB a l = r2 := by simpa using h
    exact markByteSS_c P_ u l a w0 w hB ho hh.1 hh.2.1 hh.2.2
  next => cases h
theorem rdB_eq (l : List (List Int)) (i : Nat) : rd_Lsu8 l (i : Int) = l.getD i [] := by simp [rd_Lsu8]
def copBB (l : List (List Int)) (i : Nat) : List (List Int) := l.take i ++ List.replicate (l.length - i) []
theorem copBB_length (l : List (List Int)) (i : Nat) (h : i ≤ l.length) : (copBB l i).length = l.length := by simp [copBB]; omega
theorem copBB_set (l : List (List Int)) (i : Nat) (h : i < l.length) : (copBB l i).set i (l.getD i []) = copBB l (i + 1) := by
  have h1 : (l.take i).length = i := by simp; omega
  unfold copBB
  rw [show l.length - i = (l.length - (i + 1)) + 1 from by omega, List.replicate_succ, List.take_succ_eq_append_getElem h]
  have := set_mid (l.take i) [] (l.getD i []) (List.replicate (l.length - (i + 1)) [])
  rw [h1] at this
  rw [this]
  simp [h]
theorem copBB_zero (l : List (List Int)) : copBB l 0 = List.replicate l.length [] := by simp [copBB]
theorem copBB_all (l : List (List Int)) : copBB l l.length = l := by simp [copBB]
set_option maxHeartbeats 1600000 in
set_option maxRecDepth 100000 in
theorem toByteSS_c (A : Option Addr) (c : Nat) (l : List (List Int)) (w : World) (hr : Kd.C (Kd.slice 5 (Kd.int .u8)) w A l.length l) (hl : l.length ≤ 1048576) (hx : ∀ x ∈ l, x.length ≤ 1048576) :
    Calls Try.prog 57 #[.slice A l.length c] w fun e w' => ∃ v : Value, e = .returned v ∧ Kd.S (Kd.slice 5 (Kd.int .u8)) 29 w' w.heap.size (fun _ => True) v l ∧ Below w.heap.size w w' := by
  have HR := Aside0.mk hr
  have HL := Aside0.mk hl
  have HX := Aside0.mk hx
  clear hr hx
  go_enter Try.func57, Try.ntmps57
  go_wp2_with (first | ((with_reducible refine gate_dst (N := 7) rfl ?_); refine Kd.S_make (Kd.slice 5 (Kd.int .u8)) (w0 := w) w.heap.size 29 rfl (N := 7) rfl 22 _ _ rfl (l.length : Int) rfl rfl Try.underlying22 (.slice none 0 0) 24 info29 rfl (by decide) (by omega) [] (ok := fun _ => True) (okp := fun _ => True) ⟨_, rfl, Kd.R_nil _ _ _ _ _⟩ (fun _ hk => hk) trivial (by omega) (by have := HL.out; simp only [Int.toNat_natCast]; omega) (Below.refl _ _) (Nat.le_refl _) ?_; intro v w4 ho hb hg_ hnew_; rw [Int.toNat_natCast, ← copBB_zero] at ho; have HO := Aside0.mk ho; have HB := Aside0.mk hb; clear hg_ hnew_ ho hb))
  obtain ⟨A1, c1, rfl⟩ := Kd.S_slice HO.out
  rw [copBB_length l 0 (Nat.zero_le _)] at HO ⊢
  go_loopw [4] (fun v4 wr => ∃ i : Nat, i ≤ l.length ∧ v4 = .int .i64 (i : Int) ∧ Aside0 (Kd.S (Kd.slice 5 (Kd.int .u8)) 29 wr w.heap.size (fun _ => True) (.slice A1 l.length c1) (copBB l i)) ∧ Aside0 (Below w.heap.size w wr)) (fun v4 _ => l.length - (intOf v4).toNat)
  case atStart => exact ⟨0, Nat.zero_le _, rfl, HO, HB⟩
  case round =>
    clear HO HB
    obtain ⟨i, hi, rfl, HO, HB⟩ := hrel
    by_cases hlt : i < l.length
    · have hlt' : (i : Int) < (l.length : Int) := by omega
      have hi0 : (0 : Int) ≤ (i : Int) := by omega
      obtain ⟨g, cap, hv, hb1, hb2, hb3⟩ := Kd.S_form HO.out (by rw [copBB_length l i hi]; omega)
      injection hv with hv1 hv2 hv3
      subst hv1
      subst hv3
      clear hb1 hb2 hb3 hv2
      obtain ⟨ad, A0, c0, e, hcell, hl0, hi0'⟩ := at_Lsu8 HR.out (i : Int) hi0 hlt'
      cases e
      have hcell2 := (HB.out.cell (World.block_lt_of_cell? w _ hcell)).trans hcell
      have HX1 := HX.out _ (List.getElem_mem hlt)
      obtain ⟨x, ex⟩ : ∃ x, l.getD i [] = x := ⟨_, rfl⟩
      rw [rdB_eq, Int.toNat_natCast, ex] at hcell2
      rw [rdB_eq, ex] at hl0 hi0'
      have HC0 := Aside0.mk (Kd.C_below hi0' HB.out)
      have HL0 := Aside0.mk hl0
      have HX0 := Aside0.mk (show x.length ≤ 1048576 from by
        rw [← ex, List.getD_eq_getElem?_getD, List.getElem?_eq_getElem hlt]; exact HX1)
      have EX := Aside0.mk ex
      clear hcell hl0 hi0' ex HX1
      obtain ⟨k, hk⟩ := (toByteS_f x (by have := HX0.out; omega)).rounds
      have HC := Aside0.mk (laws_toByteS.calls k A0 c0 x x wr HC0.out HL0.out hk)
      clear hk
      have HS := Aside0.mk (show Kd.S (Kd.slice 5 (Kd.int .u8)) 29 wr w.heap.size (fun k => k < wr.heap.size) (.slice (some ⟨g, 0, none⟩) l.length c1) (copBB l i) from Kd.S_mono (Kd.S_bound HO.out) (fun k hk => hk.2.2.1))
      clear HO
      go_wp2_with (first | (go_at_call 19; refine HC.out.mono ?_; rintro e w1 ⟨v1, rfl, hR1, hB1⟩; have HR1 := Aside0.mk hR1; have HB1 := Aside0.mk hB1; clear hR1 hB1; obtain ⟨Av, cv, rfl⟩ := Kd.R_slice HR1.out; obtain ⟨hS2, hg2, ⟨u2, hx2⟩, hf2⟩ := S_put rfl (Kd.S_below HS.out HB1.out) (i : Int) (by omega) (by omega) (y := x) (Kd.R_lower HR1.out HB.out.size) (fun k hk hlt2 => absurd (Kd.R_base HR1.out k hk) (by omega)); rw [Int.toNat_natCast] at hx2 hf2 hS2; have HS2 := Aside0.mk hS2; clear hS2 hg2))
      go_roundw
      case rel => exact ⟨i + 1, by omega, by go_num, ⟨by rw [← copBB_set l i hlt, EX.out]; exact Kd.S_mono HS2.out (fun _ _ => trivial)⟩, ⟨below_set (below_step HB.out HB1.out) (by have := Kd.S_base HS.out g rfl; omega)⟩⟩
      case measure => simp [intOf]; omega
    · obtain rfl : i = l.length := by omega
      go_wp2
      go_ret
      have h3 := HO.out
      rw [copBB_all] at h3
      exact ⟨_, rfl, h3, HB.out⟩
def laws_toByteSS.f (l0 : List (List Int)) : Option (List (List Int)) := if l0.length ≤ 1048576 ∧ l0.all (fun x => decide (x.length ≤ 1048576)) then some l0 else none
theorem laws_toByteSS.calls (A0 : Option Addr) (c0 : Nat) (l0 : List (List Int)) (r : List (List Int)) (w : World) (hr0 : Kd.C (Kd.slice 5 (Kd.int .u8)) w A0 l0.length l0) (hc0 : l0.length ≤ c0) (h : laws_toByteSS.f l0 = some r) :
    Calls Try.prog 57 #[.slice A0 l0.length c0] w fun e w' => ∃ v0_ : Value, e = .returned (v0_) ∧ Kd.S (Kd.slice 5 (Kd.int .u8)) 29 w' w.heap.size (fun _ => True) v0_ r ∧ Below w.heap.size w w' := by
  unfold laws_toByteSS.f at h
  split at h
  next hh =>
    obtain rfl := Option.some.inj h
    refine toByteSS_c A0 c0 l0 w hr0 hh.1 (fun x hx => ?_)
    have := List.all_eq_true.1 hh.2 x hx
    exact of_decide_eq_true this
  next => cases h
end Go.Proofs.Ytaieobidkmihkaa.P


namespace Go.Proofs.Ytaieobidkmihkaa.P
open Go.RowKit Go.Proofs.YtaieobidkmihkaaW.PrintWords Go.Proofs.YtaieobidkmihkaaW.PrintLast Go.Proofs.YtaieobidkmihkaaW.PrintMore
attribute [local go_sem] max2_int min2_int max_two min_two max_three min_three max_four min_four   -- for this text's walks alone
set_option linter.unusedVariables false
set_option linter.unusedSimpArgs false

def laws_toMemory.f (l0_0 : List (List Int)) : Option ((List (List Int))) := (laws_toByteSS.f l0_0).bind fun t205 => (some t205)
set_option maxHeartbeats 8000000 in
set_option maxRecDepth 100000 in
theorem laws_toMemory.calls (A0_0 : Option Addr) (c0_0 : Nat) (l0_0 : List (List Int)) (r : List (List Int)) (w : World) (hr0_0 : Kd.C (Kd.slice 5 (Kd.int .u8)) w A0_0 l0_0.length l0_0) (hc0_0 : l0_0.length ≤ c0_0) (h : laws_toMemory.f l0_0 = some r) :
    Calls Try.prog 17 #[.agg #[.slice A0_0 l0_0.length c0_0]] w fun e w' => ∃ v0_ : Value, e = .returned (.agg #[v0_]) ∧ Kd.S (Kd.slice 5 (Kd.int .u8)) 29 w' w.heap.size (fun _ => True) v0_ r ∧ Below w.heap.size w w' := by
  have hu24 := Try.underlying24
  have hu31 := Try.underlying31
  have HR0_0 := Aside0.mk hr0_0
  have HC0_0 := Aside0.mk hc0_0
  clear hr0_0 hc0_0
  have HB := Aside0.mk (Below.refl w.heap.size w)
  have H : ((laws_toByteSS.f l0_0).bind fun t205 => (some t205)) = some r := h
  clear h
  replace H := Option.bind_eq_some_iff.mp H
  obtain ⟨t205, A20, H⟩ := H
  replace H : (some t205) = some r := H
  have A2 := Aside0.mk A20
  clear A20
  obtain rfl := Option.some.inj H
  go_enter Try.func17, Try.ntmps17
  go_wp2_with (first | ((with_reducible refine gate_dst (N := 1) rfl ?_); refine box_event ?hg (N := 1) ?hd (cs := #[.slice A0_0 l0_0.length c0_0]) (t := 24) ?hr ?_; (case hd => rfl); (case hg => rfl); (case hr => first | (go_simp; done) | (go_simp; rfl)); intro gb202 hg w3 hbox hb; have n0_ := Aside0.mk (below_step (by repeat (first | (with_reducible first | exact HB.out | apply below_alloc | apply pw_below_drewN | apply below_drew1) | exact HB.out)) hb); have n1_ := Aside0.mk (hbox); have n2_ := Aside0.mk ((by rw [hg]; exact (below_size (by repeat (first | (with_reducible first | exact HB.out | apply below_alloc | apply pw_below_drewN | apply below_drew1) | exact HB.out))) : w.heap.size ≤ gb202)); have n3_ := Aside0.mk ((by rw [hg]; exact (below_size (by repeat (first | (with_reducible first | exact HB.out | apply below_alloc | apply pw_below_drewN | apply below_drew1) | exact HB.out))) : w.heap.size ≤ gb202)); clear HB; have HB := n0_; have BK202 := n1_; have GW202 := n2_; have GE202 := n3_; clear n0_ n1_ n2_ n3_; clear hb hbox hg) | ((with_reducible refine gate_dst (N := 2) rfl ?_); refine box_event ?hg (N := 2) ?hd (cs := #[.slice none 0 0]) (t := 31) ?hr ?_; (case hd => rfl); (case hg => rfl); (case hr => first | (go_simp; done) | (go_simp; rfl)); intro gb203 hg w4 hbox hb; have n0_ := Aside0.mk (blk_below (g := gb202) (o := .cells #[.slice A0_0 l0_0.length c0_0] 24 (0, 0)) (by (with_reducible repeat (first | refine blk_drewN ?_ _ | refine blk_drew ?_ | refine blk_alloc ?_ _)); exact BK202.out) hb); have n1_ := Aside0.mk (below_step (by repeat (first | (with_reducible first | exact HB.out | apply below_alloc | apply pw_below_drewN | apply below_drew1 | refine below_set ?_ GE202.out) | exact HB.out)) hb); have n2_ := Aside0.mk (hbox); have n3_ := Aside0.mk ((by rw [hg]; exact (below_size (by repeat (first | (with_reducible first | exact HB.out | apply below_alloc | apply pw_below_drewN | apply below_drew1 | refine below_set ?_ GE202.out) | exact HB.out))) : w.heap.size ≤ gb203)); have n4_ := Aside0.mk ((by rw [hg]; exact (below_size (by repeat (first | (with_reducible first | exact HB.out | apply below_alloc | apply pw_below_drewN | apply below_drew1 | refine below_set ?_ GE202.out) | exact HB.out))) : w.heap.size ≤ gb203)); have n5_ := Aside0.mk ((by rw [hg]; exact Nat.ne_of_lt (blk_lt (g := gb202) (o := .cells #[.slice A0_0 l0_0.length c0_0] 24 (0, 0)) (by (with_reducible repeat (first | refine blk_drewN ?_ _ | refine blk_drew ?_ | refine blk_alloc ?_ _)); exact BK202.out)) : gb202 ≠ gb203)); have n6_ := Aside0.mk ((by rw [hg]; exact Nat.ne_of_gt (blk_lt (g := gb202) (o := .cells #[.slice A0_0 l0_0.length c0_0] 24 (0, 0)) (by (with_reducible repeat (first | refine blk_drewN ?_ _ | refine blk_drew ?_ | refine blk_alloc ?_ _)); exact BK202.out)) : gb203 ≠ gb202)); clear BK202; clear HB; have BK202 := n0_; have HB := n1_; have BK203 := n2_; have GW203 := n3_; have GE203 := n4_; have NB202_203 := n5_; have NB203_202 := n6_; clear n0_ n1_ n2_ n3_ n4_ n5_ n6_; clear hb hbox hg) | ((with_reducible refine gate_dst (N := 3) rfl ?_); refine box_event ?hg (N := 3) ?hd (cs := #[.slice none 0 0]) (t := 31) ?hr ?_; (case hd => rfl); (case hg => rfl); (case hr => first | (go_simp; done) | (go_simp; rfl)); intro gb204 hg w5 hbox hb; have n0_ := Aside0.mk (blk_below (g := gb202) (o := .cells #[.slice A0_0 l0_0.length c0_0] 24 (0, 0)) (by (with_reducible repeat (first | refine blk_drewN ?_ _ | refine blk_drew ?_ | refine blk_alloc ?_ _)); exact BK202.out) hb); have n1_ := Aside0.mk (blk_below (g := gb203) (o := .cells #[.slice none 0 0] 31 (0, 0)) (by (with_reducible repeat (first | refine blk_drewN ?_ _ | refine blk_drew ?_ | refine blk_alloc ?_ _)); exact BK203.out) hb); have n2_ := Aside0.mk (below_step (by repeat (first | (with_reducible first | exact HB.out | apply below_alloc | apply pw_below_drewN | apply below_drew1 | refine below_set ?_ GE202.out | refine below_set ?_ GE203.out) | exact HB.out)) hb); have n3_ := Aside0.mk (hbox); have n4_ := Aside0.mk ((by rw [hg]; exact (below_size (by repeat (first | (with_reducible first | exact HB.out | apply below_alloc | apply pw_below_drewN | apply below_drew1 | refine below_set ?_ GE202.out | refine below_set ?_ GE203.out) | exact HB.out))) : w.heap.size ≤ gb204)); have n5_ := Aside0.mk ((by rw [hg]; exact (below_size (by repeat (first | (with_reducible first | exact HB.out | apply below_alloc | apply pw_below_drewN | apply below_drew1 | refine below_set ?_ GE202.out | refine below_set ?_ GE203.out) | exact HB.out))) : w.heap.size ≤ gb204)); have n6_ := Aside0.mk ((by rw [hg]; exact Nat.ne_of_lt (blk_lt (g := gb202) (o := .cells #[.slice A0_0 l0_0.length c0_0] 24 (0, 0)) (by (with_reducible repeat (first | refine blk_drewN ?_ _ | refine blk_drew ?_ | refine blk_alloc ?_ _)); exact BK202.out)) : gb202 ≠ gb204)); have n7_ := Aside0.mk ((by rw [hg]; exact Nat.ne_of_gt (blk_lt (g := gb202) (o := .cells #[.slice A0_0 l0_0.length c0_0] 24 (0, 0)) (by (with_reducible repeat (first | refine blk_drewN ?_ _ | refine blk_drew ?_ | refine blk_alloc ?_ _)); exact BK202.out)) : gb204 ≠ gb202)); have n8_ := Aside0.mk ((by rw [hg]; exact Nat.ne_of_lt (blk_lt (g := gb203) (o := .cells #[.slice none 0 0] 31 (0, 0)) (by (with_reducible repeat (first | refine blk_drewN ?_ _ | refine blk_drew ?_ | refine blk_alloc ?_ _)); exact BK203.out)) : gb203 ≠ gb204)); have n9_ := Aside0.mk ((by rw [hg]; exact Nat.ne_of_gt (blk_lt (g := gb203) (o := .cells #[.slice none 0 0] 31 (0, 0)) (by (with_reducible repeat (first | refine blk_drewN ?_ _ | refine blk_drew ?_ | refine blk_alloc ?_ _)); exact BK203.out)) : gb204 ≠ gb203)); clear BK202; clear BK203; clear HB; have BK202 := n0_; have BK203 := n1_; have HB := n2_; have BK204 := n3_; have GW204 := n4_; have GE204 := n5_; have NB202_204 := n6_; have NB204_202 := n7_; have NB203_204 := n8_; have NB204_203 := n9_; clear n0_ n1_ n2_ n3_ n4_ n5_ n6_ n7_ n8_ n9_; clear hb hbox hg; have hnb6 := NB202_203.out; have hnc6 := NB203_202.out; have hnb7 := NB202_204.out; have hnc7 := NB204_202.out; have hcz8_0 : w5.cell? ⟨gb202, 0, none⟩ = some (.slice A0_0 l0_0.length c0_0) := (blk_cell BK202.out 0).trans rfl; have hfz8_0 := blk_frozen BK202.out 0) | ((with_reducible refine gate_callee (f := 57) rfl ?_); refine goesL_ (some 6) rfl rfl Try.func57 (by kernel_rfl) rfl #[.slice A0_0 l0_0.length c0_0] rfl (by (try simp only [List.map_toArray, List.map_cons, List.map_nil]); first | done | rfl | (simp only [List.length_drop, List.length_take]; rfl)) ?_; (with_reducible refine (laws_toByteSS.calls _ _ l0_0 t205 _ ?side1 ?side2 A2.out).mono ?_); (case side1 => repeat (first | exact (Kd.C_below HR0_0.out HB.out) | (with_reducible refine Kd.C_alloc ?_ _) | (with_reducible refine Kd.C_drewN ?_ _) | (with_reducible refine Kd.C_drew ?_))); (case side2 => exact HC0_0.out); rintro e w9 ⟨v206, rfl, ho0, hb⟩; refine ⟨_, rfl, ?_⟩; have n0_ := Aside0.mk (Kd.S_lower ho0 (below_size (by repeat (first | (with_reducible first | exact HB.out | apply below_alloc | apply pw_below_drewN | apply below_drew1 | refine below_set ?_ GE202.out | refine below_set ?_ GE203.out | refine below_set ?_ GE204.out) | exact HB.out)))); have n1_ := Aside0.mk (blk_below (g := gb202) (o := .cells #[.slice A0_0 l0_0.length c0_0] 24 (0, 0)) (by (with_reducible repeat (first | refine blk_drewN ?_ _ | refine blk_drew ?_ | refine blk_alloc ?_ _)); exact BK202.out) hb); have n2_ := Aside0.mk (blk_below (g := gb203) (o := .cells #[.slice none 0 0] 31 (0, 0)) (by (with_reducible repeat (first | refine blk_drewN ?_ _ | refine blk_drew ?_ | refine blk_alloc ?_ _)); exact BK203.out) hb); have n3_ := Aside0.mk (blk_below (g := gb204) (o := .cells #[.slice none 0 0] 31 (0, 0)) (by (with_reducible repeat (first | refine blk_drewN ?_ _ | refine blk_drew ?_ | refine blk_alloc ?_ _)); exact BK204.out) hb); have n4_ := Aside0.mk (below_step (by repeat (first | (with_reducible first | exact HB.out | apply below_alloc | apply pw_below_drewN | apply below_drew1 | refine below_set ?_ GE202.out | refine below_set ?_ GE203.out | refine below_set ?_ GE204.out) | exact HB.out)) hb); clear BK202; clear BK203; clear BK204; clear HB; have HO207 := n0_; have BK202 := n1_; have BK203 := n2_; have BK204 := n3_; have HB := n4_; clear n0_ n1_ n2_ n3_ n4_; (try clear hb); (try clear hb2); (try clear hk); (try clear hi); (try clear ho0); obtain ⟨Ao10, co10, eo10⟩ := Kd.S_slice HO207.out; subst eo10; have hnb11 := NB204_203.out; have hnc11 := NB203_204.out; have hcz12_0 : w9.cell? ⟨gb204, 0, none⟩ = some (.slice none 0 0) := (blk_cell BK204.out 0).trans rfl; have hfz12_0 := blk_frozen BK204.out 0; have hcz13_0 : w9.cell? ⟨gb203, 0, none⟩ = some (.slice none 0 0) := (blk_cell BK203.out 0).trans rfl; have hfz13_0 := blk_frozen BK203.out 0))
  refine bodyPost_ret (results_cell_row rfl _ _ gb203 31 #[.slice Ao10 t205.length co10] (0, 0) _ rfl (by (with_reducible repeat (first | refine blk_drewN ?_ _ | refine blk_drew ?_ | refine blk_alloc ?_ _)); refine blk_put (cs := #[.slice none 0 0]) ?_ 0 _ rfl; (with_reducible repeat (first | refine blk_drewN ?_ _ | refine blk_drew ?_ | refine blk_alloc ?_ _)); refine blk_far ?_ NB203_204.out _; (with_reducible repeat (first | refine blk_drewN ?_ _ | refine blk_drew ?_ | refine blk_alloc ?_ _)); exact BK203.out) Try.underlying31 rfl (by kernel_rfl)) rfl ?_
  exact ⟨_, by first | rfl | (simp [errW_none, errW_some] <;> rfl) | (simp [*, errW_none, errW_some] <;> rfl), by (with_reducible repeat (first | apply Kd.S_alloc | apply Kd.S_drewN | apply Kd.S_drew)); exact Kd.S_mono (Kd.S_far (p := ⟨gb203, 0, none⟩) (Kd.S_far (p := ⟨gb204, 0, none⟩) (Kd.S_types (Kd.S_types HO207.out BK204.out (by decide)) BK203.out (by decide)) (fun _ hk => hk.1.2) (.slice Ao10 t205.length co10)) (fun _ hk => hk.2) (.slice Ao10 t205.length co10)) (fun _ hk => trivial), by repeat (first | (with_reducible first | exact HB.out | apply below_alloc | apply pw_below_drewN | apply below_drew1 | refine below_set ?_ GE202.out | refine below_set ?_ GE203.out | refine below_set ?_ GE204.out) | exact HB.out)⟩

end Go.Proofs.Ytaieobidkmihkaa.P


namespace Go.Proofs.Ytaieobidkmihkaa.P
open Go.RowKit Go.Proofs.YtaieobidkmihkaaW.PrintWords Go.Proofs.YtaieobidkmihkaaW.PrintLast Go.Proofs.YtaieobidkmihkaaW.PrintMore
attribute [local go_sem] max2_int min2_int max_two min_two max_three min_three max_four min_four   -- for this text's walks alone
set_option linter.unusedVariables false
set_option linter.unusedSimpArgs false

def laws_eqMemory.f (k : Nat) (l0_0 : List (List Int)) (l1_0 : List (List Int)) : Option (Bool) := (laws_eqByteSS.f k l0_0 l1_0).bind fun t273 => (if t273 = true then (some true) else (some false))
set_option maxHeartbeats 8000000 in
set_option maxRecDepth 100000 in
theorem laws_eqMemory.calls (k : Nat) (A0_0 : Option Addr) (c0_0 : Nat) (l0_0 : List (List Int)) (A1_0 : Option Addr) (c1_0 : Nat) (l1_0 : List (List Int)) (r : Bool) (w : World) (hr0_0 : Kd.C (Kd.slice 5 (Kd.int .u8)) w A0_0 l0_0.length l0_0) (hc0_0 : l0_0.length ≤ c0_0) (hr1_0 : Kd.C (Kd.slice 5 (Kd.int .u8)) w A1_0 l1_0.length l1_0) (hc1_0 : l1_0.length ≤ c1_0) (h : laws_eqMemory.f k l0_0 l1_0 = some r) :
    Calls Try.prog 21 #[.agg #[.slice A0_0 l0_0.length c0_0], .agg #[.slice A1_0 l1_0.length c1_0]] w fun e w' => e = .returned (.bool r) ∧ Below w.heap.size w w' := by
  have hu31 := Try.underlying31
  have HR0_0 := Aside0.mk hr0_0
  have HC0_0 := Aside0.mk hc0_0
  clear hr0_0 hc0_0
  have HR1_0 := Aside0.mk hr1_0
  have HC1_0 := Aside0.mk hc1_0
  clear hr1_0 hc1_0
  have HB := Aside0.mk (Below.refl w.heap.size w)
  have H : ((laws_eqByteSS.f k l0_0 l1_0).bind fun t273 => (if t273 = true then (some true) else (some false))) = some r := h
  clear h
  replace H := Option.bind_eq_some_iff.mp H
  obtain ⟨t273, A30, H⟩ := H
  replace H : (if t273 = true then (some true) else (some false)) = some r := H
  have A3 := Aside0.mk A30
  clear A30
  by_cases c4 : t273 = true
  · subst c4
    have H1 : (some true) = some r := by rw [if_pos rfl] at H; exact H
    clear H
    have H := H1
    clear H1
    obtain rfl := Option.some.inj H
    go_enter Try.func21, Try.ntmps21
    go_wp2_with (first | ((with_reducible refine gate_dst (N := 2) rfl ?_); refine box_event ?hg (N := 2) ?hd (cs := #[.slice A0_0 l0_0.length c0_0]) (t := 31) ?hr ?_; (case hd => rfl); (case hg => rfl); (case hr => first | (go_simp; done) | (go_simp; rfl)); intro gb271 hg w5 hbox hb; have n0_ := Aside0.mk (below_step (by repeat (first | (with_reducible first | exact HB.out | apply below_alloc | apply pw_below_drewN | apply below_drew1) | exact HB.out)) hb); have n1_ := Aside0.mk (hbox); have n2_ := Aside0.mk ((by rw [hg]; exact (below_size (by repeat (first | (with_reducible first | exact HB.out | apply below_alloc | apply pw_below_drewN | apply below_drew1) | exact HB.out))) : w.heap.size ≤ gb271)); have n3_ := Aside0.mk ((by rw [hg]; exact (below_size (by repeat (first | (with_reducible first | exact HB.out | apply below_alloc | apply pw_below_drewN | apply below_drew1) | exact HB.out))) : w.heap.size ≤ gb271)); clear HB; have HB := n0_; have BK271 := n1_; have GW271 := n2_; have GE271 := n3_; clear n0_ n1_ n2_ n3_; clear hb hbox hg) | ((with_reducible refine gate_dst (N := 3) rfl ?_); refine box_event ?hg (N := 3) ?hd (cs := #[.slice A1_0 l1_0.length c1_0]) (t := 31) ?hr ?_; (case hd => rfl); (case hg => rfl); (case hr => first | (go_simp; done) | (go_simp; rfl)); intro gb272 hg w6 hbox hb; have n0_ := Aside0.mk (blk_below (g := gb271) (o := .cells #[.slice A0_0 l0_0.length c0_0] 31 (0, 0)) (by (with_reducible repeat (first | refine blk_drewN ?_ _ | refine blk_drew ?_ | refine blk_alloc ?_ _)); exact BK271.out) hb); have n1_ := Aside0.mk (below_step (by repeat (first | (with_reducible first | exact HB.out | apply below_alloc | apply pw_below_drewN | apply below_drew1 | refine below_set ?_ GE271.out) | exact HB.out)) hb); have n2_ := Aside0.mk (hbox); have n3_ := Aside0.mk ((by rw [hg]; exact (below_size (by repeat (first | (with_reducible first | exact HB.out | apply below_alloc | apply pw_below_drewN | apply below_drew1 | refine below_set ?_ GE271.out) | exact HB.out))) : w.heap.size ≤ gb272)); have n4_ := Aside0.mk ((by rw [hg]; exact (below_size (by repeat (first | (with_reducible first | exact HB.out | apply below_alloc | apply pw_below_drewN | apply below_drew1 | refine below_set ?_ GE271.out) | exact HB.out))) : w.heap.size ≤ gb272)); have n5_ := Aside0.mk ((by rw [hg]; exact Nat.ne_of_lt (blk_lt (g := gb271) (o := .cells #[.slice A0_0 l0_0.length c0_0] 31 (0, 0)) (by (with_reducible repeat (first | refine blk_drewN ?_ _ | refine blk_drew ?_ | refine blk_alloc ?_ _)); exact BK271.out)) : gb271 ≠ gb272)); have n6_ := Aside0.mk ((by rw [hg]; exact Nat.ne_of_gt (blk_lt (g := gb271) (o := .cells #[.slice A0_0 l0_0.length c0_0] 31 (0, 0)) (by (with_reducible repeat (first | refine blk_drewN ?_ _ | refine blk_drew ?_ | refine blk_alloc ?_ _)); exact BK271.out)) : gb272 ≠ gb271)); clear BK271; clear HB; have BK271 := n0_; have HB := n1_; have BK272 := n2_; have GW272 := n3_; have GE272 := n4_; have NB271_272 := n5_; have NB272_271 := n6_; clear n0_ n1_ n2_ n3_ n4_ n5_ n6_; clear hb hbox hg; have hnb7 := NB271_272.out; have hnc7 := NB272_271.out; have hcz8_0 : w6.cell? ⟨gb271, 0, none⟩ = some (.slice A0_0 l0_0.length c0_0) := (blk_cell BK271.out 0).trans rfl; have hfz8_0 := blk_frozen BK271.out 0; have hcz9_0 : w6.cell? ⟨gb272, 0, none⟩ = some (.slice A1_0 l1_0.length c1_0) := (blk_cell BK272.out 0).trans rfl; have hfz9_0 := blk_frozen BK272.out 0) | ((with_reducible refine gate_callee (f := 59) rfl ?_); refine goesL_ (some 9) rfl rfl Try.func59 (by kernel_rfl) rfl #[.slice A0_0 l0_0.length c0_0, .slice A1_0 l1_0.length c1_0] rfl (by (try simp only [List.map_toArray, List.map_cons, List.map_nil]); first | done | rfl | (simp only [List.length_drop, List.length_take]; rfl)) ?_; (with_reducible refine (laws_eqByteSS.calls k _ _ l0_0 _ _ l1_0 true _ ?side1 ?side2 ?side3 ?side4 A3.out).mono ?_); (case side1 => repeat (first | exact (Kd.C_below HR0_0.out HB.out) | (with_reducible refine Kd.C_alloc ?_ _) | (with_reducible refine Kd.C_drewN ?_ _) | (with_reducible refine Kd.C_drew ?_))); (case side2 => exact HC0_0.out); (case side3 => repeat (first | exact (Kd.C_below HR1_0.out HB.out) | (with_reducible refine Kd.C_alloc ?_ _) | (with_reducible refine Kd.C_drewN ?_ _) | (with_reducible refine Kd.C_drew ?_))); (case side4 => exact HC1_0.out); rintro e w' ⟨rfl, ⟨nd, rfl⟩⟩; refine ⟨_, rfl, ?_⟩))
    go_ret
    exact ⟨by first | rfl | (simp [errW_none, errW_some] <;> rfl) | (simp [*, errW_none, errW_some] <;> rfl), by repeat (first | (with_reducible first | exact HB.out | apply below_alloc | apply pw_below_drewN | apply below_drew1 | refine below_set ?_ GE271.out | refine below_set ?_ GE272.out) | exact HB.out)⟩
  · replace c4 := Bool.eq_false_iff.mpr c4
    subst c4
    have H1 : (some false) = some r := by rw [if_neg (show ¬ (false = true) by decide)] at H; exact H
    clear H
    have H := H1
    clear H1
    obtain rfl := Option.some.inj H
    go_enter Try.func21, Try.ntmps21
    go_wp2_with (first | ((with_reducible refine gate_dst (N := 2) rfl ?_); refine box_event ?hg (N := 2) ?hd (cs := #[.slice A0_0 l0_0.length c0_0]) (t := 31) ?hr ?_; (case hd => rfl); (case hg => rfl); (case hr => first | (go_simp; done) | (go_simp; rfl)); intro gb271 hg w10 hbox hb; have n0_ := Aside0.mk (below_step (by repeat (first | (with_reducible first | exact HB.out | apply below_alloc | apply pw_below_drewN | apply below_drew1) | exact HB.out)) hb); have n1_ := Aside0.mk (hbox); have n2_ := Aside0.mk ((by rw [hg]; exact (below_size (by repeat (first | (with_reducible first | exact HB.out | apply below_alloc | apply pw_below_drewN | apply below_drew1) | exact HB.out))) : w.heap.size ≤ gb271)); have n3_ := Aside0.mk ((by rw [hg]; exact (below_size (by repeat (first | (with_reducible first | exact HB.out | apply below_alloc | apply pw_below_drewN | apply below_drew1) | exact HB.out))) : w.heap.size ≤ gb271)); clear HB; have HB := n0_; have BK271 := n1_; have GW271 := n2_; have GE271 := n3_; clear n0_ n1_ n2_ n3_; clear hb hbox hg) | ((with_reducible refine gate_dst (N := 3) rfl ?_); refine box_event ?hg (N := 3) ?hd (cs := #[.slice A1_0 l1_0.length c1_0]) (t := 31) ?hr ?_; (case hd => rfl); (case hg => rfl); (case hr => first | (go_simp; done) | (go_simp; rfl)); intro gb272 hg w11 hbox hb; have n0_ := Aside0.mk (blk_below (g := gb271) (o := .cells #[.slice A0_0 l0_0.length c0_0] 31 (0, 0)) (by (with_reducible repeat (first | refine blk_drewN ?_ _ | refine blk_drew ?_ | refine blk_alloc ?_ _)); exact BK271.out) hb); have n1_ := Aside0.mk (below_step (by repeat (first | (with_reducible first | exact HB.out | apply below_alloc | apply pw_below_drewN | apply below_drew1 | refine below_set ?_ GE271.out) | exact HB.out)) hb); have n2_ := Aside0.mk (hbox); have n3_ := Aside0.mk ((by rw [hg]; exact (below_size (by repeat (first | (with_reducible first | exact HB.out | apply below_alloc | apply pw_below_drewN | apply below_drew1 | refine below_set ?_ GE271.out) | exact HB.out))) : w.heap.size ≤ gb272)); have n4_ := Aside0.mk ((by rw [hg]; exact (below_size (by repeat (first | (with_reducible first | exact HB.out | apply below_alloc | apply pw_below_drewN | apply below_drew1 | refine below_set ?_ GE271.out) | exact HB.out))) : w.heap.size ≤ gb272)); have n5_ := Aside0.mk ((by rw [hg]; exact Nat.ne_of_lt (blk_lt (g := gb271) (o := .cells #[.slice A0_0 l0_0.length c0_0] 31 (0, 0)) (by (with_reducible repeat (first | refine blk_drewN ?_ _ | refine blk_drew ?_ | refine blk_alloc ?_ _)); exact BK271.out)) : gb271 ≠ gb272)); have n6_ := Aside0.mk ((by rw [hg]; exact Nat.ne_of_gt (blk_lt (g := gb271) (o := .cells #[.slice A0_0 l0_0.length c0_0] 31 (0, 0)) (by (with_reducible repeat (first | refine blk_drewN ?_ _ | refine blk_drew ?_ | refine blk_alloc ?_ _)); exact BK271.out)) : gb272 ≠ gb271)); clear BK271; clear HB; have BK271 := n0_; have HB := n1_; have BK272 := n2_; have GW272 := n3_; have GE272 := n4_; have NB271_272 := n5_; have NB272_271 := n6_; clear n0_ n1_ n2_ n3_ n4_ n5_ n6_; clear hb hbox hg; have hnb12 := NB271_272.out; have hnc12 := NB272_271.out; have hcz13_0 : w11.cell? ⟨gb271, 0, none⟩ = some (.slice A0_0 l0_0.length c0_0) := (blk_cell BK271.out 0).trans rfl; have hfz13_0 := blk_frozen BK271.out 0; have hcz14_0 : w11.cell? ⟨gb272, 0, none⟩ = some (.slice A1_0 l1_0.length c1_0) := (blk_cell BK272.out 0).trans rfl; have hfz14_0 := blk_frozen BK272.out 0) | ((with_reducible refine gate_callee (f := 59) rfl ?_); refine goesL_ (some 9) rfl rfl Try.func59 (by kernel_rfl) rfl #[.slice A0_0 l0_0.length c0_0, .slice A1_0 l1_0.length c1_0] rfl (by (try simp only [List.map_toArray, List.map_cons, List.map_nil]); first | done | rfl | (simp only [List.length_drop, List.length_take]; rfl)) ?_; (with_reducible refine (laws_eqByteSS.calls k _ _ l0_0 _ _ l1_0 false _ ?side1 ?side2 ?side3 ?side4 A3.out).mono ?_); (case side1 => repeat (first | exact (Kd.C_below HR0_0.out HB.out) | (with_reducible refine Kd.C_alloc ?_ _) | (with_reducible refine Kd.C_drewN ?_ _) | (with_reducible refine Kd.C_drew ?_))); (case side2 => exact HC0_0.out); (case side3 => repeat (first | exact (Kd.C_below HR1_0.out HB.out) | (with_reducible refine Kd.C_alloc ?_ _) | (with_reducible refine Kd.C_drewN ?_ _) | (with_reducible refine Kd.C_drew ?_))); (case side4 => exact HC1_0.out); rintro e w' ⟨rfl, ⟨nd, rfl⟩⟩; refine ⟨_, rfl, ?_⟩))
    go_ret
    exact ⟨by first | rfl | (simp [errW_none, errW_some] <;> rfl) | (simp [*, errW_none, errW_some] <;> rfl), by repeat (first | (with_reducible first | exact HB.out | apply below_alloc | apply pw_below_drewN | apply below_drew1 | refine below_set ?_ GE271.out | refine below_set ?_ GE272.out) | exact HB.out)⟩

end Go.Proofs.Ytaieobidkmihkaa.P


