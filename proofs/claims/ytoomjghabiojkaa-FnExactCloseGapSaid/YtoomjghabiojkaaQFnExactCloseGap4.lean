/- Part 4 of the proof of the law FnExactCloseGap: contracts of the functions that it reaches. -/
import Derived.Test.YtoomjghabiojkaaQFnExactCloseGap3
namespace Go.Proofs.Ytoomjghabiojkaa.P
open Go.RowKit Go.Proofs.YtoomjghabiojkaaW.PrintWords Go.Proofs.YtoomjghabiojkaaW.PrintLast Go.Proofs.YtoomjghabiojkaaW.PrintMore
attribute [local go_sem] max2_int min2_int max_two min_two max_three min_three max_four min_four   -- for this text's walks alone
set_option linter.unusedVariables false
set_option linter.unusedSimpArgs false

def laws_heldGap.f (k : Nat) (l0_0 : List (List Int)) (a0_1 : Int) (a0_2 : Int) (a0_3 : Int) (a0_4 : Int) (a0_5 : Int) (a0_6 : Int) (a1 : Int) : Option (Int) := (laws_heldMemory.f k l0_0 a1).bind fun t591 => (if t591 < 0 then (some (-1)) else (some t591))
set_option maxHeartbeats 8000000 in
set_option maxRecDepth 100000 in
theorem laws_heldGap.calls (k : Nat) (A0_0 : Option Addr) (c0_0 : Nat) (l0_0 : List (List Int)) (a0_1 : Int) (a0_2 : Int) (a0_3 : Int) (a0_4 : Int) (a0_5 : Int) (a0_6 : Int) (a1 : Int) (r : Int) (w : World) (hr0_0 : Kd.C (Kd.slice 5 (Kd.int .u8)) w A0_0 l0_0.length l0_0) (hc0_0 : l0_0.length ≤ c0_0) (h : laws_heldGap.f k l0_0 a0_1 a0_2 a0_3 a0_4 a0_5 a0_6 a1 = some r) :
    Calls Try.prog 45 #[.agg #[.slice A0_0 l0_0.length c0_0, .int .i64 a0_1, .int .i64 a0_2, .int .i64 a0_3, .int .i64 a0_4, .int .i64 a0_5, .int .i64 a0_6], .int .i64 a1] w fun e w' => e = .returned (.int .i64 r) ∧ Below w.heap.size w w' := by
  have hu69 := Try.underlying69
  have hu26 := Try.underlying26
  have HR0_0 := Aside0.mk hr0_0
  have HC0_0 := Aside0.mk hc0_0
  clear hr0_0 hc0_0
  have HB := Aside0.mk (Below.refl w.heap.size w)
  have H : ((laws_heldMemory.f k l0_0 a1).bind fun t591 => (if t591 < 0 then (some (-1)) else (some t591))) = some r := h
  clear h
  replace H := Option.bind_eq_some_iff.mp H
  obtain ⟨t591, A30, H⟩ := H
  replace H : (if t591 < 0 then (some (-1)) else (some t591)) = some r := H
  have A3 := Aside0.mk A30
  clear A30
  by_cases c4 : t591 < 0
  · rw [if_pos c4] at H
    have c4b0 : decide (t591 < 0) = true := decide_eq_true c4
    clear c4
    obtain rfl := Option.some.inj H
    go_enter Try.func45, Try.ntmps45
    go_wp2_with (first | ((with_reducible refine gate_dst (N := 2) rfl ?_); refine box_event ?hg (N := 2) ?hd (cs := #[.slice A0_0 l0_0.length c0_0, .int .i64 a0_1, .int .i64 a0_2, .int .i64 a0_3, .int .i64 a0_4, .int .i64 a0_5, .int .i64 a0_6]) (t := 69) ?hr ?_; (case hd => rfl); (case hg => rfl); (case hr => first | (go_simp; done) | (go_simp; rfl)); intro gb590 hg w5 hbox hb; have n0_ := Aside0.mk (below_step (by repeat (first | (with_reducible first | exact HB.out | apply below_alloc | apply pw_below_drewN | apply below_drew1) | exact HB.out)) hb); have n1_ := Aside0.mk (hbox); have n2_ := Aside0.mk ((by rw [hg]; exact (below_size (by repeat (first | (with_reducible first | exact HB.out | apply below_alloc | apply pw_below_drewN | apply below_drew1) | exact HB.out))) : w.heap.size ≤ gb590)); have n3_ := Aside0.mk ((by rw [hg]; exact (below_size (by repeat (first | (with_reducible first | exact HB.out | apply below_alloc | apply pw_below_drewN | apply below_drew1) | exact HB.out))) : w.heap.size ≤ gb590)); clear HB; have HB := n0_; have BK590 := n1_; have GW590 := n2_; have GE590 := n3_; clear n0_ n1_ n2_ n3_; clear hb hbox hg; have hcz6_0 : w5.cell? ⟨gb590, 0, none⟩ = some (.slice A0_0 l0_0.length c0_0) := (blk_cell BK590.out 0).trans rfl; have hcz6_1 : w5.cell? ⟨gb590, 1, none⟩ = some (.int .i64 a0_1) := (blk_cell BK590.out 1).trans rfl; have hcz6_2 : w5.cell? ⟨gb590, 2, none⟩ = some (.int .i64 a0_2) := (blk_cell BK590.out 2).trans rfl; have hcz6_3 : w5.cell? ⟨gb590, 3, none⟩ = some (.int .i64 a0_3) := (blk_cell BK590.out 3).trans rfl; have hcz6_4 : w5.cell? ⟨gb590, 4, none⟩ = some (.int .i64 a0_4) := (blk_cell BK590.out 4).trans rfl; have hcz6_5 : w5.cell? ⟨gb590, 5, none⟩ = some (.int .i64 a0_5) := (blk_cell BK590.out 5).trans rfl; have hcz6_6 : w5.cell? ⟨gb590, 6, none⟩ = some (.int .i64 a0_6) := (blk_cell BK590.out 6).trans rfl; have hfz6_0 := blk_frozen BK590.out 0; have hfz6_1 := blk_frozen BK590.out 1; have hfz6_2 := blk_frozen BK590.out 2; have hfz6_3 := blk_frozen BK590.out 3; have hfz6_4 := blk_frozen BK590.out 4; have hfz6_5 := blk_frozen BK590.out 5; have hfz6_6 := blk_frozen BK590.out 6) | ((with_reducible refine gate_callee (f := 69) rfl ?_); refine goesL_ (some 8) rfl rfl Try.func69 (by kernel_rfl) rfl #[.agg #[.slice A0_0 l0_0.length c0_0], .int .i64 a1] rfl (by (try simp only [List.map_toArray, List.map_cons, List.map_nil]); first | done | rfl | (simp only [List.length_drop, List.length_take]; rfl)) ?_; (with_reducible refine (laws_heldMemory.calls k _ _ l0_0 a1 t591 _ ?side1 ?side2 A3.out).mono ?_); (case side1 => repeat (first | exact (Kd.C_below HR0_0.out HB.out) | (with_reducible refine Kd.C_alloc ?_ _) | (with_reducible refine Kd.C_drewN ?_ _) | (with_reducible refine Kd.C_drew ?_))); (case side2 => exact HC0_0.out); rintro e w7 ⟨rfl, hb⟩; refine ⟨_, rfl, ?_⟩; have n0_ := Aside0.mk (blk_below (g := gb590) (o := .cells #[.slice A0_0 l0_0.length c0_0, .int .i64 a0_1, .int .i64 a0_2, .int .i64 a0_3, .int .i64 a0_4, .int .i64 a0_5, .int .i64 a0_6] 69 (0, 0)) (by (with_reducible repeat (first | refine blk_drewN ?_ _ | refine blk_drew ?_ | refine blk_alloc ?_ _)); exact BK590.out) hb); have n1_ := Aside0.mk (below_step (by repeat (first | (with_reducible first | exact HB.out | apply below_alloc | apply pw_below_drewN | apply below_drew1 | refine below_set ?_ GE590.out) | exact HB.out)) hb); clear BK590; clear HB; have BK590 := n0_; have HB := n1_; clear n0_ n1_; (try clear hb); (try clear hb2); (try clear hk); (try clear hi)))
    go_ret
    exact ⟨by first | rfl | (simp [errW_none, errW_some] <;> rfl) | (simp [*, errW_none, errW_some] <;> rfl), by repeat (first | (with_reducible first | exact HB.out | apply below_alloc | apply pw_below_drewN | apply below_drew1 | refine below_set ?_ GE590.out) | exact HB.out)⟩
  · rw [if_neg c4] at H
    have c4b0 : decide (t591 < 0) = false := decide_eq_false c4
    clear c4
    obtain rfl := Option.some.inj H
    go_enter Try.func45, Try.ntmps45
    go_wp2_with (first | ((with_reducible refine gate_dst (N := 2) rfl ?_); refine box_event ?hg (N := 2) ?hd (cs := #[.slice A0_0 l0_0.length c0_0, .int .i64 a0_1, .int .i64 a0_2, .int .i64 a0_3, .int .i64 a0_4, .int .i64 a0_5, .int .i64 a0_6]) (t := 69) ?hr ?_; (case hd => rfl); (case hg => rfl); (case hr => first | (go_simp; done) | (go_simp; rfl)); intro gb590 hg w8 hbox hb; have n0_ := Aside0.mk (below_step (by repeat (first | (with_reducible first | exact HB.out | apply below_alloc | apply pw_below_drewN | apply below_drew1) | exact HB.out)) hb); have n1_ := Aside0.mk (hbox); have n2_ := Aside0.mk ((by rw [hg]; exact (below_size (by repeat (first | (with_reducible first | exact HB.out | apply below_alloc | apply pw_below_drewN | apply below_drew1) | exact HB.out))) : w.heap.size ≤ gb590)); have n3_ := Aside0.mk ((by rw [hg]; exact (below_size (by repeat (first | (with_reducible first | exact HB.out | apply below_alloc | apply pw_below_drewN | apply below_drew1) | exact HB.out))) : w.heap.size ≤ gb590)); clear HB; have HB := n0_; have BK590 := n1_; have GW590 := n2_; have GE590 := n3_; clear n0_ n1_ n2_ n3_; clear hb hbox hg; have hcz9_0 : w8.cell? ⟨gb590, 0, none⟩ = some (.slice A0_0 l0_0.length c0_0) := (blk_cell BK590.out 0).trans rfl; have hcz9_1 : w8.cell? ⟨gb590, 1, none⟩ = some (.int .i64 a0_1) := (blk_cell BK590.out 1).trans rfl; have hcz9_2 : w8.cell? ⟨gb590, 2, none⟩ = some (.int .i64 a0_2) := (blk_cell BK590.out 2).trans rfl; have hcz9_3 : w8.cell? ⟨gb590, 3, none⟩ = some (.int .i64 a0_3) := (blk_cell BK590.out 3).trans rfl; have hcz9_4 : w8.cell? ⟨gb590, 4, none⟩ = some (.int .i64 a0_4) := (blk_cell BK590.out 4).trans rfl; have hcz9_5 : w8.cell? ⟨gb590, 5, none⟩ = some (.int .i64 a0_5) := (blk_cell BK590.out 5).trans rfl; have hcz9_6 : w8.cell? ⟨gb590, 6, none⟩ = some (.int .i64 a0_6) := (blk_cell BK590.out 6).trans rfl; have hfz9_0 := blk_frozen BK590.out 0; have hfz9_1 := blk_frozen BK590.out 1; have hfz9_2 := blk_frozen BK590.out 2; have hfz9_3 := blk_frozen BK590.out 3; have hfz9_4 := blk_frozen BK590.out 4; have hfz9_5 := blk_frozen BK590.out 5; have hfz9_6 := blk_frozen BK590.out 6) | ((with_reducible refine gate_callee (f := 69) rfl ?_); refine goesL_ (some 8) rfl rfl Try.func69 (by kernel_rfl) rfl #[.agg #[.slice A0_0 l0_0.length c0_0], .int .i64 a1] rfl (by (try simp only [List.map_toArray, List.map_cons, List.map_nil]); first | done | rfl | (simp only [List.length_drop, List.length_take]; rfl)) ?_; (with_reducible refine (laws_heldMemory.calls k _ _ l0_0 a1 t591 _ ?side1 ?side2 A3.out).mono ?_); (case side1 => repeat (first | exact (Kd.C_below HR0_0.out HB.out) | (with_reducible refine Kd.C_alloc ?_ _) | (with_reducible refine Kd.C_drewN ?_ _) | (with_reducible refine Kd.C_drew ?_))); (case side2 => exact HC0_0.out); rintro e w10 ⟨rfl, hb⟩; refine ⟨_, rfl, ?_⟩; have n0_ := Aside0.mk (blk_below (g := gb590) (o := .cells #[.slice A0_0 l0_0.length c0_0, .int .i64 a0_1, .int .i64 a0_2, .int .i64 a0_3, .int .i64 a0_4, .int .i64 a0_5, .int .i64 a0_6] 69 (0, 0)) (by (with_reducible repeat (first | refine blk_drewN ?_ _ | refine blk_drew ?_ | refine blk_alloc ?_ _)); exact BK590.out) hb); have n1_ := Aside0.mk (below_step (by repeat (first | (with_reducible first | exact HB.out | apply below_alloc | apply pw_below_drewN | apply below_drew1 | refine below_set ?_ GE590.out) | exact HB.out)) hb); clear BK590; clear HB; have BK590 := n0_; have HB := n1_; clear n0_ n1_; (try clear hb); (try clear hb2); (try clear hk); (try clear hi)))
    go_ret
    exact ⟨by first | rfl | (simp [errW_none, errW_some] <;> rfl) | (simp [*, errW_none, errW_some] <;> rfl), by repeat (first | (with_reducible first | exact HB.out | apply below_alloc | apply pw_below_drewN | apply below_drew1 | refine below_set ?_ GE590.out) | exact HB.out)⟩

end Go.Proofs.Ytoomjghabiojkaa.P


/- Gaps: what is valid, and what the laws ask of them. -/
namespace Go.Proofs.Ytoomjghabiojkaa.P
open Go.RowKit Go.Proofs.YtoomjghabiojkaaW.PrintWords
set_option linter.unusedVariables false
def gapB (m : List (List Int)) (a s n c f t : Int) : Bool := (memB m && winB m a s n c) && (decide (0 ≤ t ∧ t ≤ n) && decide (0 ≤ f ∧ f ≤ t))
theorem isGap_f (m : List (List Int)) (a s n c f t : Int) : impl_IsGap.f m a s n c f t = some (gapB m a s n c f t) := by
  have h1 : impl_areOn.f m [(⟨a, s, n, c⟩ : SimplWindow)] = some (memB m && winB m a s n c) := by simp [impl_areOn.f, winW]
  unfold impl_IsGap.f gapB
  rw [h1, Option.bind_some, within_f, within_f]
  generalize (memB m && winB m a s n c) = x
  cases x
  · rfl
  · rw [if_pos rfl, Option.bind_some]
    by_cases h2 : 0 ≤ t ∧ t ≤ n
    · rw [decide_eq_true h2]; rfl
    · rw [decide_eq_false h2]; rfl
theorem l6Gap_f (m : List (List Int)) (a s n c f t : Int) (h : okM m) (hs : -9223372036854775808 ≤ s ∧ s ≤ 9223372036854775807) : Ev (fun k => spec_l6Gap.f k m a s n c f t) (gapB m a s n c f t) := by
  refine Ev.bind (l2Window_f m a s n c h.len h.rows hs) ?_
  unfold gapB
  rw [l1In_f, l1In_f]
  generalize (memB m && winB m a s n c) = x
  cases x
  · exact Ev.now _
  · rw [if_pos rfl, Option.bind_some]
    by_cases h2 : 0 ≤ t ∧ t ≤ n
    · rw [decide_eq_true h2]; exact Ev.now _
    · rw [decide_eq_false h2]; exact Ev.now _
theorem gapOwn_f (m : List (List Int)) (a s n c f t : Int) (h : okM m) : Ev (fun k => impl_Gap_own.f k m a s n c f t) (m, a, s, n, c, f, t) := Ev.bind (own_f m h) (Ev.now _)
theorem toGap_f (m : List (List Int)) (a s n c f t : Int) (h : okM m) : laws_toGap.f m a s n c f t = some (m, a, s, n, c, f, t) := by
  unfold laws_toGap.f
  rw [toMemory_f m h]
  rfl
theorem szGap_f (m : List (List Int)) (b c d e f g : Int) (a : Int) (h0 : 0 ≤ a) (h1 : a ≤ 1048576) (hl : m.length ≤ 9223372036854775807) (h3 : ∀ x ∈ m, x.length ≤ 9223372036854775807) :
    ∃ r, Ev (fun k => laws_szGap.f k m b c d e f g a) r ∧ (okM m ∧ 0 ≤ r ∧ r ≤ a ∨ r = -1) := by
  obtain ⟨r, hr, hh⟩ := szMemory_f m a h0 h1 hl h3
  rcases hh with ⟨h4, h5, h6⟩ | rfl
  · refine ⟨r, Ev.bind hr ?_, .inl ⟨h4, h5, h6⟩⟩
    rw [if_neg (by omega)]
    exact Ev.now _
  · refine ⟨-1, Ev.bind hr ?_, .inr rfl⟩
    rw [if_pos (by omega)]
    exact Ev.now _
theorem eqGap_g (m : List (List Int)) (a b c d e g : Int) (h : okM m) : Ev (fun k => laws_eqGap.f k m a b c d e g m a b c d e g) true := by
  refine Ev.bind (eqM m h) ?_
  simp only [if_true, eqWindow_same, Option.bind_some]
  exact Ev.now _
theorem heldGap_g (m : List (List Int)) (a b c d e g : Int) (h : okM m) : Ev (fun k => laws_heldGap.f k (marksBB 1 m) a b c d e g 1) ((1 : Int) + (sizeBB m : Int)) := by
  refine Ev.bind (heldMemory_f m h) ?_
  rw [if_neg (by omega)]
  exact Ev.now _
end Go.Proofs.Ytoomjghabiojkaa.P


/- A row of a memory laid open: what a window sees of it is read and written in place. -/
namespace Go.Proofs.YtoomjghabiojkaaW.Mine
open Go.RowKit Go.Proofs.YtoomjghabiojkaaW.PrintWords
set_option linter.unusedVariables false
set_option linter.unusedSimpArgs false
def RowO (e2 e base lo hi : Nat) (A : Option Addr) (n c : Nat) (m : List (List Int)) (i g cap : Nat) (row : List Int) (w : World) : Prop :=
  ∃ (g0 : Nat) (cur : Array Value), A = some ⟨g0, 0, none⟩ ∧ g ≠ g0 ∧ (lo ≤ g0 ∧ g0 < hi) ∧ w.cell? ⟨g0, i, none⟩ = some (.slice (some ⟨g, 0, none⟩) row.length cap) ∧ RowAt e2 e base lo hi n c g0 m i g cap cur row w
def rowO (e2 e : Nat) (W : World) (lo hi : Nat) (A : Option Addr) (n c : Nat) (m : List (List Int)) (i g cap : Nat) (row : List Int) : Th := ⟨lo, hi, RowO e2 e W.heap.size lo hi A n c m i g cap row⟩
section
variable {e2 e lo hi n c i g cap : Nat} {A : Option Addr} {m : List (List Int)} {row : List Int} {W w w1 : World} {ts : List Th}
theorem cell_of_heap {w w' : World} {a : Addr} (h : w'.heap[a.block]? = w.heap[a.block]?) : w'.cell? a = w.cell? a := by
  unfold World.cell?
  rw [h]
theorem RowO.agree {base : Nat} (h : RowO e2 e base lo hi A n c m i g cap row w) (ha : Agree lo hi w w1) : RowO e2 e base lo hi A n c m i g cap row w1 := by
  obtain ⟨g0, cur, h1, h2, h3, h4, h5⟩ := h
  exact ⟨g0, cur, h1, h2, h3, by rw [cell_of_heap (ha g0 h3.1 h3.2)]; exact h4, h5.agree ha⟩
theorem RowO.kd {base : Nat} (h : RowO e2 e base lo hi A n c m i g cap row w) : Kd.S (Kd.slice e2 (Kd.int .u8)) e w base (fun k => lo ≤ k ∧ k < hi) (.slice A n c) (m.set i row) := by
  obtain ⟨g0, cur, h1, _, _, _, h5⟩ := h
  subst h1
  exact h5.close
theorem RowO.wrote {row' : List Int} (q : Nat) (hst : Stk W ts w) (hq : ts[q]? = some (rowO e2 e W lo hi A n c m i g cap row)) (hl : row'.length = row.length) (hb : Below g w w1) (hs : w.heap.size ≤ w1.heap.size) (hk : ∀ k, k < w.heap.size → k ≠ g → w1.heap[k]? = w.heap[k]?)
    (hg : ∀ cur : Array Value, w.heap[g]? = some (.cells cur e2 (0, 0)) → row.length ≤ cur.size → cur.toList.take row.length = row.map (fun x => Value.int .u8 x) → ∃ cur' : Array Value, w1.heap[g]? = some (.cells cur' e2 (0, 0)) ∧ cur'.size = cur.size ∧ cur'.toList.take row.length = row'.map (fun x => Value.int .u8 x)) :
    Wrote (rowO e2 e W lo hi A n c m i g cap row) (rowO e2 e W lo hi A n c m i g cap row') w w1 := by
  have h : RowO e2 e W.heap.size lo hi A n c m i g cap row w := hst.get q hq
  have hhi : hi ≤ w.heap.size := (hst.all _ (List.mem_of_getElem? hq)).2.2.1
  obtain ⟨g0, cur, h1, h2, h3, h4, h5⟩ := h
  have h6 := h5
  obtain ⟨hlo, hh, hle, hmax, hsz, htk, hback⟩ := h6
  obtain ⟨cur', hh', hs', ht'⟩ := hg cur hh (by omega) htk
  refine ⟨hb.mono hlo.1, hs, fun k hkl hn => hk k hkl (fun e_ => hn (by subst e_; exact hlo)), rfl, rfl, fun w'' ha => ?_⟩
  have hg0 : w1.heap[g0]? = w.heap[g0]? := hk g0 (World.block_lt_of_cell? w ⟨g0, i, none⟩ h4) (Ne.symm h2)
  have hR : RowAt e2 e W.heap.size lo hi n c g0 m i g cap cur' row' w1 := by
    refine ⟨hlo, hh', by omega, hmax, by omega, by rw [hl]; exact ht', fun w2 cur2 row2 hk2 hh2 hs2 hl2 ht2 => hback w2 cur2 row2 (fun k hlk hhk hn => ?_) hh2 hs2 (by omega) (by rw [← hl]; exact ht2)⟩
    rw [hk2 k hlk hhk hn]
    exact hk k (Nat.lt_of_lt_of_le hhk hhi) hn
  exact RowO.agree ⟨g0, cur', h1, h2, h3, by rw [cell_of_heap hg0, hl]; exact h4, hR⟩ ha
end
end Go.Proofs.YtoomjghabiojkaaW.Mine
namespace Go.Proofs.Ytoomjghabiojkaa.P
open Go.RowKit Go.Proofs.YtoomjghabiojkaaW.PrintWords Go.Proofs.YtoomjghabiojkaaW.Mine Go.Sort
set_option linter.unusedVariables false
set_option linter.unusedSimpArgs false
section
variable {e2 e lo hi n c i g cap : Nat} {A : Option Addr} {m : List (List Int)} {row : List Int} {W w w1 : World} {ts : List Th}
def Al (X : Option Addr) (g off n : Nat) : Prop := n = 0 ∨ X = some ⟨g, off, none⟩
theorem al_seen (s k : Int) (h0 : 0 ≤ s) (h1 : s + k ≤ (row.length : Int)) (hc : row.length ≤ cap) : Al (seenA g s cap) g s.toNat k.toNat := by
  unfold Al seenA
  by_cases h : cap = s.toNat
  · exact .inl (by omega)
  · exact .inr (if_neg h)
end
end Go.Proofs.Ytoomjghabiojkaa.P


/- Cuts of what a window sees; a call that changes a row of its caller's. -/
namespace Go.Proofs.YtoomjghabiojkaaW.Mine
open Go.RowKit Go.Proofs.YtoomjghabiojkaaW.PrintWords
set_option linter.unusedVariables false
set_option linter.unusedSimpArgs false
section
variable {W w w' : World} {ts ts' : List Th} {lo hi : Nat} {P1 P2 : World → Prop}
end
end Go.Proofs.YtoomjghabiojkaaW.Mine
namespace Go.Proofs.Ytoomjghabiojkaa.P
open Go.RowKit Go.Proofs.YtoomjghabiojkaaW.PrintWords Go.Proofs.YtoomjghabiojkaaW.Mine
set_option linter.unusedVariables false
set_option linter.unusedSimpArgs false
def cutA (X : Option Addr) (l C : Nat) : Option Addr := if C = l then X else X.map (·.add l)
theorem Al.cut {X : Option Addr} {g off n C : Nat} (h : Al X g off n) (l k : Nat) (hC : n ≤ C) (hl : l + k ≤ n) : Al (cutA X l C) g (off + l) k := by
  unfold Al at *
  rcases h with h | h
  · exact .inl (by omega)
  · by_cases hk : k = 0
    · exact .inl hk
    · refine .inr ?_
      unfold cutA
      rw [if_neg (by omega), h]
      by_cases hl0 : l = 0 <;> simp [Addr.add, hl0]
section
variable {P : Program} {o : Oper} {a : Act} {w : World} {T : TypeId} {x y z : Operand} {X : Option Addr} {n C : Nat} {k k2 : IntKind} {l h : Int}
theorem run_cut_l (hT : P.underlying T = some (.slice (P.elem T))) (hs : (sizeOf (P.elem T)).run P w = .ok 1 w) (hop : o.op = .slice T x (some y) none none) (hx : a.eval x = .slice X n C) (hy : a.eval y = .int k l) (h0 : 0 ≤ l) (h1 : l ≤ n) :
    (execOp a.eval o).run P w = .ok (.value (.slice (cutA X l.toNat C) (n - l.toNat) (C - l.toNat))) w := by
  unfold execOp
  rw [hop]
  simp [hx, hy, run_sliceAt_slice w T _ _ _ _ hT, run_slice_l w T X n C hT k l h0 h1, Result.andThen, hs, sliced, cutA]
theorem run_cut_lh (hT : P.underlying T = some (.slice (P.elem T))) (hs : (sizeOf (P.elem T)).run P w = .ok 1 w) (hop : o.op = .slice T x (some y) (some z) none) (hx : a.eval x = .slice X n C) (hy : a.eval y = .int k l) (hz : a.eval z = .int k2 h) (h0 : 0 ≤ l) (h1 : l ≤ h) (h2 : h ≤ C) :
    (execOp a.eval o).run P w = .ok (.value (.slice (cutA X l.toNat C) (h.toNat - l.toNat) (C - l.toNat))) w := by
  unfold execOp
  rw [hop]
  simp [hx, hy, hz, run_sliceAt_slice w T _ _ _ _ hT, run_slice_lh w T X n C hT k k2 l h h0 h1 h2, Result.andThen, hs, sliced, cutA]
end
section
variable {ops : Array Oper} {evs : List EvT} {W : World} {base : List Th} {mods : List Md} {aF : (Nat → Lt) → Act} {X : Option Addr} {n C : Nat} {x y z : Operand} {k k2 : IntKind} {l h : Int}
theorem slB : Try.prog.underlying 119 = some (.slice (Try.prog.elem 119)) := by kernel_rfl
set_option maxRecDepth 100000 in
theorem szB (w : World) : (sizeOf (Try.prog.elem 119)).run Try.prog w = .ok 1 w := by
  have : Try.prog.elem 119 = 5 := by kernel_rfl
  rw [this]
  rfl
theorem cl_ {i : Nat} {d : Tmp} {o : Oper} (ho : ops.toList[i]? = some o) (h0 : 0 ≤ l) (h1 : l ≤ n) (hop : o.op = .slice 119 x (some y) none none := by rfl) (hx : ∀ s, (aF s).eval x = .slice X n C := by intro s; rfl) (hy : ∀ s, (aF s).eval y = .int k l := by intro s; rfl) (hw : ∀ s, Region.wanted o (yielded ops (aF s).tmps) = true := by intro s; rfl) :
    Sh Try.prog ops W base mods aF evs (evP i d [] (fun s => .slice (cutA X l.toNat C) (n - l.toNat) (C - l.toNat))) := pu ho (fun _ => rfl) hw (fun s w => run_cut_l slB (szB w) hop (hx s) (hy s) h0 h1)
theorem clh {i : Nat} {d : Tmp} {o : Oper} (ho : ops.toList[i]? = some o) (h0 : 0 ≤ l) (h1 : l ≤ h) (h2 : h ≤ C) (hop : o.op = .slice 119 x (some y) (some z) none := by rfl) (hx : ∀ s, (aF s).eval x = .slice X n C := by intro s; rfl) (hy : ∀ s, (aF s).eval y = .int k l := by intro s; rfl) (hz : ∀ s, (aF s).eval z = .int k2 h := by intro s; rfl) (hw : ∀ s, Region.wanted o (yielded ops (aF s).tmps) = true := by intro s; rfl) :
    Sh Try.prog ops W base mods aF evs (evP i d [] (fun s => .slice (cutA X l.toNat C) (h.toNat - l.toNat) (C - l.toNat))) := pu ho (fun _ => rfl) hw (fun s w => run_cut_lh slB (szB w) hop (hx s) (hy s) (hz s) h0 h1 h2)
end
end Go.Proofs.Ytoomjghabiojkaa.P


namespace Go.Proofs.Ytoomjghabiojkaa.P
open Go.RowKit Go.Proofs.YtoomjghabiojkaaW.PrintWords Go.Proofs.YtoomjghabiojkaaW.PrintLast Go.Proofs.YtoomjghabiojkaaW.PrintMore
attribute [local go_sem] max2_int min2_int max_two min_two max_three min_three max_four min_four   -- for this text's walks alone
set_option linter.unusedVariables false
set_option linter.unusedSimpArgs false

def spec_l2Write.l0 : Nat → Int → List Int → Int → Int → Int → Int → Int → List (List Int) → Option ((List (List Int)))
  | 0, _, _, _, _, _, _, _, _ => none
  | k + 1, x2, x3, x10, x507000, x507001, x507002, x507003, x512000 => if x10 < (x3.length : Int) then (if 0 ≤ x507000 then (if x507000 < (x512000.length : Int) then (if 0 ≤ x10 then (if 0 ≤ (wrap64 ((wrap64 (x507001 + x2)) + x10)) then (if (wrap64 ((wrap64 (x507001 + x2)) + x10)) < ((rd_Lsu8 x512000 x507000).length : Int) then (spec_l2Write.l0 k x2 x3 (wrap64 (x10 + 1)) x507000 x507001 x507002 x507003 (x512000.set (x507000 : Int).toNat ((rd_Lsu8 x512000 x507000).set ((wrap64 ((wrap64 (x507001 + x2)) + x10)) : Int).toNat (rd x3 x10)))) else (none)) else (none)) else (none)) else (none)) else (none)) else (some x512000)
def spec_l2Write.f (k : Nat) (l0_0 : List (List Int)) (a1_0 : Int) (a1_1 : Int) (a1_2 : Int) (a1_3 : Int) (a2 : Int) (l3 : List Int) : Option ((List (List Int))) := (spec_l2Own.f k l0_0).bind fun t508 => (spec_l2Write.l0 k a2 l3 0 a1_0 a1_1 a1_2 a1_3 t508)
def spec_l2Write.T5 : Bool × List (List Nat × List Nat) := (true, [([], []), ([0], [0]), ([], []), ([2], [2]), ([1, 3], [1, 3]), ([4], [4]), ([], []), ([6], [6]), ([], []), ([7, 8], [7, 8]), ([], []), ([9, 10], [9, 10]), ([], []), ([], []), ([12, 13], [12, 13]), ([14], [14]), ([5, 11, 0, 1, 2, 3, 4, 5, 6, 7, 8, 9, 10, 11, 12, 13, 14, 15], [5, 11]), ([16, 15, 0, 1, 2, 3, 4, 5, 6, 7, 8, 9, 10, 11, 12, 13, 14, 15], [15, 16])])
def spec_l2Write.B5 : List Nat := [0, 1, 0, 4, 15, 31, 0, 64, 0, 448, 0, 1984, 0, 0, 12288, 28672, 65535, 131071]
theorem spec_l2Write.tab5 : rtab .any (opsOf Try.f143 5) = spec_l2Write.T5 := by kernel_rfl
theorem spec_l2Write.bits5 : waitsOk spec_l2Write.T5.2 spec_l2Write.B5 = true := by kernel_rfl
set_option maxHeartbeats 8000000 in
set_option maxRecDepth 100000 in
theorem spec_l2Write.calls (k : Nat) (A0_0 : Option Addr) (c0_0 : Nat) (l0_0 : List (List Int)) (a1_0 : Int) (a1_1 : Int) (a1_2 : Int) (a1_3 : Int) (a2 : Int) (A3 : Option Addr) (c3 : Nat) (l3 : List Int) (r : List (List Int)) (w : World) (hr0_0 : Kd.C (Kd.slice 5 (Kd.int .u8)) w A0_0 l0_0.length l0_0) (hc0_0 : l0_0.length ≤ c0_0) (hr3 : Kd.C (Kd.int .u8) w A3 l3.length l3) (hc3 : l3.length ≤ c3) (h : spec_l2Write.f k l0_0 a1_0 a1_1 a1_2 a1_3 a2 l3 = some r) :
    Calls Try.prog 143 #[.agg #[.slice A0_0 l0_0.length c0_0], .agg #[.int .i64 a1_0, .int .i64 a1_1, .int .i64 a1_2, .int .i64 a1_3], .int .i64 a2, .slice A3 l3.length c3] w fun e w' => ∃ v0_ : Value, e = .returned (.agg #[v0_]) ∧ Kd.S (Kd.slice 5 (Kd.int .u8)) 119 w' w.heap.size (fun _ => True) v0_ r ∧ Below w.heap.size w w' := by
  have hu26 := Try.underlying26
  have hu48 := Try.underlying48
  have HR0_0 := Aside0.mk hr0_0
  have HC0_0 := Aside0.mk hc0_0
  clear hr0_0 hc0_0
  have HR3 := Aside0.mk hr3
  have HC3 := Aside0.mk hc3
  clear hr3 hc3
  have HB := Aside0.mk (Below.refl w.heap.size w)
  have H : ((spec_l2Own.f k l0_0).bind fun t508 => (spec_l2Write.l0 k a2 l3 0 a1_0 a1_1 a1_2 a1_3 t508)) = some r := h
  clear h
  replace H := Option.bind_eq_some_iff.mp H
  obtain ⟨t508, A50, H⟩ := H
  replace H : (spec_l2Write.l0 k a2 l3 0 a1_0 a1_1 a1_2 a1_3 t508) = some r := H
  have A5 := Aside0.mk A50
  clear A50
  have H' := Aside0.mk H
  clear H
  go_enter Try.func143, Try.ntmps143
  go_wp2_with (first | ((with_reducible refine gate_dst (N := 4) rfl ?_); refine box_event ?hg (N := 4) ?hd (cs := #[.slice A0_0 l0_0.length c0_0]) (t := 26) ?hr ?_; (case hd => rfl); (case hg => rfl); (case hr => first | (go_simp; done) | (go_simp; rfl)); intro gb505 hg w6 hbox hb; have n0_ := Aside0.mk (below_step (by repeat (first | (with_reducible first | exact HB.out | apply below_alloc | apply pw_below_drewN | apply below_drew1) | exact HB.out)) hb); have n1_ := Aside0.mk (hbox); have n2_ := Aside0.mk ((by rw [hg]; exact (below_size (by repeat (first | (with_reducible first | exact HB.out | apply below_alloc | apply pw_below_drewN | apply below_drew1) | exact HB.out))) : w.heap.size ≤ gb505)); have n3_ := Aside0.mk ((by rw [hg]; exact (below_size (by repeat (first | (with_reducible first | exact HB.out | apply below_alloc | apply pw_below_drewN | apply below_drew1) | exact HB.out))) : w.heap.size ≤ gb505)); clear HB; have HB := n0_; have BK505 := n1_; have GW505 := n2_; have GE505 := n3_; clear n0_ n1_ n2_ n3_; clear hb hbox hg) | ((with_reducible refine gate_dst (N := 5) rfl ?_); refine box_event ?hg (N := 5) ?hd (cs := #[.int .i64 a1_0, .int .i64 a1_1, .int .i64 a1_2, .int .i64 a1_3]) (t := 48) ?hr ?_; (case hd => rfl); (case hg => rfl); (case hr => first | (go_simp; done) | (go_simp; rfl)); intro gb506 hg w7 hbox hb; have n0_ := Aside0.mk (blk_below (g := gb505) (o := .cells #[.slice A0_0 l0_0.length c0_0] 26 (0, 0)) (by (with_reducible repeat (first | refine blk_drewN ?_ _ | refine blk_drew ?_ | refine blk_alloc ?_ _)); exact BK505.out) hb); have n1_ := Aside0.mk (below_step (by repeat (first | (with_reducible first | exact HB.out | apply below_alloc | apply pw_below_drewN | apply below_drew1 | refine below_set ?_ GE505.out) | exact HB.out)) hb); have n2_ := Aside0.mk (hbox); have n3_ := Aside0.mk ((by rw [hg]; exact (below_size (by repeat (first | (with_reducible first | exact HB.out | apply below_alloc | apply pw_below_drewN | apply below_drew1 | refine below_set ?_ GE505.out) | exact HB.out))) : w.heap.size ≤ gb506)); have n4_ := Aside0.mk ((by rw [hg]; exact (below_size (by repeat (first | (with_reducible first | exact HB.out | apply below_alloc | apply pw_below_drewN | apply below_drew1 | refine below_set ?_ GE505.out) | exact HB.out))) : w.heap.size ≤ gb506)); have n5_ := Aside0.mk ((by rw [hg]; exact Nat.ne_of_lt (blk_lt (g := gb505) (o := .cells #[.slice A0_0 l0_0.length c0_0] 26 (0, 0)) (by (with_reducible repeat (first | refine blk_drewN ?_ _ | refine blk_drew ?_ | refine blk_alloc ?_ _)); exact BK505.out)) : gb505 ≠ gb506)); have n6_ := Aside0.mk ((by rw [hg]; exact Nat.ne_of_gt (blk_lt (g := gb505) (o := .cells #[.slice A0_0 l0_0.length c0_0] 26 (0, 0)) (by (with_reducible repeat (first | refine blk_drewN ?_ _ | refine blk_drew ?_ | refine blk_alloc ?_ _)); exact BK505.out)) : gb506 ≠ gb505)); clear BK505; clear HB; have BK505 := n0_; have HB := n1_; have BK506 := n2_; have GW506 := n3_; have GE506 := n4_; have NB505_506 := n5_; have NB506_505 := n6_; clear n0_ n1_ n2_ n3_ n4_ n5_ n6_; clear hb hbox hg) | ((with_reducible refine gate_dst (N := 8) rfl ?_); refine box_event ?hg (N := 8) ?hd (cs := #[.slice none 0 0]) (t := 26) ?hr ?_; (case hd => rfl); (case hg => rfl); (case hr => first | (go_simp; done) | (go_simp; rfl)); intro gb507 hg w8 hbox hb; have n0_ := Aside0.mk (blk_below (g := gb505) (o := .cells #[.slice A0_0 l0_0.length c0_0] 26 (0, 0)) (by (with_reducible repeat (first | refine blk_drewN ?_ _ | refine blk_drew ?_ | refine blk_alloc ?_ _)); exact BK505.out) hb); have n1_ := Aside0.mk (blk_below (g := gb506) (o := .cells #[.int .i64 a1_0, .int .i64 a1_1, .int .i64 a1_2, .int .i64 a1_3] 48 (0, 0)) (by (with_reducible repeat (first | refine blk_drewN ?_ _ | refine blk_drew ?_ | refine blk_alloc ?_ _)); exact BK506.out) hb); have n2_ := Aside0.mk (below_step (by repeat (first | (with_reducible first | exact HB.out | apply below_alloc | apply pw_below_drewN | apply below_drew1 | refine below_set ?_ GE505.out | refine below_set ?_ GE506.out) | exact HB.out)) hb); have n3_ := Aside0.mk (hbox); have n4_ := Aside0.mk ((by rw [hg]; exact (below_size (by repeat (first | (with_reducible first | exact HB.out | apply below_alloc | apply pw_below_drewN | apply below_drew1 | refine below_set ?_ GE505.out | refine below_set ?_ GE506.out) | exact HB.out))) : w.heap.size ≤ gb507)); have n5_ := Aside0.mk ((by rw [hg]; exact (below_size (by repeat (first | (with_reducible first | exact HB.out | apply below_alloc | apply pw_below_drewN | apply below_drew1 | refine below_set ?_ GE505.out | refine below_set ?_ GE506.out) | exact HB.out))) : w.heap.size ≤ gb507)); have n6_ := Aside0.mk ((by rw [hg]; exact Nat.ne_of_lt (blk_lt (g := gb505) (o := .cells #[.slice A0_0 l0_0.length c0_0] 26 (0, 0)) (by (with_reducible repeat (first | refine blk_drewN ?_ _ | refine blk_drew ?_ | refine blk_alloc ?_ _)); exact BK505.out)) : gb505 ≠ gb507)); have n7_ := Aside0.mk ((by rw [hg]; exact Nat.ne_of_gt (blk_lt (g := gb505) (o := .cells #[.slice A0_0 l0_0.length c0_0] 26 (0, 0)) (by (with_reducible repeat (first | refine blk_drewN ?_ _ | refine blk_drew ?_ | refine blk_alloc ?_ _)); exact BK505.out)) : gb507 ≠ gb505)); have n8_ := Aside0.mk ((by rw [hg]; exact Nat.ne_of_lt (blk_lt (g := gb506) (o := .cells #[.int .i64 a1_0, .int .i64 a1_1, .int .i64 a1_2, .int .i64 a1_3] 48 (0, 0)) (by (with_reducible repeat (first | refine blk_drewN ?_ _ | refine blk_drew ?_ | refine blk_alloc ?_ _)); exact BK506.out)) : gb506 ≠ gb507)); have n9_ := Aside0.mk ((by rw [hg]; exact Nat.ne_of_gt (blk_lt (g := gb506) (o := .cells #[.int .i64 a1_0, .int .i64 a1_1, .int .i64 a1_2, .int .i64 a1_3] 48 (0, 0)) (by (with_reducible repeat (first | refine blk_drewN ?_ _ | refine blk_drew ?_ | refine blk_alloc ?_ _)); exact BK506.out)) : gb507 ≠ gb506)); clear BK505; clear BK506; clear HB; have BK505 := n0_; have BK506 := n1_; have HB := n2_; have BK507 := n3_; have GW507 := n4_; have GE507 := n5_; have NB505_507 := n6_; have NB507_505 := n7_; have NB506_507 := n8_; have NB507_506 := n9_; clear n0_ n1_ n2_ n3_ n4_ n5_ n6_ n7_ n8_ n9_; clear hb hbox hg; have hnb9 := NB505_506.out; have hnc9 := NB506_505.out; have hnb10 := NB505_507.out; have hnc10 := NB507_505.out; have hcz11_0 : w8.cell? ⟨gb505, 0, none⟩ = some (.slice A0_0 l0_0.length c0_0) := (blk_cell BK505.out 0).trans rfl; have hfz11_0 := blk_frozen BK505.out 0) | ((with_reducible refine gate_callee (f := 89) rfl ?_); refine goesL_ (some 12) rfl rfl Try.func89 (by kernel_rfl) rfl #[.agg #[.slice A0_0 l0_0.length c0_0]] rfl (by (try simp only [List.map_toArray, List.map_cons, List.map_nil]); first | done | rfl | (simp only [List.length_drop, List.length_take]; rfl)) ?_; (with_reducible refine (spec_l2Own.calls k _ _ l0_0 t508 _ ?side1 ?side2 A5.out).mono ?_); (case side1 => repeat (first | exact (Kd.C_below HR0_0.out HB.out) | (with_reducible refine Kd.C_alloc ?_ _) | (with_reducible refine Kd.C_drewN ?_ _) | (with_reducible refine Kd.C_drew ?_))); (case side2 => exact HC0_0.out); rintro e w12 ⟨v509, rfl, ho0, hb⟩; refine ⟨_, rfl, ?_⟩; have n0_ := Aside0.mk (Kd.S_lower ho0 (below_size (by repeat (first | (with_reducible first | exact HB.out | apply below_alloc | apply pw_below_drewN | apply below_drew1 | refine below_set ?_ GE505.out | refine below_set ?_ GE506.out | refine below_set ?_ GE507.out) | exact HB.out)))); have n1_ := Aside0.mk (blk_below (g := gb505) (o := .cells #[.slice A0_0 l0_0.length c0_0] 26 (0, 0)) (by (with_reducible repeat (first | refine blk_drewN ?_ _ | refine blk_drew ?_ | refine blk_alloc ?_ _)); exact BK505.out) hb); have n2_ := Aside0.mk (blk_below (g := gb506) (o := .cells #[.int .i64 a1_0, .int .i64 a1_1, .int .i64 a1_2, .int .i64 a1_3] 48 (0, 0)) (by (with_reducible repeat (first | refine blk_drewN ?_ _ | refine blk_drew ?_ | refine blk_alloc ?_ _)); exact BK506.out) hb); have n3_ := Aside0.mk (blk_below (g := gb507) (o := .cells #[.slice none 0 0] 26 (0, 0)) (by (with_reducible repeat (first | refine blk_drewN ?_ _ | refine blk_drew ?_ | refine blk_alloc ?_ _)); exact BK507.out) hb); have n4_ := Aside0.mk (below_step (by repeat (first | (with_reducible first | exact HB.out | apply below_alloc | apply pw_below_drewN | apply below_drew1 | refine below_set ?_ GE505.out | refine below_set ?_ GE506.out | refine below_set ?_ GE507.out) | exact HB.out)) hb); clear BK505; clear BK506; clear BK507; clear HB; have HO510 := n0_; have BK505 := n1_; have BK506 := n2_; have BK507 := n3_; have HB := n4_; clear n0_ n1_ n2_ n3_ n4_; (try clear hb); (try clear hb2); (try clear hk); (try clear hi); (try clear ho0)) | ((with_reducible refine gate_dst (N := 9) rfl ?_); refine box_event ?hg (N := 9) ?hd (cs := #[.slice none 0 0]) (t := 26) ?hr ?_; (case hd => rfl); (case hg => rfl); (case hr => first | (go_simp; done) | (go_simp; rfl)); intro gb511 hg w13 hbox hb; have n0_ := Aside0.mk (Kd.S_below (by (with_reducible repeat (first | apply Kd.S_alloc | apply Kd.S_drewN | apply Kd.S_drew)); exact HO510.out) hb); have n1_ := Aside0.mk (blk_below (g := gb505) (o := .cells #[.slice A0_0 l0_0.length c0_0] 26 (0, 0)) (by (with_reducible repeat (first | refine blk_drewN ?_ _ | refine blk_drew ?_ | refine blk_alloc ?_ _)); exact BK505.out) hb); have n2_ := Aside0.mk (blk_below (g := gb506) (o := .cells #[.int .i64 a1_0, .int .i64 a1_1, .int .i64 a1_2, .int .i64 a1_3] 48 (0, 0)) (by (with_reducible repeat (first | refine blk_drewN ?_ _ | refine blk_drew ?_ | refine blk_alloc ?_ _)); exact BK506.out) hb); have n3_ := Aside0.mk (blk_below (g := gb507) (o := .cells #[.slice none 0 0] 26 (0, 0)) (by (with_reducible repeat (first | refine blk_drewN ?_ _ | refine blk_drew ?_ | refine blk_alloc ?_ _)); exact BK507.out) hb); have n4_ := Aside0.mk (below_step (by repeat (first | (with_reducible first | exact HB.out | apply below_alloc | apply pw_below_drewN | apply below_drew1 | refine below_set ?_ GE505.out | refine below_set ?_ GE506.out | refine below_set ?_ GE507.out) | exact HB.out)) hb); have n5_ := Aside0.mk (hbox); have n6_ := Aside0.mk ((by rw [hg]; exact (below_size (by repeat (first | (with_reducible first | exact HB.out | apply below_alloc | apply pw_below_drewN | apply below_drew1 | refine below_set ?_ GE505.out | refine below_set ?_ GE506.out | refine below_set ?_ GE507.out) | exact HB.out))) : w.heap.size ≤ gb511)); have n7_ := Aside0.mk ((by rw [hg]; exact (below_size (by repeat (first | (with_reducible first | exact HB.out | apply below_alloc | apply pw_below_drewN | apply below_drew1 | refine below_set ?_ GE505.out | refine below_set ?_ GE506.out | refine below_set ?_ GE507.out) | exact HB.out))) : w.heap.size ≤ gb511)); have n8_ := Aside0.mk ((by rw [hg]; exact Nat.ne_of_lt (blk_lt (g := gb505) (o := .cells #[.slice A0_0 l0_0.length c0_0] 26 (0, 0)) (by (with_reducible repeat (first | refine blk_drewN ?_ _ | refine blk_drew ?_ | refine blk_alloc ?_ _)); exact BK505.out)) : gb505 ≠ gb511)); have n9_ := Aside0.mk ((by rw [hg]; exact Nat.ne_of_gt (blk_lt (g := gb505) (o := .cells #[.slice A0_0 l0_0.length c0_0] 26 (0, 0)) (by (with_reducible repeat (first | refine blk_drewN ?_ _ | refine blk_drew ?_ | refine blk_alloc ?_ _)); exact BK505.out)) : gb511 ≠ gb505)); have n10_ := Aside0.mk ((by rw [hg]; exact Nat.ne_of_lt (blk_lt (g := gb506) (o := .cells #[.int .i64 a1_0, .int .i64 a1_1, .int .i64 a1_2, .int .i64 a1_3] 48 (0, 0)) (by (with_reducible repeat (first | refine blk_drewN ?_ _ | refine blk_drew ?_ | refine blk_alloc ?_ _)); exact BK506.out)) : gb506 ≠ gb511)); have n11_ := Aside0.mk ((by rw [hg]; exact Nat.ne_of_gt (blk_lt (g := gb506) (o := .cells #[.int .i64 a1_0, .int .i64 a1_1, .int .i64 a1_2, .int .i64 a1_3] 48 (0, 0)) (by (with_reducible repeat (first | refine blk_drewN ?_ _ | refine blk_drew ?_ | refine blk_alloc ?_ _)); exact BK506.out)) : gb511 ≠ gb506)); have n12_ := Aside0.mk ((by rw [hg]; exact Nat.ne_of_lt (blk_lt (g := gb507) (o := .cells #[.slice none 0 0] 26 (0, 0)) (by (with_reducible repeat (first | refine blk_drewN ?_ _ | refine blk_drew ?_ | refine blk_alloc ?_ _)); exact BK507.out)) : gb507 ≠ gb511)); have n13_ := Aside0.mk ((by rw [hg]; exact Nat.ne_of_gt (blk_lt (g := gb507) (o := .cells #[.slice none 0 0] 26 (0, 0)) (by (with_reducible repeat (first | refine blk_drewN ?_ _ | refine blk_drew ?_ | refine blk_alloc ?_ _)); exact BK507.out)) : gb511 ≠ gb507)); clear HO510; clear BK505; clear BK506; clear BK507; clear HB; have HO510 := n0_; have BK505 := n1_; have BK506 := n2_; have BK507 := n3_; have HB := n4_; have BK511 := n5_; have GW511 := n6_; have GE511 := n7_; have NB505_511 := n8_; have NB511_505 := n9_; have NB506_511 := n10_; have NB511_506 := n11_; have NB507_511 := n12_; have NB511_507 := n13_; clear n0_ n1_ n2_ n3_ n4_ n5_ n6_ n7_ n8_ n9_ n10_ n11_ n12_ n13_; clear hb hbox hg; obtain ⟨Ao14, co14, eo14⟩ := Kd.S_slice HO510.out; subst eo14; have hnb15 := NB511_505.out; have hnc15 := NB505_511.out; have hnb16 := NB511_506.out; have hnc16 := NB506_511.out; have hnb17 := NB511_507.out; have hnc17 := NB507_511.out; have hcz18_0 : w13.cell? ⟨gb511, 0, none⟩ = some (.slice none 0 0) := (blk_cell BK511.out 0).trans rfl; have hfz18_0 := blk_frozen BK511.out 0))
  go_loopg [10] k (fun kq v10 w' => ∃ (x10_1 : Int) (x512000_1 : List (List Int)) (u512000 : Value), v10 = .int .i64 x10_1 ∧ Aside0 (spec_l2Write.l0 kq a2 l3 x10_1 a1_0 a1_1 a1_2 a1_3 x512000_1 = some r) ∧ Aside0 (kq ≤ k) ∧ Aside0 (Kd.S (Kd.slice 5 (Kd.int .u8)) 119 w' w.heap.size (fun _ => True) u512000 x512000_1) ∧ Aside0 (w'.heap[gb505]? = some (.cells #[(.slice A0_0 l0_0.length c0_0)] 26 (0, 0))) ∧ Aside0 (w'.heap[gb506]? = some (.cells #[.int .i64 a1_0, .int .i64 a1_1, .int .i64 a1_2, .int .i64 a1_3] 48 (0, 0))) ∧ Aside0 (w'.heap[gb507]? = some (.cells #[(.slice none 0 0)] 26 (0, 0))) ∧ Aside0 (w'.heap[gb511]? = some (.cells #[u512000] 26 (0, 0))) ∧ Aside0 (Below w.heap.size w w'))
  case atStart => exact ⟨(0), (t508), (.slice Ao14 t508.length co14), (by first | rfl | (simp; done) | (simp [*]; done)), H', ⟨Nat.le_refl _⟩, ⟨by (with_reducible repeat (first | apply Kd.S_alloc | apply Kd.S_drewN | apply Kd.S_drew)); exact Kd.S_mono (Kd.S_far (p := ⟨gb511, 0, none⟩) (Kd.S_types HO510.out BK511.out (by decide)) (fun _ hk => hk.2) (.slice Ao14 t508.length co14)) (fun _ hk => trivial)⟩, ⟨by (with_reducible repeat (first | refine blk_drewN ?_ _ | refine blk_drew ?_ | refine blk_alloc ?_ _)); refine blk_far ?_ NB505_511.out _; (with_reducible repeat (first | refine blk_drewN ?_ _ | refine blk_drew ?_ | refine blk_alloc ?_ _)); exact BK505.out⟩, ⟨by (with_reducible repeat (first | refine blk_drewN ?_ _ | refine blk_drew ?_ | refine blk_alloc ?_ _)); refine blk_far ?_ NB506_511.out _; (with_reducible repeat (first | refine blk_drewN ?_ _ | refine blk_drew ?_ | refine blk_alloc ?_ _)); exact BK506.out⟩, ⟨by (with_reducible repeat (first | refine blk_drewN ?_ _ | refine blk_drew ?_ | refine blk_alloc ?_ _)); refine blk_far ?_ NB507_511.out _; (with_reducible repeat (first | refine blk_drewN ?_ _ | refine blk_drew ?_ | refine blk_alloc ?_ _)); exact BK507.out⟩, ⟨by (with_reducible repeat (first | refine blk_drewN ?_ _ | refine blk_drew ?_ | refine blk_alloc ?_ _)); refine blk_put (cs := #[.slice none 0 0]) ?_ 0 _ rfl; (with_reducible repeat (first | refine blk_drewN ?_ _ | refine blk_drew ?_ | refine blk_alloc ?_ _)); exact BK511.out⟩, ⟨by repeat (first | (with_reducible first | exact HB.out | apply below_alloc | apply pw_below_drewN | apply below_drew1 | refine below_set ?_ GE505.out | refine below_set ?_ GE506.out | refine below_set ?_ GE507.out | refine below_set ?_ GE511.out) | exact HB.out)⟩⟩
  case round =>
    clear H'
    try clear c1
    try clear p2
    try clear c3
    try clear c8
    try clear c9
    try clear c10
    try clear c14
    try clear c15
    try clear c16
    try clear c17
    try clear hcz11_0
    try clear hcz18_0
    try clear hfz11_0
    try clear hfz18_0
    obtain ⟨x10_1, x512000_1, u512000, rfl, HA, HK1, HO_512000, BK505, BK506, BK507, BK511, HB⟩ := hrel
    cases gk with
    | zero => exact absurd HA.out (by simp [spec_l2Write.l0])
    | succ k1 =>
      have H := HA.out
      clear HA
      simp only [spec_l2Write.l0] at H
      by_cases c19 : x10_1 < (l3.length : Int)
      · rw [if_pos c19] at H
        have c19b0 : decide (x10_1 < (l3.length : Int)) = true := decide_eq_true c19
        clear c19
        by_cases c20 : 0 ≤ a1_0
        · rw [if_pos c20] at H
          have c20b0 : decide (0 ≤ a1_0) = true := decide_eq_true c20
          clear c20
          by_cases c21 : a1_0 < (x512000_1.length : Int)
          · rw [if_pos c21] at H
            have c21b0 : decide (a1_0 < (x512000_1.length : Int)) = true := decide_eq_true c21
            clear c21
            by_cases c22 : 0 ≤ x10_1
            · rw [if_pos c22] at H
              have c22b0 : decide (0 ≤ x10_1) = true := decide_eq_true c22
              clear c22
              obtain ⟨ji23, hji23⟩ : ∃ j_ : Int, (wrap64 ((wrap64 (a1_1 + a2)) + x10_1)) = j_ := ⟨_, rfl⟩
              replace H : (if 0 ≤ (ji23) then (if (ji23) < ((rd_Lsu8 x512000_1 a1_0).length : Int) then (spec_l2Write.l0 k1 a2 l3 (wrap64 (x10_1 + 1)) a1_0 a1_1 a1_2 a1_3 (x512000_1.set (a1_0 : Int).toNat ((rd_Lsu8 x512000_1 a1_0).set ((ji23) : Int).toNat (rd l3 x10_1)))) else (none)) else (none)) = some r := by first | (rw [hji23] at H; exact H) | (simp only [hji23] at H ⊢; exact H)
              have hji23w : (IntKind.i64.wrap ((wrap64 (a1_1 + a2)) + x10_1)) = ji23 := (i64_w _).trans hji23
              by_cases c24 : 0 ≤ (ji23)
              · rw [if_pos c24] at H
                have c24b0 : decide (0 ≤ (ji23)) = true := decide_eq_true c24
                clear c24
                by_cases c25 : (ji23) < ((rd_Lsu8 x512000_1 a1_0).length : Int)
                · rw [if_pos c25] at H
                  have c25b0 : decide ((ji23) < ((rd_Lsu8 x512000_1 a1_0).length : Int)) = true := decide_eq_true c25
                  clear c25
                  obtain ⟨y514, hy514⟩ : ∃ y_ : List Int, y_ = ((rd_Lsu8 x512000_1 a1_0).set ((ji23) : Int).toNat (rd l3 x10_1)) := ⟨_, rfl⟩
                  replace H : (spec_l2Write.l0 k1 a2 l3 (wrap64 (x10_1 + 1)) a1_0 a1_1 a1_2 a1_3 (x512000_1.set (a1_0 : Int).toNat y514)) = some r := by first | (rw [hy514]; with_reducible exact H) | (have H2_ := (Option.bind_some _ _).symm.trans H; rw [hy514]; with_reducible exact H2_) | (have H2_ := (Option.bind_some _ _).symm.trans H; with_reducible exact H2_) | with_reducible exact H | (rw [hy514]; exact H) | exact H
                  have Ny514 := Aside0.mk hy514
                  clear hy514
                  obtain ⟨y516, hy516⟩ : ∃ y_ : List (List Int), y_ = (x512000_1.set (a1_0 : Int).toNat y514) := ⟨_, rfl⟩
                  replace H : (spec_l2Write.l0 k1 a2 l3 (wrap64 (x10_1 + 1)) a1_0 a1_1 a1_2 a1_3 y516) = some r := by first | (rw [hy516]; with_reducible exact H) | (have H2_ := (Option.bind_some _ _).symm.trans H; rw [hy516]; with_reducible exact H2_) | (have H2_ := (Option.bind_some _ _).symm.trans H; with_reducible exact H2_) | with_reducible exact H | (rw [hy516]; exact H) | exact H
                  have Ny516 := Aside0.mk hy516
                  clear hy516
                  have H' := Aside0.mk H
                  clear H
                  try go_wp2
                  have n0_ := Aside0.mk (Kd.S_drew HO_512000.out)
                  have n1_ := Aside0.mk (blk_drew BK505.out)
                  have n2_ := Aside0.mk (blk_drew BK506.out)
                  have n3_ := Aside0.mk (blk_drew BK507.out)
                  have n4_ := Aside0.mk (blk_drew BK511.out)
                  have n5_ := Aside0.mk (below_drew1 HB.out)
                  clear HO_512000
                  clear BK505
                  clear BK506
                  clear BK507
                  clear BK511
                  clear HB
                  have HO_512000 := n0_
                  have BK505 := n1_
                  have BK506 := n2_
                  have BK507 := n3_
                  have BK511 := n4_
                  have HB := n5_
                  clear n0_ n1_ n2_ n3_ n4_ n5_
                  obtain ⟨Ao28, co28, eo28⟩ := Kd.S_slice HO_512000.out
                  (first | subst eo28 | (injection eo28 with f1_ f2_ f3_; have f4_ := f1_.symm; have f5_ := f3_.symm; clear f1_ f2_ f3_; subst f4_; subst f5_))
                  have p512 : 0 ≤ (a1_0 : Int) := of_decide_eq_true (by first | (with_reducible assumption) | assumption)
                  have q512 : a1_0 < (x512000_1.length : Int) := of_decide_eq_true (by first | (with_reducible assumption) | assumption)
                  obtain ⟨ad512, A512_0, c512_0, e512, hx512_0, hl512_0, hi512_0⟩ := at_Lsu8 (Kd.S_reads' HO_512000.out).2.2 a1_0 p512 q512
                  cases e512
                  obtain ⟨ce512, hce512, hMe512, hcc512⟩ := Kd.S_get HO_512000.out [] a1_0 p512 (by first | exact q512 | exact of_decide_eq_true (by first | (with_reducible assumption) | assumption) | (have e_ := (Kd.S_reads' HO_512000.out).1; omega))
                  obtain ⟨ve512_0, rfl, ge512_0⟩ := hMe512
                  have hv512_0 := hcc512 0 _ rfl
                  rw [Nat.add_zero, show ((Kd.slice 5 (Kd.int .u8))).sz = 1 from rfl, Nat.mul_one] at hv512_0
                  replace hv512_0 := Option.some.inj (hv512_0.symm.trans hx512_0)
                  rw [hv512_0] at ge512_0
                  have HL512_0 := Aside0.mk (show Kd.R (Kd.int .u8) 5 _ _ _ _ (rd_Lsu8 x512000_1 a1_0) from ge512_0)
                  clear hv512_0 ge512_0
                  have HX512_0 := Aside0.mk hx512_0
                  clear hcc512 hce512
                  have HR512_0 := Aside0.mk hi512_0
                  have HC512_0 := Aside0.mk hl512_0
                  clear hi512_0 hl512_0
                  replace p512 := eq_true p512
                  replace q512 := eq_true q512
                  have p513 : 0 ≤ (x10_1 : Int) := of_decide_eq_true (by first | (with_reducible assumption) | assumption)
                  have q513 : x10_1 < (l3.length : Int) := of_decide_eq_true (by first | (with_reducible assumption) | assumption)
                  obtain ⟨ad513, e513, hx513_0⟩ := Kd.at_int HR3.out x10_1 p513 q513
                  have hw513_0 := hx513_0
                  cases e513
                  replace hx513_0 := (HB.out.cell (World.block_lt_of_cell? w _ hx513_0)).trans hx513_0
                  replace p513 := eq_true p513
                  replace q513 := eq_true q513
                  have p26 : 0 ≤ ((ji23) : Int) := of_decide_eq_true (by first | (with_reducible assumption) | assumption)
                  have q26 : ((ji23) : Int) < (((rd_Lsu8 x512000_1 a1_0).length : Int) : Int) := of_decide_eq_true (by first | (with_reducible assumption) | assumption)
                  obtain ⟨go26, co26, eo26, gb26, gl26, cl26, HG26⟩ := Kd.R_form HL512_0.out (by omega)
                  (first | cases eo26 | (injection eo26 with ea_ en_ ec_; (first | subst ea_ | (injection ea_ with ea_; subst ea_)); subst ec_; clear en_))
                  have GB26 := Aside0.mk gb26
                  have GG26 := Aside0.mk HG26
                  clear gb26 gl26 HG26
                  obtain ⟨hx26_0, hf26_0⟩ := Kd.R_celln 0 HL512_0.out ((ji23) : Int) p26 q26
                  replace p26 := eq_true p26
                  replace q26 := eq_true q26
                  have hq29 : (a1_0 : Int) < (x512000_1.length : Int) := (by have h_ : (a1_0 : Int) < ((x512000_1.length : Int) : Int) := of_decide_eq_true (by first | (with_reducible assumption) | assumption); first | exact h_ | (have e_ := (Kd.S_reads' HO_512000.out).1; omega) | simpa only [List.length_set, List.length_set] using h_)
                  obtain ⟨oki29, ce29, hcl29, hM29, hcc29, hok29, hbk29⟩ := Kd.S_borrow HO_512000.out [] (a1_0 : Int) (of_decide_eq_true (by first | (with_reducible assumption) | assumption)) hq29
                  obtain ⟨ve29_0, rfl, ge29_0⟩ := hM29
                  have hv29 := hcc29 0 _ rfl
                  rw [Nat.add_zero, show ((Kd.slice 5 (Kd.int .u8))).sz = 1 from rfl, Nat.mul_one] at hv29
                  replace hv29 := Option.some.inj (hv29.symm.trans HX512_0.out)
                  subst hv29
                  clear hcc29 hcl29
                  replace ge29_0 := (show Kd.R (Kd.int .u8) 5 _ _ _ _ (rd_Lsu8 x512000_1 a1_0) from ge29_0)
                  have HP29 := Kd.R_putg ge29_0 ((ji23) : Int) (rd l3 x10_1)
                  rw [← Ny514.out] at HP29
                  have HS29 := hbk29 HP29.2 (fun k_ e_ => by injection e_ with e_; subst e_; exact ge29_0.1 _ rfl) (x' := y514) (Kd.M_row HP29.1)
                  rw [← Ny516.out] at HS29
                  have HQ29 := Aside0.mk HS29
                  clear HP29 HS29 hbk29 hok29
                  refine start_ (n := 18) (S := fun w' => w'.cell? ⟨gb511, 0, none⟩ = some (.slice (some ad512) x512000_1.length co28) ∧ w'.cell? ⟨gb506, 0, none⟩ = some (.int .i64 a1_0) ∧ w'.cell? ⟨gb506, 1, none⟩ = some (.int .i64 a1_1) ∧ w'.cell? ⟨gb506, 2, none⟩ = some (.int .i64 a1_2) ∧ w'.cell? ⟨gb506, 3, none⟩ = some (.int .i64 a1_3) ∧ w'.cell? (ad512.add (a1_0).toNat) = some (.slice (some ⟨go26, 0, none⟩) (rd_Lsu8 x512000_1 a1_0).length c512_0) ∧ w'.cell? (ad513.add (x10_1).toNat) = some (.int .u8 (rd l3 x10_1))) (ds := [17]) #[false, false, false, false, false, false, false, false, false, false, false, false, false, false, false, false, false, false] (by kernel_rfl) rfl rfl ⟨(blk_cell BK511.out 0).trans rfl, (blk_cell BK506.out 0).trans rfl, (blk_cell BK506.out 1).trans rfl, (blk_cell BK506.out 2).trans rfl, (blk_cell BK506.out 3).trans rfl, hx512_0, (by have h_ := ((HB.out.cell (World.block_lt_of_cell? w _ hw513_0)).trans hw513_0); first | exact h_ | (simp only [*] at h_; exact h_) | (simp [*]; done) | simpa [*] using h_)⟩ (fun hHeld => ?_); refine with_tabW spec_l2Write.tab5 spec_l2Write.bits5 (fun HT_ HW_ => ?_)
                  generalize wr.drew = w27 at HO_512000 BK505 BK506 BK507 BK511 HB GG26 HL512_0 HQ29 HR512_0 HX512_0 hf26_0 hx26_0 hx512_0 hx513_0 hHeld ⊢
                  refine pure_ (i := 0) (N := some 19) (v := ?_) (a' := ?_) #[true, false, false, false, false, false, false, false, false, false, false, false, false, false, false, false, false, false] rfl rfl (any_of HT_.out (by kernel_rfl)) (fun _ _ _ h => h) (Or.inl ⟨by rfl, ?_⟩) ?_ ?_
                  rotate_left
                  · intro w'
                    go_simp
                    with_reducible rfl
                  rotate_left
                  · simp only [Act.put, List.setIfInBounds_toArray, List.set_cons_zero, List.set_cons_succ, i64_w, i32_w]
                    rfl
                  refine pure_ (i := 2) (N := some 21) (v := ?_) (a' := ?_) #[true, false, true, false, false, false, false, false, false, false, false, false, false, false, false, false, false, false] rfl rfl (any_of HT_.out (by kernel_rfl)) (fun _ _ _ h => h) (Or.inl ⟨by rfl, ?_⟩) ?_ ?_
                  rotate_left
                  · intro w'
                    go_simp
                    with_reducible rfl
                  rotate_left
                  · simp only [Act.put, List.setIfInBounds_toArray, List.set_cons_zero, List.set_cons_succ, i64_w, i32_w]
                    rfl
                  refine pure_ (i := 6) (N := some 25) (v := ?_) (a' := ?_) #[true, false, true, false, false, false, true, false, false, false, false, false, false, false, false, false, false, false] rfl rfl (any_of HT_.out (by kernel_rfl)) (fun _ _ _ h => h) (Or.inl ⟨by rfl, ?_⟩) ?_ ?_
                  rotate_left
                  · intro w'
                    go_simp
                    with_reducible rfl
                  rotate_left
                  · simp only [Act.put, List.setIfInBounds_toArray, List.set_cons_zero, List.set_cons_succ, i64_w, i32_w]
                    rfl
                  refine pure_ (i := 8) (N := some 27) (v := ?_) (a' := ?_) #[true, false, true, false, false, false, true, false, true, false, false, false, false, false, false, false, false, false] rfl rfl (any_of HT_.out (by kernel_rfl)) (fun _ _ _ h => h) (Or.inl ⟨by rfl, ?_⟩) ?_ ?_
                  rotate_left
                  · intro w'
                    go_simp
                    with_reducible rfl
                  rotate_left
                  · simp only [Act.put, List.setIfInBounds_toArray, List.set_cons_zero, List.set_cons_succ, i64_w, i32_w]
                    rfl
                  refine pure_ (i := 10) (N := some 29) (v := ?_) (a' := ?_) #[true, false, true, false, false, false, true, false, true, false, true, false, false, false, false, false, false, false] rfl rfl (any_of HT_.out (by kernel_rfl)) (fun _ _ _ h => h) (Or.inl ⟨by rfl, ?_⟩) ?_ ?_
                  rotate_left
                  · intro w'
                    go_simp
                    with_reducible rfl
                  rotate_left
                  · simp only [Act.put, List.setIfInBounds_toArray, List.set_cons_zero, List.set_cons_succ, i64_w, i32_w]
                    rfl
                  refine pure_ (i := 12) (N := some 31) (v := ?_) (a' := ?_) #[true, false, true, false, false, false, true, false, true, false, true, false, true, false, false, false, false, false] rfl rfl (any_of HT_.out (by kernel_rfl)) (fun _ _ _ h => h) (Or.inl ⟨by rfl, ?_⟩) ?_ ?_
                  rotate_left
                  · intro w'
                    go_simp
                    with_reducible rfl
                  rotate_left
                  · simp only [Act.put, List.setIfInBounds_toArray, List.set_cons_zero, List.set_cons_succ, i64_w, i32_w]
                    rfl
                  refine pure_ (i := 13) (N := some 32) (v := ?_) (a' := ?_) #[true, false, true, false, false, false, true, false, true, false, true, false, true, true, false, false, false, false] rfl rfl (any_of HT_.out (by kernel_rfl)) (fun _ _ _ h => h) (Or.inl ⟨by rfl, ?_⟩) ?_ ?_
                  rotate_left
                  · intro w'
                    go_simp
                    with_reducible rfl
                  rotate_left
                  · simp only [Act.put, List.setIfInBounds_toArray, List.set_cons_zero, List.set_cons_succ, i64_w, i32_w]
                    rfl
                  refine pure_ (i := 14) (N := some 33) (v := ?_) (a' := ?_) #[true, false, true, false, false, false, true, false, true, false, true, false, true, true, true, false, false, false] rfl rfl (any_of HT_.out (by kernel_rfl)) (fun _ _ _ h => h) (Or.inl ⟨by rfl, ?_⟩) ?_ ?_
                  rotate_left
                  · intro w'
                    go_simp
                    with_reducible rfl
                  rotate_left
                  · simp only [Act.put, List.setIfInBounds_toArray, List.set_cons_zero, List.set_cons_succ, i64_w, i32_w]
                    rfl
                  refine take_ (i := 1) (N := some 20) (v := ?_) (a' := ?_) #[true, true, true, false, false, false, true, false, true, false, true, false, true, true, true, false, false, false] rfl rfl (take_ofW HT_.out HW_.out (by kernel_rfl)) (fun _ _ _ h => h) (Or.inl ⟨by rfl, ?_⟩) hHeld ?_ ?_
                  rotate_left
                  · rintro w' ⟨s0, s1, s2, s3, s4, s5, s6⟩
                    go_simp
                    with_reducible rfl
                  rotate_left
                  · simp only [Act.put, List.setIfInBounds_toArray, List.set_cons_zero, List.set_cons_succ, i64_w, i32_w]
                    rfl
                  refine take_ (i := 3) (N := some 22) (v := ?_) (a' := ?_) #[true, true, true, true, false, false, true, false, true, false, true, false, true, true, true, false, false, false] rfl rfl (take_ofW HT_.out HW_.out (by kernel_rfl)) (fun _ _ _ h => h) (Or.inl ⟨by rfl, ?_⟩) hHeld ?_ ?_
                  rotate_left
                  · rintro w' ⟨s0, s1, s2, s3, s4, s5, s6⟩
                    go_simp
                    with_reducible rfl
                  rotate_left
                  · simp only [Act.put, List.setIfInBounds_toArray, List.set_cons_zero, List.set_cons_succ, i64_w, i32_w]
                    rfl
                  refine pure_ (i := 4) (N := some 23) (v := ?_) (a' := ?_) #[true, true, true, true, true, false, true, false, true, false, true, false, true, true, true, false, false, false] rfl rfl (any_of HT_.out (by kernel_rfl)) (fun _ _ _ h => h) (Or.inl ⟨by rfl, ?_⟩) ?_ ?_
                  rotate_left
                  · intro w'
                    go_simp
                    with_reducible rfl
                  rotate_left
                  · simp only [Act.put, List.setIfInBounds_toArray, List.set_cons_zero, List.set_cons_succ, i64_w, i32_w]
                    rfl
                  refine take_ (i := 5) (N := some 24) (v := ?_) (a' := ?_) #[true, true, true, true, true, true, true, false, true, false, true, false, true, true, true, false, false, false] rfl rfl (take_ofW HT_.out HW_.out (by kernel_rfl)) (fun _ _ _ h => h) (Or.inl ⟨by rfl, ?_⟩) hHeld ?_ ?_
                  rotate_left
                  · rintro w' ⟨s0, s1, s2, s3, s4, s5, s6⟩
                    go_simp
                    with_reducible rfl
                  rotate_left
                  · simp only [Act.put, List.setIfInBounds_toArray, List.set_cons_zero, List.set_cons_succ, i64_w, i32_w]
                    rfl
                  refine take_ (i := 7) (N := some 26) (v := ?_) (a' := ?_) #[true, true, true, true, true, true, true, true, true, false, true, false, true, true, true, false, false, false] rfl rfl (take_ofW HT_.out HW_.out (by kernel_rfl)) (fun _ _ _ h => h) (Or.inl ⟨by rfl, ?_⟩) hHeld ?_ ?_
                  rotate_left
                  · rintro w' ⟨s0, s1, s2, s3, s4, s5, s6⟩
                    go_simp
                    with_reducible rfl
                  rotate_left
                  · simp only [Act.put, List.setIfInBounds_toArray, List.set_cons_zero, List.set_cons_succ, i64_w, i32_w]
                    rfl
                  refine pure_ (i := 9) (N := some 28) (v := ?_) (a' := ?_) #[true, true, true, true, true, true, true, true, true, true, true, false, true, true, true, false, false, false] rfl rfl (any_of HT_.out (by kernel_rfl)) (fun _ _ _ h => h) (Or.inl ⟨by rfl, ?_⟩) ?_ ?_
                  rotate_left
                  · intro w'
                    go_simp
                    with_reducible rfl
                  rotate_left
                  · simp only [Act.put, List.setIfInBounds_toArray, List.set_cons_zero, List.set_cons_succ, i64_w, i32_w]
                    rfl
                  refine pure_ (i := 11) (N := some 30) (v := ?_) (a' := ?_) #[true, true, true, true, true, true, true, true, true, true, true, true, true, true, true, false, false, false] rfl rfl (any_of HT_.out (by kernel_rfl)) (fun _ _ _ h => h) (Or.inl ⟨by rfl, ?_⟩) ?_ ?_
                  rotate_left
                  · intro w'
                    go_simp
                    with_reducible rfl
                  rotate_left
                  · simp only [Act.put, List.setIfInBounds_toArray, List.set_cons_zero, List.set_cons_succ, i64_w, i32_w]
                    rfl
                  refine take_ (i := 15) (N := some 34) (v := ?_) (a' := ?_) #[true, true, true, true, true, true, true, true, true, true, true, true, true, true, true, true, false, false] rfl rfl (take_ofW HT_.out HW_.out (by kernel_rfl)) (fun _ _ _ h => h) (Or.inl ⟨by rfl, ?_⟩) hHeld ?_ ?_
                  rotate_left
                  · rintro w' ⟨s0, s1, s2, s3, s4, s5, s6⟩
                    go_simp
                    with_reducible rfl
                  rotate_left
                  · simp only [Act.put, List.setIfInBounds_toArray, List.set_cons_zero, List.set_cons_succ, i64_w, i32_w]
                    rfl
                  refine pure_ (i := 16) (N := some 35) (v := ?_) (a' := ?_) #[true, true, true, true, true, true, true, true, true, true, true, true, true, true, true, true, true, false] rfl rfl (any_of HT_.out (by kernel_rfl)) (fun _ _ _ h => h) (Or.inl ⟨by rfl, ?_⟩) ?_ ?_
                  rotate_left
                  · intro w'
                    go_simp
                    with_reducible rfl
                  rotate_left
                  · simp only [Act.put, List.setIfInBounds_toArray, List.set_cons_zero, List.set_cons_succ, i64_w, i32_w]
                    rfl
                  refine last_ (i := 17) (N := none) #[true, true, true, true, true, true, true, true, true, true, true, true, true, true, true, true, true, true] rfl rfl (one_of HT_.out (by kernel_rfl)) (by decide) (fun K hK => ?_)
                  refine skip_ (w1 := ?_) (by rfl) rfl ?_ ?_
                  rotate_left
                  · go_simp
                    rfl
                  refine hK.out _ _ ?_
                  clear hK K
                  refine done_ (done_of HT_.out (by kernel_rfl)) ?_
                  try go_wp2
                  go_roundg k1
                  case measure => have := HK1.out; omega
                  case rel => exact ⟨(wrap64 (x10_1 + 1)), (y516), (.slice (some ad512) x512000_1.length co28), (by first | rfl | (simp; done) | (simp [*]; done)), H', ⟨by have := HK1.out; omega⟩, ⟨by (with_reducible repeat (first | apply Kd.S_alloc | apply Kd.S_drewN | apply Kd.S_drew)); exact HQ29.out⟩, ⟨by (with_reducible repeat (first | refine blk_drewN ?_ _ | refine blk_drew ?_ | refine blk_alloc ?_ _)); refine blk_far ?_ (by have h_ := Kd.R_ne HL512_0.out BK505.out (by decide); intro e_; exact h_ (by rw [e_]; rfl)) _; (with_reducible repeat (first | refine blk_drewN ?_ _ | refine blk_drew ?_ | refine blk_alloc ?_ _)); exact BK505.out⟩, ⟨by (with_reducible repeat (first | refine blk_drewN ?_ _ | refine blk_drew ?_ | refine blk_alloc ?_ _)); refine blk_far ?_ (by have h_ := Kd.R_ne HL512_0.out BK506.out (by decide); intro e_; exact h_ (by rw [e_]; rfl)) _; (with_reducible repeat (first | refine blk_drewN ?_ _ | refine blk_drew ?_ | refine blk_alloc ?_ _)); exact BK506.out⟩, ⟨by (with_reducible repeat (first | refine blk_drewN ?_ _ | refine blk_drew ?_ | refine blk_alloc ?_ _)); refine blk_far ?_ (by have h_ := Kd.R_ne HL512_0.out BK507.out (by decide); intro e_; exact h_ (by rw [e_]; rfl)) _; (with_reducible repeat (first | refine blk_drewN ?_ _ | refine blk_drew ?_ | refine blk_alloc ?_ _)); exact BK507.out⟩, ⟨by (with_reducible repeat (first | refine blk_drewN ?_ _ | refine blk_drew ?_ | refine blk_alloc ?_ _)); refine blk_far ?_ (by have h_ := Kd.R_ne HL512_0.out BK511.out (by decide); intro e_; exact h_ (by rw [e_]; rfl)) _; (with_reducible repeat (first | refine blk_drewN ?_ _ | refine blk_drew ?_ | refine blk_alloc ?_ _)); exact BK511.out⟩, ⟨by repeat (first | (with_reducible first | exact HB.out | apply below_alloc | apply pw_below_drewN | apply below_drew1 | refine below_set ?_ GB26.out | refine below_set ?_ GE505.out | refine below_set ?_ GE506.out | refine below_set ?_ GE507.out | refine below_set ?_ GE511.out) | exact HB.out)⟩⟩
                · rw [if_neg c25] at H
                  exact absurd H (by simp)
              · rw [if_neg c24] at H
                exact absurd H (by simp)
            · rw [if_neg c22] at H
              exact absurd H (by simp)
          · rw [if_neg c21] at H
            exact absurd H (by simp)
        · rw [if_neg c20] at H
          exact absurd H (by simp)
      · rw [if_neg c19] at H
        have c19b0 : decide (x10_1 < (l3.length : Int)) = false := decide_eq_false c19
        clear c19
        obtain rfl := Option.some.inj H
        have hnb31 := NB511_505.out
        have hnc31 := NB505_511.out
        have hnb32 := NB511_506.out
        have hnc32 := NB506_511.out
        have hnb33 := NB511_507.out
        have hnc33 := NB507_511.out
        have hcz34_0 : wr.cell? ⟨gb511, 0, none⟩ = some (u512000) := (blk_cell BK511.out 0).trans rfl
        have hfz34_0 := blk_frozen BK511.out 0
        obtain ⟨Ao35, co35, eo35⟩ := Kd.S_slice HO_512000.out
        subst eo35
        have hnb36 := NB507_505.out
        have hnc36 := NB505_507.out
        have hnb37 := NB507_506.out
        have hnc37 := NB506_507.out
        have hcz38_0 : wr.cell? ⟨gb507, 0, none⟩ = some (.slice none 0 0) := (blk_cell BK507.out 0).trans rfl
        have hfz38_0 := blk_frozen BK507.out 0
        go_wp2
        refine bodyPost_ret (results_cell_row rfl _ _ gb507 26 #[.slice Ao35 x512000_1.length co35] (0, 0) _ rfl (by (with_reducible repeat (first | refine blk_drewN ?_ _ | refine blk_drew ?_ | refine blk_alloc ?_ _)); refine blk_put (cs := #[.slice none 0 0]) ?_ 0 _ rfl; (with_reducible repeat (first | refine blk_drewN ?_ _ | refine blk_drew ?_ | refine blk_alloc ?_ _)); exact BK507.out) Try.underlying26 rfl (by kernel_rfl)) rfl ?_
        exact ⟨_, by first | rfl | (simp [errW_none, errW_some] <;> rfl) | (simp [*, errW_none, errW_some] <;> rfl), by (with_reducible repeat (first | apply Kd.S_alloc | apply Kd.S_drewN | apply Kd.S_drew)); exact Kd.S_mono (Kd.S_far (p := ⟨gb507, 0, none⟩) (Kd.S_types HO_512000.out BK507.out (by decide)) (fun _ hk => hk.2) (.slice Ao35 x512000_1.length co35)) (fun _ hk => trivial), by repeat (first | (with_reducible first | exact HB.out | apply below_alloc | apply pw_below_drewN | apply below_drew1 | refine below_set ?_ GE505.out | refine below_set ?_ GE506.out | refine below_set ?_ GE507.out | refine below_set ?_ GE511.out) | exact HB.out)⟩

end Go.Proofs.Ytoomjghabiojkaa.P


namespace Go.Proofs.Ytoomjghabiojkaa.P
open Go.RowKit Go.Proofs.YtoomjghabiojkaaW.PrintWords Go.Proofs.YtoomjghabiojkaaW.PrintLast Go.Proofs.YtoomjghabiojkaaW.PrintMore
attribute [local go_sem] max2_int min2_int max_two min_two max_three min_three max_four min_four   -- for this text's walks alone
set_option linter.unusedVariables false
set_option linter.unusedSimpArgs false

def spec_l2At.f (l0_0 : List (List Int)) (a1_0 : Int) (a1_1 : Int) (a1_2 : Int) (a1_3 : Int) (a2 : Int) : Option (Int) := if 0 ≤ a1_0 then (if a1_0 < (l0_0.length : Int) then (if 0 ≤ (wrap64 (a1_1 + a2)) then (if (wrap64 (a1_1 + a2)) < ((rd_Lsu8 l0_0 a1_0).length : Int) then (some (rd (rd_Lsu8 l0_0 a1_0) (wrap64 (a1_1 + a2)))) else (none)) else (none)) else (none)) else (none)
set_option maxHeartbeats 8000000 in
set_option maxRecDepth 100000 in
theorem spec_l2At.calls (A0_0 : Option Addr) (c0_0 : Nat) (l0_0 : List (List Int)) (a1_0 : Int) (a1_1 : Int) (a1_2 : Int) (a1_3 : Int) (a2 : Int) (r : Int) (w : World) (hr0_0 : Kd.C (Kd.slice 5 (Kd.int .u8)) w A0_0 l0_0.length l0_0) (hc0_0 : l0_0.length ≤ c0_0) (h : spec_l2At.f l0_0 a1_0 a1_1 a1_2 a1_3 a2 = some r) :
    Calls Try.prog 156 #[.agg #[.slice A0_0 l0_0.length c0_0], .agg #[.int .i64 a1_0, .int .i64 a1_1, .int .i64 a1_2, .int .i64 a1_3], .int .i64 a2] w fun e w' => e = .returned (.int .u8 r) ∧ Below w.heap.size w w' := by
  have hu26 := Try.underlying26
  have hu48 := Try.underlying48
  have HR0_0 := Aside0.mk hr0_0
  have HC0_0 := Aside0.mk hc0_0
  clear hr0_0 hc0_0
  have HB := Aside0.mk (Below.refl w.heap.size w)
  have H : (if 0 ≤ a1_0 then (if a1_0 < (l0_0.length : Int) then (if 0 ≤ (wrap64 (a1_1 + a2)) then (if (wrap64 (a1_1 + a2)) < ((rd_Lsu8 l0_0 a1_0).length : Int) then (some (rd (rd_Lsu8 l0_0 a1_0) (wrap64 (a1_1 + a2)))) else (none)) else (none)) else (none)) else (none)) = some r := h
  clear h
  by_cases c4 : 0 ≤ a1_0
  · rw [if_pos c4] at H
    have c4b0 : decide (0 ≤ a1_0) = true := decide_eq_true c4
    clear c4
    by_cases c5 : a1_0 < (l0_0.length : Int)
    · rw [if_pos c5] at H
      have c5b0 : decide (a1_0 < (l0_0.length : Int)) = true := decide_eq_true c5
      clear c5
      obtain ⟨ji6, hji6⟩ : ∃ j_ : Int, (wrap64 (a1_1 + a2)) = j_ := ⟨_, rfl⟩
      replace H : (if 0 ≤ (ji6) then (if (ji6) < ((rd_Lsu8 l0_0 a1_0).length : Int) then (some (rd (rd_Lsu8 l0_0 a1_0) (ji6))) else (none)) else (none)) = some r := by first | (rw [hji6] at H; exact H) | (simp only [hji6] at H ⊢; exact H)
      have hji6w : (IntKind.i64.wrap (a1_1 + a2)) = ji6 := (i64_w _).trans hji6
      by_cases c7 : 0 ≤ (ji6)
      · rw [if_pos c7] at H
        have c7b0 : decide (0 ≤ (ji6)) = true := decide_eq_true c7
        clear c7
        by_cases c8 : (ji6) < ((rd_Lsu8 l0_0 a1_0).length : Int)
        · rw [if_pos c8] at H
          have c8b0 : decide ((ji6) < ((rd_Lsu8 l0_0 a1_0).length : Int)) = true := decide_eq_true c8
          clear c8
          obtain rfl := Option.some.inj H
          go_enter Try.func156, Try.ntmps156
          go_wp2_with (first | ((with_reducible refine gate_dst (N := 3) rfl ?_); refine box_event ?hg (N := 3) ?hd (cs := #[.slice A0_0 l0_0.length c0_0]) (t := 26) ?hr ?_; (case hd => rfl); (case hg => rfl); (case hr => first | (go_simp; done) | (go_simp; rfl)); intro gb492 hg w9 hbox hb; have n0_ := Aside0.mk (below_step (by repeat (first | (with_reducible first | exact HB.out | apply below_alloc | apply pw_below_drewN | apply below_drew1) | exact HB.out)) hb); have n1_ := Aside0.mk (hbox); have n2_ := Aside0.mk ((by rw [hg]; exact (below_size (by repeat (first | (with_reducible first | exact HB.out | apply below_alloc | apply pw_below_drewN | apply below_drew1) | exact HB.out))) : w.heap.size ≤ gb492)); have n3_ := Aside0.mk ((by rw [hg]; exact (below_size (by repeat (first | (with_reducible first | exact HB.out | apply below_alloc | apply pw_below_drewN | apply below_drew1) | exact HB.out))) : w.heap.size ≤ gb492)); clear HB; have HB := n0_; have BK492 := n1_; have GW492 := n2_; have GE492 := n3_; clear n0_ n1_ n2_ n3_; clear hb hbox hg) | ((with_reducible refine gate_dst (N := 4) rfl ?_); refine box_event ?hg (N := 4) ?hd (cs := #[.int .i64 a1_0, .int .i64 a1_1, .int .i64 a1_2, .int .i64 a1_3]) (t := 48) ?hr ?_; (case hd => rfl); (case hg => rfl); (case hr => first | (go_simp; done) | (go_simp; rfl)); intro gb493 hg w10 hbox hb; have n0_ := Aside0.mk (blk_below (g := gb492) (o := .cells #[.slice A0_0 l0_0.length c0_0] 26 (0, 0)) (by (with_reducible repeat (first | refine blk_drewN ?_ _ | refine blk_drew ?_ | refine blk_alloc ?_ _)); exact BK492.out) hb); have n1_ := Aside0.mk (below_step (by repeat (first | (with_reducible first | exact HB.out | apply below_alloc | apply pw_below_drewN | apply below_drew1 | refine below_set ?_ GE492.out) | exact HB.out)) hb); have n2_ := Aside0.mk (hbox); have n3_ := Aside0.mk ((by rw [hg]; exact (below_size (by repeat (first | (with_reducible first | exact HB.out | apply below_alloc | apply pw_below_drewN | apply below_drew1 | refine below_set ?_ GE492.out) | exact HB.out))) : w.heap.size ≤ gb493)); have n4_ := Aside0.mk ((by rw [hg]; exact (below_size (by repeat (first | (with_reducible first | exact HB.out | apply below_alloc | apply pw_below_drewN | apply below_drew1 | refine below_set ?_ GE492.out) | exact HB.out))) : w.heap.size ≤ gb493)); have n5_ := Aside0.mk ((by rw [hg]; exact Nat.ne_of_lt (blk_lt (g := gb492) (o := .cells #[.slice A0_0 l0_0.length c0_0] 26 (0, 0)) (by (with_reducible repeat (first | refine blk_drewN ?_ _ | refine blk_drew ?_ | refine blk_alloc ?_ _)); exact BK492.out)) : gb492 ≠ gb493)); have n6_ := Aside0.mk ((by rw [hg]; exact Nat.ne_of_gt (blk_lt (g := gb492) (o := .cells #[.slice A0_0 l0_0.length c0_0] 26 (0, 0)) (by (with_reducible repeat (first | refine blk_drewN ?_ _ | refine blk_drew ?_ | refine blk_alloc ?_ _)); exact BK492.out)) : gb493 ≠ gb492)); clear BK492; clear HB; have BK492 := n0_; have HB := n1_; have BK493 := n2_; have GW493 := n3_; have GE493 := n4_; have NB492_493 := n5_; have NB493_492 := n6_; clear n0_ n1_ n2_ n3_ n4_ n5_ n6_; clear hb hbox hg; have hnb11 := NB492_493.out; have hnc11 := NB493_492.out; have hcz12_0 : w10.cell? ⟨gb492, 0, none⟩ = some (.slice A0_0 l0_0.length c0_0) := (blk_cell BK492.out 0).trans rfl; have hfz12_0 := blk_frozen BK492.out 0; have hcz13_0 : w10.cell? ⟨gb493, 0, none⟩ = some (.int .i64 a1_0) := (blk_cell BK493.out 0).trans rfl; have hcz13_1 : w10.cell? ⟨gb493, 1, none⟩ = some (.int .i64 a1_1) := (blk_cell BK493.out 1).trans rfl; have hcz13_2 : w10.cell? ⟨gb493, 2, none⟩ = some (.int .i64 a1_2) := (blk_cell BK493.out 2).trans rfl; have hcz13_3 : w10.cell? ⟨gb493, 3, none⟩ = some (.int .i64 a1_3) := (blk_cell BK493.out 3).trans rfl; have hfz13_0 := blk_frozen BK493.out 0; have hfz13_1 := blk_frozen BK493.out 1; have hfz13_2 := blk_frozen BK493.out 2; have hfz13_3 := blk_frozen BK493.out 3; have p494 : 0 ≤ (a1_0 : Int) := of_decide_eq_true (by first | (with_reducible assumption) | assumption); have q494 : a1_0 < (l0_0.length : Int) := of_decide_eq_true (by first | (with_reducible assumption) | assumption); obtain ⟨ad494, A494_0, c494_0, e494, hx494_0, hl494_0, hi494_0⟩ := at_Lsu8 HR0_0.out a1_0 p494 q494; cases e494; replace hx494_0 := (HB.out.cell (World.block_lt_of_cell? w _ hx494_0)).trans hx494_0; have HR494_0 := Aside0.mk hi494_0; have HC494_0 := Aside0.mk hl494_0; clear hi494_0 hl494_0; replace p494 := eq_true p494; replace q494 := eq_true q494; have p495 : 0 ≤ ((ji6) : Int) := of_decide_eq_true (by first | (with_reducible assumption) | assumption); have q495 : (ji6) < ((rd_Lsu8 l0_0 a1_0).length : Int) := of_decide_eq_true (by first | (with_reducible assumption) | assumption); obtain ⟨ad495, e495, hx495_0⟩ := Kd.at_int HR494_0.out (ji6) p495 q495; cases e495; replace hx495_0 := (HB.out.cell (World.block_lt_of_cell? w _ hx495_0)).trans hx495_0; replace p495 := eq_true p495; replace q495 := eq_true q495))
          repeat (go_quiet (first | ((with_reducible refine gate_dst (N := 3) rfl ?_); refine box_event ?hg (N := 3) ?hd (cs := #[.slice A0_0 l0_0.length c0_0]) (t := 26) ?hr ?_; (case hd => rfl); (case hg => rfl); (case hr => first | (go_simp; done) | (go_simp; rfl)); intro gb492 hg w9 hbox hb; have n0_ := Aside0.mk (below_step (by repeat (first | (with_reducible first | exact HB.out | apply below_alloc | apply pw_below_drewN | apply below_drew1) | exact HB.out)) hb); have n1_ := Aside0.mk (hbox); have n2_ := Aside0.mk ((by rw [hg]; exact (below_size (by repeat (first | (with_reducible first | exact HB.out | apply below_alloc | apply pw_below_drewN | apply below_drew1) | exact HB.out))) : w.heap.size ≤ gb492)); have n3_ := Aside0.mk ((by rw [hg]; exact (below_size (by repeat (first | (with_reducible first | exact HB.out | apply below_alloc | apply pw_below_drewN | apply below_drew1) | exact HB.out))) : w.heap.size ≤ gb492)); clear HB; have HB := n0_; have BK492 := n1_; have GW492 := n2_; have GE492 := n3_; clear n0_ n1_ n2_ n3_; clear hb hbox hg) | ((with_reducible refine gate_dst (N := 4) rfl ?_); refine box_event ?hg (N := 4) ?hd (cs := #[.int .i64 a1_0, .int .i64 a1_1, .int .i64 a1_2, .int .i64 a1_3]) (t := 48) ?hr ?_; (case hd => rfl); (case hg => rfl); (case hr => first | (go_simp; done) | (go_simp; rfl)); intro gb493 hg w10 hbox hb; have n0_ := Aside0.mk (blk_below (g := gb492) (o := .cells #[.slice A0_0 l0_0.length c0_0] 26 (0, 0)) (by (with_reducible repeat (first | refine blk_drewN ?_ _ | refine blk_drew ?_ | refine blk_alloc ?_ _)); exact BK492.out) hb); have n1_ := Aside0.mk (below_step (by repeat (first | (with_reducible first | exact HB.out | apply below_alloc | apply pw_below_drewN | apply below_drew1 | refine below_set ?_ GE492.out) | exact HB.out)) hb); have n2_ := Aside0.mk (hbox); have n3_ := Aside0.mk ((by rw [hg]; exact (below_size (by repeat (first | (with_reducible first | exact HB.out | apply below_alloc | apply pw_below_drewN | apply below_drew1 | refine below_set ?_ GE492.out) | exact HB.out))) : w.heap.size ≤ gb493)); have n4_ := Aside0.mk ((by rw [hg]; exact (below_size (by repeat (first | (with_reducible first | exact HB.out | apply below_alloc | apply pw_below_drewN | apply below_drew1 | refine below_set ?_ GE492.out) | exact HB.out))) : w.heap.size ≤ gb493)); have n5_ := Aside0.mk ((by rw [hg]; exact Nat.ne_of_lt (blk_lt (g := gb492) (o := .cells #[.slice A0_0 l0_0.length c0_0] 26 (0, 0)) (by (with_reducible repeat (first | refine blk_drewN ?_ _ | refine blk_drew ?_ | refine blk_alloc ?_ _)); exact BK492.out)) : gb492 ≠ gb493)); have n6_ := Aside0.mk ((by rw [hg]; exact Nat.ne_of_gt (blk_lt (g := gb492) (o := .cells #[.slice A0_0 l0_0.length c0_0] 26 (0, 0)) (by (with_reducible repeat (first | refine blk_drewN ?_ _ | refine blk_drew ?_ | refine blk_alloc ?_ _)); exact BK492.out)) : gb493 ≠ gb492)); clear BK492; clear HB; have BK492 := n0_; have HB := n1_; have BK493 := n2_; have GW493 := n3_; have GE493 := n4_; have NB492_493 := n5_; have NB493_492 := n6_; clear n0_ n1_ n2_ n3_ n4_ n5_ n6_; clear hb hbox hg; have hnb11 := NB492_493.out; have hnc11 := NB493_492.out; have hcz12_0 : w10.cell? ⟨gb492, 0, none⟩ = some (.slice A0_0 l0_0.length c0_0) := (blk_cell BK492.out 0).trans rfl; have hfz12_0 := blk_frozen BK492.out 0; have hcz13_0 : w10.cell? ⟨gb493, 0, none⟩ = some (.int .i64 a1_0) := (blk_cell BK493.out 0).trans rfl; have hcz13_1 : w10.cell? ⟨gb493, 1, none⟩ = some (.int .i64 a1_1) := (blk_cell BK493.out 1).trans rfl; have hcz13_2 : w10.cell? ⟨gb493, 2, none⟩ = some (.int .i64 a1_2) := (blk_cell BK493.out 2).trans rfl; have hcz13_3 : w10.cell? ⟨gb493, 3, none⟩ = some (.int .i64 a1_3) := (blk_cell BK493.out 3).trans rfl; have hfz13_0 := blk_frozen BK493.out 0; have hfz13_1 := blk_frozen BK493.out 1; have hfz13_2 := blk_frozen BK493.out 2; have hfz13_3 := blk_frozen BK493.out 3; have p494 : 0 ≤ (a1_0 : Int) := of_decide_eq_true (by first | (with_reducible assumption) | assumption); have q494 : a1_0 < (l0_0.length : Int) := of_decide_eq_true (by first | (with_reducible assumption) | assumption); obtain ⟨ad494, A494_0, c494_0, e494, hx494_0, hl494_0, hi494_0⟩ := at_Lsu8 HR0_0.out a1_0 p494 q494; cases e494; replace hx494_0 := (HB.out.cell (World.block_lt_of_cell? w _ hx494_0)).trans hx494_0; have HR494_0 := Aside0.mk hi494_0; have HC494_0 := Aside0.mk hl494_0; clear hi494_0 hl494_0; replace p494 := eq_true p494; replace q494 := eq_true q494; have p495 : 0 ≤ ((ji6) : Int) := of_decide_eq_true (by first | (with_reducible assumption) | assumption); have q495 : (ji6) < ((rd_Lsu8 l0_0 a1_0).length : Int) := of_decide_eq_true (by first | (with_reducible assumption) | assumption); obtain ⟨ad495, e495, hx495_0⟩ := Kd.at_int HR494_0.out (ji6) p495 q495; cases e495; replace hx495_0 := (HB.out.cell (World.block_lt_of_cell? w _ hx495_0)).trans hx495_0; replace p495 := eq_true p495; replace q495 := eq_true q495)); try go_wp2_with (first | ((with_reducible refine gate_dst (N := 3) rfl ?_); refine box_event ?hg (N := 3) ?hd (cs := #[.slice A0_0 l0_0.length c0_0]) (t := 26) ?hr ?_; (case hd => rfl); (case hg => rfl); (case hr => first | (go_simp; done) | (go_simp; rfl)); intro gb492 hg w9 hbox hb; have n0_ := Aside0.mk (below_step (by repeat (first | (with_reducible first | exact HB.out | apply below_alloc | apply pw_below_drewN | apply below_drew1) | exact HB.out)) hb); have n1_ := Aside0.mk (hbox); have n2_ := Aside0.mk ((by rw [hg]; exact (below_size (by repeat (first | (with_reducible first | exact HB.out | apply below_alloc | apply pw_below_drewN | apply below_drew1) | exact HB.out))) : w.heap.size ≤ gb492)); have n3_ := Aside0.mk ((by rw [hg]; exact (below_size (by repeat (first | (with_reducible first | exact HB.out | apply below_alloc | apply pw_below_drewN | apply below_drew1) | exact HB.out))) : w.heap.size ≤ gb492)); clear HB; have HB := n0_; have BK492 := n1_; have GW492 := n2_; have GE492 := n3_; clear n0_ n1_ n2_ n3_; clear hb hbox hg) | ((with_reducible refine gate_dst (N := 4) rfl ?_); refine box_event ?hg (N := 4) ?hd (cs := #[.int .i64 a1_0, .int .i64 a1_1, .int .i64 a1_2, .int .i64 a1_3]) (t := 48) ?hr ?_; (case hd => rfl); (case hg => rfl); (case hr => first | (go_simp; done) | (go_simp; rfl)); intro gb493 hg w10 hbox hb; have n0_ := Aside0.mk (blk_below (g := gb492) (o := .cells #[.slice A0_0 l0_0.length c0_0] 26 (0, 0)) (by (with_reducible repeat (first | refine blk_drewN ?_ _ | refine blk_drew ?_ | refine blk_alloc ?_ _)); exact BK492.out) hb); have n1_ := Aside0.mk (below_step (by repeat (first | (with_reducible first | exact HB.out | apply below_alloc | apply pw_below_drewN | apply below_drew1 | refine below_set ?_ GE492.out) | exact HB.out)) hb); have n2_ := Aside0.mk (hbox); have n3_ := Aside0.mk ((by rw [hg]; exact (below_size (by repeat (first | (with_reducible first | exact HB.out | apply below_alloc | apply pw_below_drewN | apply below_drew1 | refine below_set ?_ GE492.out) | exact HB.out))) : w.heap.size ≤ gb493)); have n4_ := Aside0.mk ((by rw [hg]; exact (below_size (by repeat (first | (with_reducible first | exact HB.out | apply below_alloc | apply pw_below_drewN | apply below_drew1 | refine below_set ?_ GE492.out) | exact HB.out))) : w.heap.size ≤ gb493)); have n5_ := Aside0.mk ((by rw [hg]; exact Nat.ne_of_lt (blk_lt (g := gb492) (o := .cells #[.slice A0_0 l0_0.length c0_0] 26 (0, 0)) (by (with_reducible repeat (first | refine blk_drewN ?_ _ | refine blk_drew ?_ | refine blk_alloc ?_ _)); exact BK492.out)) : gb492 ≠ gb493)); have n6_ := Aside0.mk ((by rw [hg]; exact Nat.ne_of_gt (blk_lt (g := gb492) (o := .cells #[.slice A0_0 l0_0.length c0_0] 26 (0, 0)) (by (with_reducible repeat (first | refine blk_drewN ?_ _ | refine blk_drew ?_ | refine blk_alloc ?_ _)); exact BK492.out)) : gb493 ≠ gb492)); clear BK492; clear HB; have BK492 := n0_; have HB := n1_; have BK493 := n2_; have GW493 := n3_; have GE493 := n4_; have NB492_493 := n5_; have NB493_492 := n6_; clear n0_ n1_ n2_ n3_ n4_ n5_ n6_; clear hb hbox hg; have hnb11 := NB492_493.out; have hnc11 := NB493_492.out; have hcz12_0 : w10.cell? ⟨gb492, 0, none⟩ = some (.slice A0_0 l0_0.length c0_0) := (blk_cell BK492.out 0).trans rfl; have hfz12_0 := blk_frozen BK492.out 0; have hcz13_0 : w10.cell? ⟨gb493, 0, none⟩ = some (.int .i64 a1_0) := (blk_cell BK493.out 0).trans rfl; have hcz13_1 : w10.cell? ⟨gb493, 1, none⟩ = some (.int .i64 a1_1) := (blk_cell BK493.out 1).trans rfl; have hcz13_2 : w10.cell? ⟨gb493, 2, none⟩ = some (.int .i64 a1_2) := (blk_cell BK493.out 2).trans rfl; have hcz13_3 : w10.cell? ⟨gb493, 3, none⟩ = some (.int .i64 a1_3) := (blk_cell BK493.out 3).trans rfl; have hfz13_0 := blk_frozen BK493.out 0; have hfz13_1 := blk_frozen BK493.out 1; have hfz13_2 := blk_frozen BK493.out 2; have hfz13_3 := blk_frozen BK493.out 3; have p494 : 0 ≤ (a1_0 : Int) := of_decide_eq_true (by first | (with_reducible assumption) | assumption); have q494 : a1_0 < (l0_0.length : Int) := of_decide_eq_true (by first | (with_reducible assumption) | assumption); obtain ⟨ad494, A494_0, c494_0, e494, hx494_0, hl494_0, hi494_0⟩ := at_Lsu8 HR0_0.out a1_0 p494 q494; cases e494; replace hx494_0 := (HB.out.cell (World.block_lt_of_cell? w _ hx494_0)).trans hx494_0; have HR494_0 := Aside0.mk hi494_0; have HC494_0 := Aside0.mk hl494_0; clear hi494_0 hl494_0; replace p494 := eq_true p494; replace q494 := eq_true q494; have p495 : 0 ≤ ((ji6) : Int) := of_decide_eq_true (by first | (with_reducible assumption) | assumption); have q495 : (ji6) < ((rd_Lsu8 l0_0 a1_0).length : Int) := of_decide_eq_true (by first | (with_reducible assumption) | assumption); obtain ⟨ad495, e495, hx495_0⟩ := Kd.at_int HR494_0.out (ji6) p495 q495; cases e495; replace hx495_0 := (HB.out.cell (World.block_lt_of_cell? w _ hx495_0)).trans hx495_0; replace p495 := eq_true p495; replace q495 := eq_true q495)))
          go_ret
          exact ⟨by first | rfl | (simp [errW_none, errW_some] <;> rfl) | (simp only [← hji6]; first | rfl | (simp [errW_none, errW_some] <;> rfl)) | (simp [*, errW_none, errW_some] <;> rfl), by repeat (first | (with_reducible first | exact HB.out | apply below_alloc | apply pw_below_drewN | apply below_drew1 | refine below_set ?_ GE492.out | refine below_set ?_ GE493.out) | exact HB.out)⟩
        · rw [if_neg c8] at H
          exact absurd H (by simp)
      · rw [if_neg c7] at H
        exact absurd H (by simp)
    · rw [if_neg c5] at H
      exact absurd H (by simp)
  · rw [if_neg c4] at H
    exact absurd H (by simp)

end Go.Proofs.Ytoomjghabiojkaa.P


namespace Go.Proofs.Ytoomjghabiojkaa.P
open Go.RowKit Go.Proofs.YtoomjghabiojkaaW.PrintWords Go.Proofs.YtoomjghabiojkaaW.PrintLast Go.Proofs.YtoomjghabiojkaaW.PrintMore
attribute [local go_sem] max2_int min2_int max_two min_two max_three min_three max_four min_four   -- for this text's walks alone
set_option linter.unusedVariables false
set_option linter.unusedSimpArgs false

def spec_l2Bytes.l0 : Nat → List Int → Int → List (List Int) → Int → Int → Int → Int → Option (List Int)
  | 0, _, _, _, _, _, _, _ => none
  | k + 1, x5, x6, x497000, x498000, x498001, x498002, x498003 => if x6 < x498002 then ((spec_l2At.f x497000 x498000 x498001 x498002 x498003 x6).bind fun t501 => (if x5.length < 140737488355328 then (spec_l2Bytes.l0 k (x5 ++ [t501]) (wrap64 (x6 + 1)) x497000 x498000 x498001 x498002 x498003) else (none))) else (some x5)
def spec_l2Bytes.f (k : Nat) (l0_0 : List (List Int)) (a1_0 : Int) (a1_1 : Int) (a1_2 : Int) (a1_3 : Int) : Option (List Int) := spec_l2Bytes.l0 k (([] : List Int)) 0 l0_0 a1_0 a1_1 a1_2 a1_3
set_option maxHeartbeats 8000000 in
set_option maxRecDepth 100000 in
theorem spec_l2Bytes.calls (k : Nat) (A0_0 : Option Addr) (c0_0 : Nat) (l0_0 : List (List Int)) (a1_0 : Int) (a1_1 : Int) (a1_2 : Int) (a1_3 : Int) (r : List Int) (w : World) (hr0_0 : Kd.C (Kd.slice 5 (Kd.int .u8)) w A0_0 l0_0.length l0_0) (hc0_0 : l0_0.length ≤ c0_0) (h : spec_l2Bytes.f k l0_0 a1_0 a1_1 a1_2 a1_3 = some r) :
    Calls Try.prog 142 #[.agg #[.slice A0_0 l0_0.length c0_0], .agg #[.int .i64 a1_0, .int .i64 a1_1, .int .i64 a1_2, .int .i64 a1_3]] w fun e w' => ∃ v0_ : Value, e = .returned (v0_) ∧ Kd.R (Kd.int .u8) 5 w' w.heap.size (fun _ => True) v0_ r ∧ Below w.heap.size w w' := by
  have hu26 := Try.underlying26
  have hu48 := Try.underlying48
  have HR0_0 := Aside0.mk hr0_0
  have HC0_0 := Aside0.mk hc0_0
  clear hr0_0 hc0_0
  have HB := Aside0.mk (Below.refl w.heap.size w)
  have H : (spec_l2Bytes.l0 k (([] : List Int)) 0 l0_0 a1_0 a1_1 a1_2 a1_3) = some r := h
  clear h
  obtain ⟨y498, hy498⟩ : ∃ y_ : List Int, y_ = (([] : List Int)) := ⟨_, rfl⟩
  replace H : (spec_l2Bytes.l0 k y498 0 l0_0 a1_0 a1_1 a1_2 a1_3) = some r := by first | (rw [hy498]; with_reducible exact H) | (have H2_ := (Option.bind_some _ _).symm.trans H; rw [hy498]; with_reducible exact H2_) | (have H2_ := (Option.bind_some _ _).symm.trans H; with_reducible exact H2_) | with_reducible exact H | (rw [hy498]; exact H) | exact H
  have Ny498 := Aside0.mk hy498
  clear hy498
  have H' := Aside0.mk H
  clear H
  go_enter Try.func142, Try.ntmps142
  go_wp2_with (first | ((with_reducible refine gate_dst (N := 2) rfl ?_); refine box_event ?hg (N := 2) ?hd (cs := #[.slice A0_0 l0_0.length c0_0]) (t := 26) ?hr ?_; (case hd => rfl); (case hg => rfl); (case hr => first | (go_simp; done) | (go_simp; rfl)); intro gb496 hg w3 hbox hb; have n0_ := Aside0.mk (below_step (by repeat (first | (with_reducible first | exact HB.out | apply below_alloc | apply pw_below_drewN | apply below_drew1) | exact HB.out)) hb); have n1_ := Aside0.mk (hbox); have n2_ := Aside0.mk ((by rw [hg]; exact (below_size (by repeat (first | (with_reducible first | exact HB.out | apply below_alloc | apply pw_below_drewN | apply below_drew1) | exact HB.out))) : w.heap.size ≤ gb496)); have n3_ := Aside0.mk ((by rw [hg]; exact (below_size (by repeat (first | (with_reducible first | exact HB.out | apply below_alloc | apply pw_below_drewN | apply below_drew1) | exact HB.out))) : w.heap.size ≤ gb496)); clear HB; have HB := n0_; have BK496 := n1_; have GW496 := n2_; have GE496 := n3_; clear n0_ n1_ n2_ n3_; clear hb hbox hg) | ((with_reducible refine gate_dst (N := 3) rfl ?_); refine box_event ?hg (N := 3) ?hd (cs := #[.int .i64 a1_0, .int .i64 a1_1, .int .i64 a1_2, .int .i64 a1_3]) (t := 48) ?hr ?_; (case hd => rfl); (case hg => rfl); (case hr => first | (go_simp; done) | (go_simp; rfl)); intro gb497 hg w4 hbox hb; have n0_ := Aside0.mk (blk_below (g := gb496) (o := .cells #[.slice A0_0 l0_0.length c0_0] 26 (0, 0)) (by (with_reducible repeat (first | refine blk_drewN ?_ _ | refine blk_drew ?_ | refine blk_alloc ?_ _)); exact BK496.out) hb); have n1_ := Aside0.mk (below_step (by repeat (first | (with_reducible first | exact HB.out | apply below_alloc | apply pw_below_drewN | apply below_drew1 | refine below_set ?_ GE496.out) | exact HB.out)) hb); have n2_ := Aside0.mk (hbox); have n3_ := Aside0.mk ((by rw [hg]; exact (below_size (by repeat (first | (with_reducible first | exact HB.out | apply below_alloc | apply pw_below_drewN | apply below_drew1 | refine below_set ?_ GE496.out) | exact HB.out))) : w.heap.size ≤ gb497)); have n4_ := Aside0.mk ((by rw [hg]; exact (below_size (by repeat (first | (with_reducible first | exact HB.out | apply below_alloc | apply pw_below_drewN | apply below_drew1 | refine below_set ?_ GE496.out) | exact HB.out))) : w.heap.size ≤ gb497)); have n5_ := Aside0.mk ((by rw [hg]; exact Nat.ne_of_lt (blk_lt (g := gb496) (o := .cells #[.slice A0_0 l0_0.length c0_0] 26 (0, 0)) (by (with_reducible repeat (first | refine blk_drewN ?_ _ | refine blk_drew ?_ | refine blk_alloc ?_ _)); exact BK496.out)) : gb496 ≠ gb497)); have n6_ := Aside0.mk ((by rw [hg]; exact Nat.ne_of_gt (blk_lt (g := gb496) (o := .cells #[.slice A0_0 l0_0.length c0_0] 26 (0, 0)) (by (with_reducible repeat (first | refine blk_drewN ?_ _ | refine blk_drew ?_ | refine blk_alloc ?_ _)); exact BK496.out)) : gb497 ≠ gb496)); clear BK496; clear HB; have BK496 := n0_; have HB := n1_; have BK497 := n2_; have GW497 := n3_; have GE497 := n4_; have NB496_497 := n5_; have NB497_496 := n6_; clear n0_ n1_ n2_ n3_ n4_ n5_ n6_; clear hb hbox hg) | ((with_reducible refine gate_dst (N := 7) rfl ?_); refine Kd.R_lit (Kd.int .u8) _ 5 ?hg (N := 7) ?hd (xs := ([] : List Int)) (inner := []) (ok := fun _ => True) (okp := fun _ => True) ?hr ?hp (fun _ hk => hk) trivial (Below.refl _ _) (Nat.le_refl _) (by simp) ?_; (case hd => rfl); (case hg => rfl); (case hr => first | (go_simp; done) | (go_simp; rfl)); (case hp => exact (Reps.none _ _)); intro v499 w5 ho6 hb hg_ hnew_; clear hg_ hnew_; (first | rw [← Ny498.out] at ho6 | (simp only [Int.reduceToNat] at ho6; rw [← Ny498.out] at ho6)); have n0_ := Aside0.mk (Kd.R_lower ho6 (below_size (by repeat (first | (with_reducible first | exact HB.out | apply below_alloc | apply pw_below_drewN | apply below_drew1 | refine below_set ?_ GE496.out | refine below_set ?_ GE497.out) | exact HB.out)))); have n1_ := Aside0.mk (blk_below (g := gb496) (o := .cells #[.slice A0_0 l0_0.length c0_0] 26 (0, 0)) (by (with_reducible repeat (first | refine blk_drewN ?_ _ | refine blk_drew ?_ | refine blk_alloc ?_ _)); exact BK496.out) hb); have n2_ := Aside0.mk (blk_below (g := gb497) (o := .cells #[.int .i64 a1_0, .int .i64 a1_1, .int .i64 a1_2, .int .i64 a1_3] 48 (0, 0)) (by (with_reducible repeat (first | refine blk_drewN ?_ _ | refine blk_drew ?_ | refine blk_alloc ?_ _)); exact BK497.out) hb); have n3_ := Aside0.mk (below_step (by repeat (first | (with_reducible first | exact HB.out | apply below_alloc | apply pw_below_drewN | apply below_drew1 | refine below_set ?_ GE496.out | refine below_set ?_ GE497.out) | exact HB.out)) hb); clear BK496; clear BK497; clear HB; have HO500 := n0_; have BK496 := n1_; have BK497 := n2_; have HB := n3_; clear n0_ n1_ n2_ n3_; clear hb ho6))
  go_loopg [5, 6] k (fun kq v5 v6 w' => ∃ (x5_1 : List Int) (x6_1 : Int), v6 = .int .i64 x6_1 ∧ Aside0 (spec_l2Bytes.l0 kq x5_1 x6_1 l0_0 a1_0 a1_1 a1_2 a1_3 = some r) ∧ Aside0 (kq ≤ k) ∧ Aside0 (Kd.R (Kd.int .u8) 5 w' w.heap.size (fun _ => True) v5 x5_1) ∧ Aside0 (w'.heap[gb496]? = some (.cells #[(.slice A0_0 l0_0.length c0_0)] 26 (0, 0))) ∧ Aside0 (w'.heap[gb497]? = some (.cells #[.int .i64 a1_0, .int .i64 a1_1, .int .i64 a1_2, .int .i64 a1_3] 48 (0, 0))) ∧ Aside0 (Below w.heap.size w w'))
  case atStart => exact ⟨(y498), (0), (by first | rfl | (simp; done) | (simp [*]; done)), H', ⟨Nat.le_refl _⟩, ⟨by (with_reducible repeat (first | apply Kd.R_alloc | apply Kd.R_drewN | apply Kd.R_drew)); exact HO500.out⟩, ⟨by (with_reducible repeat (first | refine blk_drewN ?_ _ | refine blk_drew ?_ | refine blk_alloc ?_ _)); exact BK496.out⟩, ⟨by (with_reducible repeat (first | refine blk_drewN ?_ _ | refine blk_drew ?_ | refine blk_alloc ?_ _)); exact BK497.out⟩, ⟨by repeat (first | (with_reducible first | exact HB.out | apply below_alloc | apply pw_below_drewN | apply below_drew1 | refine below_set ?_ GE496.out | refine below_set ?_ GE497.out) | exact HB.out)⟩⟩
  case round =>
    clear H'
    try clear c1
    try clear p2
    obtain ⟨x5_1, x6_1, rfl, HA, HK1, HO_5, BK496, BK497, HB⟩ := hrel
    cases gk with
    | zero => exact absurd HA.out (by simp [spec_l2Bytes.l0])
    | succ k1 =>
      have H := HA.out
      clear HA
      simp only [spec_l2Bytes.l0] at H
      by_cases c7 : x6_1 < a1_2
      · rw [if_pos c7] at H
        have c7b0 : decide (x6_1 < a1_2) = true := decide_eq_true c7
        clear c7
        replace H := Option.bind_eq_some_iff.mp H
        obtain ⟨t501, A80, H⟩ := H
        replace H : (if x5_1.length < 140737488355328 then (spec_l2Bytes.l0 k1 (x5_1 ++ [t501]) (wrap64 (x6_1 + 1)) l0_0 a1_0 a1_1 a1_2 a1_3) else (none)) = some r := H
        have A8 := Aside0.mk A80
        clear A80
        by_cases c9 : x5_1.length < 140737488355328
        · rw [if_pos c9] at H
          have LMc9 := Aside0.mk c9
          clear c9
          obtain ⟨y502, hy502⟩ : ∃ y_ : List Int, y_ = (x5_1 ++ [t501]) := ⟨_, rfl⟩
          replace H : (spec_l2Bytes.l0 k1 y502 (wrap64 (x6_1 + 1)) l0_0 a1_0 a1_1 a1_2 a1_3) = some r := by first | (rw [hy502]; with_reducible exact H) | (have H2_ := (Option.bind_some _ _).symm.trans H; rw [hy502]; with_reducible exact H2_) | (have H2_ := (Option.bind_some _ _).symm.trans H; with_reducible exact H2_) | with_reducible exact H | (rw [hy502]; exact H) | exact H
          have Ny502 := Aside0.mk hy502
          clear hy502
          have H' := Aside0.mk H
          clear H
          have hnb10 := NB497_496.out
          have hnc10 := NB496_497.out
          have hcz11_0 : wr.cell? ⟨gb497, 0, none⟩ = some (.int .i64 a1_0) := (blk_cell BK497.out 0).trans rfl
          have hcz11_1 : wr.cell? ⟨gb497, 1, none⟩ = some (.int .i64 a1_1) := (blk_cell BK497.out 1).trans rfl
          have hcz11_2 : wr.cell? ⟨gb497, 2, none⟩ = some (.int .i64 a1_2) := (blk_cell BK497.out 2).trans rfl
          have hcz11_3 : wr.cell? ⟨gb497, 3, none⟩ = some (.int .i64 a1_3) := (blk_cell BK497.out 3).trans rfl
          have hfz11_0 := blk_frozen BK497.out 0
          have hfz11_1 := blk_frozen BK497.out 1
          have hfz11_2 := blk_frozen BK497.out 2
          have hfz11_3 := blk_frozen BK497.out 3
          have hcz12_0 : wr.cell? ⟨gb496, 0, none⟩ = some (.slice A0_0 l0_0.length c0_0) := (blk_cell BK496.out 0).trans rfl
          have hfz12_0 := blk_frozen BK496.out 0
          go_wp2_with (first | ((with_reducible refine gate_callee (f := 156) rfl ?_); refine goesL_ (some 18) rfl rfl Try.func156 (by kernel_rfl) rfl #[.agg #[.slice A0_0 l0_0.length c0_0], .agg #[.int .i64 a1_0, .int .i64 a1_1, .int .i64 a1_2, .int .i64 a1_3], .int .i64 x6_1] rfl (by (try simp only [List.map_toArray, List.map_cons, List.map_nil]); first | done | rfl | (simp only [List.length_drop, List.length_take]; rfl)) ?_; (with_reducible refine (spec_l2At.calls _ _ l0_0 a1_0 a1_1 a1_2 a1_3 x6_1 t501 _ ?side1 ?side2 A8.out).mono ?_); (case side1 => repeat (first | exact (Kd.C_below HR0_0.out HB.out) | (with_reducible refine Kd.C_alloc ?_ _) | (with_reducible refine Kd.C_drewN ?_ _) | (with_reducible refine Kd.C_drew ?_))); (case side2 => exact HC0_0.out); rintro e w13 ⟨rfl, hb⟩; refine ⟨_, rfl, ?_⟩; have n0_ := Aside0.mk (Kd.R_below (by (with_reducible repeat (first | apply Kd.R_alloc | apply Kd.R_drewN | apply Kd.R_drew)); exact HO_5.out) hb); have n1_ := Aside0.mk (blk_below (g := gb496) (o := .cells #[.slice A0_0 l0_0.length c0_0] 26 (0, 0)) (by (with_reducible repeat (first | refine blk_drewN ?_ _ | refine blk_drew ?_ | refine blk_alloc ?_ _)); exact BK496.out) hb); have n2_ := Aside0.mk (blk_below (g := gb497) (o := .cells #[.int .i64 a1_0, .int .i64 a1_1, .int .i64 a1_2, .int .i64 a1_3] 48 (0, 0)) (by (with_reducible repeat (first | refine blk_drewN ?_ _ | refine blk_drew ?_ | refine blk_alloc ?_ _)); exact BK497.out) hb); have n3_ := Aside0.mk (below_step (by repeat (first | (with_reducible first | exact HB.out | apply below_alloc | apply pw_below_drewN | apply below_drew1 | refine below_set ?_ GE496.out | refine below_set ?_ GE497.out) | exact HB.out)) hb); clear HO_5; clear BK496; clear BK497; clear HB; have HO_5 := n0_; have BK496 := n1_; have BK497 := n2_; have HB := n3_; clear n0_ n1_ n2_ n3_; (try clear hb); (try clear hb2); (try clear hk); (try clear hi)) | ((with_reducible refine gate_builtin (b := .append) (xs := #[.tmp 14, .tmp 19]) rfl ?_); at_builtin; refine Kd.R_append (Kd.int .u8) (w0 := w) w.heap.size rfl (.tmp 14) (.tmp 19) 119 5 (.int .u8 0) 1 rfl Try.underlying119 info5 rfl (by decide) (by omega) u5 x5_1 t501 [.int .u8 t501] (fun _ => True) (fun _ => False) rfl rfl ?aP (fun _ hk => hk.elim) ?aF ?aO ?aB ?aS ?aL ?_; (case aP => exact rfl); (case aB => exact (by repeat (first | (with_reducible first | exact HB.out | apply below_alloc | apply pw_below_drewN | apply below_drew1 | refine below_set ?_ GE496.out | refine below_set ?_ GE497.out) | exact HB.out))); (case aF => exact (fun _ _ => trivial)); (case aO => exact (by (with_reducible repeat (first | apply Kd.R_alloc | apply Kd.R_drewN | apply Kd.R_drew)); exact HO_5.out)); (case aS => exact (below_size (by repeat (first | (with_reducible first | exact HB.out | apply below_alloc | apply pw_below_drewN | apply below_drew1 | refine below_set ?_ GE496.out | refine below_set ?_ GE497.out) | exact HB.out)))); (case aL => have := LMc9.out; omega); intro v503 w14 ho hb hg hat; rw [← Ny502.out] at ho; have n0_ := Aside0.mk (blk_grown (g := gb496) (o := .cells #[.slice A0_0 l0_0.length c0_0] 26 (0, 0)) (by (with_reducible repeat (first | refine blk_drewN ?_ _ | refine blk_drew ?_ | refine blk_alloc ?_ _)); exact BK496.out) hg (Kd.R_ne HO_5.out BK496.out (by decide))); have n1_ := Aside0.mk (blk_grown (g := gb497) (o := .cells #[.int .i64 a1_0, .int .i64 a1_1, .int .i64 a1_2, .int .i64 a1_3] 48 (0, 0)) (by (with_reducible repeat (first | refine blk_drewN ?_ _ | refine blk_drew ?_ | refine blk_alloc ?_ _)); exact BK497.out) hg (Kd.R_ne HO_5.out BK497.out (by decide))); have n2_ := Aside0.mk (hb); have n3_ := Aside0.mk (ho); clear BK496; clear BK497; clear HB; clear HO_5; have BK496 := n0_; have BK497 := n1_; have HB := n2_; have HO504 := n3_; clear n0_ n1_ n2_ n3_; clear ho hb hg hat))
          go_roundg k1
          case measure => have := HK1.out; omega
          case rel => exact ⟨(y502), (wrap64 (x6_1 + 1)), (by first | rfl | (simp; done) | (simp [*]; done)), H', ⟨by have := HK1.out; omega⟩, ⟨by (with_reducible repeat (first | apply Kd.R_alloc | apply Kd.R_drewN | apply Kd.R_drew)); exact HO504.out⟩, ⟨by (with_reducible repeat (first | refine blk_drewN ?_ _ | refine blk_drew ?_ | refine blk_alloc ?_ _)); exact BK496.out⟩, ⟨by (with_reducible repeat (first | refine blk_drewN ?_ _ | refine blk_drew ?_ | refine blk_alloc ?_ _)); exact BK497.out⟩, ⟨by repeat (first | (with_reducible first | exact HB.out | apply below_alloc | apply pw_below_drewN | apply below_drew1 | refine below_set ?_ GE496.out | refine below_set ?_ GE497.out) | exact HB.out)⟩⟩
        · rw [if_neg c9] at H
          exact absurd H (by simp)
      · rw [if_neg c7] at H
        have c7b0 : decide (x6_1 < a1_2) = false := decide_eq_false c7
        clear c7
        obtain rfl := Option.some.inj H
        have hnb15 := NB497_496.out
        have hnc15 := NB496_497.out
        have hcz16_0 : wr.cell? ⟨gb497, 0, none⟩ = some (.int .i64 a1_0) := (blk_cell BK497.out 0).trans rfl
        have hcz16_1 : wr.cell? ⟨gb497, 1, none⟩ = some (.int .i64 a1_1) := (blk_cell BK497.out 1).trans rfl
        have hcz16_2 : wr.cell? ⟨gb497, 2, none⟩ = some (.int .i64 a1_2) := (blk_cell BK497.out 2).trans rfl
        have hcz16_3 : wr.cell? ⟨gb497, 3, none⟩ = some (.int .i64 a1_3) := (blk_cell BK497.out 3).trans rfl
        have hfz16_0 := blk_frozen BK497.out 0
        have hfz16_1 := blk_frozen BK497.out 1
        have hfz16_2 := blk_frozen BK497.out 2
        have hfz16_3 := blk_frozen BK497.out 3
        go_wp2
        go_ret
        exact ⟨_, by first | rfl | (simp [errW_none, errW_some] <;> rfl) | (simp [*, errW_none, errW_some] <;> rfl), by (with_reducible repeat (first | apply Kd.R_alloc | apply Kd.R_drewN | apply Kd.R_drew)); exact HO_5.out, by repeat (first | (with_reducible first | exact HB.out | apply below_alloc | apply pw_below_drewN | apply below_drew1 | refine below_set ?_ GE496.out | refine below_set ?_ GE497.out) | exact HB.out)⟩

end Go.Proofs.Ytoomjghabiojkaa.P


/- What the reference reads of a window and writes into it. -/
namespace Go.Proofs.Ytoomjghabiojkaa.P
open Go.RowKit Go.Proofs.YtoomjghabiojkaaW.PrintWords
set_option linter.unusedVariables false
set_option linter.unusedSimpArgs false
def spl (row : List Int) (off : Nat) (vs : List Int) : List Int := row.take off ++ (vs ++ row.drop (off + vs.length))
theorem spl_length (row : List Int) (off : Nat) (vs : List Int) (h : off + vs.length ≤ row.length) : (spl row off vs).length = row.length := by
  simp [spl]
  omega
theorem spl_nil (row : List Int) (off : Nat) : spl row off [] = row := by simp [spl]
theorem spl_snoc (row : List Int) (off : Nat) (pre : List Int) (x : Int) (h : off + pre.length < row.length) : (spl row off pre).set (off + pre.length) x = spl row off (pre ++ [x]) := by
  unfold spl
  have h1 : (row.take off).length = off := by simp; omega
  rw [List.set_append_right _ _ (by rw [h1]; omega), h1, Nat.add_sub_cancel_left, List.set_append_right _ _ (Nat.le_refl _), Nat.sub_self]
  have h2 : row.drop (off + pre.length) = row[off + pre.length] :: row.drop (off + pre.length + 1) := List.drop_eq_getElem_cons h
  rw [h2]
  simp [List.append_assoc, Nat.add_assoc]
theorem l2Write_ev (m : List (List Int)) (a s n c at_ : Int) (h0 : 0 ≤ a) (h1 : a < (m.length : Int)) (hs : 0 ≤ s) (hat : 0 ≤ at_) (hr : (rowB m a).length ≤ 64) (suf : List Int) : ∀ (pre : List Int), s + at_ + (pre ++ suf).length ≤ ((rowB m a).length : Int) →
    Ev (fun k => spec_l2Write.l0 k at_ (pre ++ suf) (pre.length : Int) a s n c (putRow m a (spl (rowB m a) (s.toNat + at_.toNat) pre))) (putRow m a (spl (rowB m a) (s.toNat + at_.toNat) (pre ++ suf))) := by
  induction suf with
  | nil =>
    intro pre hl
    refine Ev.step (fun k => ?_) (Ev.now _)
    simp only [spec_l2Write.l0]
    rw [if_neg (by simp)]
    simp
  | cons x suf ih =>
    intro pre hl
    simp only [List.length_append, List.length_cons] at hl
    refine Ev.step (f := fun k => spec_l2Write.l0 k at_ ((pre ++ [x]) ++ suf) ((pre ++ [x]).length : Int) a s n c (putRow m a (spl (rowB m a) (s.toNat + at_.toNat) (pre ++ [x])))) (fun k => ?_) ?_
    · simp only [spec_l2Write.l0]
      have hsl := spl_length (rowB m a) (s.toNat + at_.toNat) pre (by omega)
      have hrw : rd_Lsu8 (putRow m a (spl (rowB m a) (s.toNat + at_.toNat) pre)) a = spl (rowB m a) (s.toNat + at_.toNat) pre := rowB_put h0 h1
      have hw1 : wrap64 (s + at_) = s + at_ := wrap_ok (by omega) (by omega)
      have hw2 : wrap64 (s + at_ + (pre.length : Int)) = s + at_ + (pre.length : Int) := wrap_ok (by omega) (by omega)
      have hx : (s + at_ + (pre.length : Int)).toNat = s.toNat + at_.toNat + pre.length := by omega
      rw [if_pos (by simp; omega), if_pos h0, if_pos (by rw [putRow_length]; exact h1), if_pos (by omega), hw1, hw2, hrw, if_pos (by omega), if_pos (by rw [hsl]; omega), rd_mid, hx, spl_snoc _ _ _ _ (by omega), wrap_len (by omega)]
      have e1 : (putRow m a (spl (rowB m a) (s.toNat + at_.toNat) pre)).set a.toNat (spl (rowB m a) (s.toNat + at_.toNat) (pre ++ [x])) = putRow m a (spl (rowB m a) (s.toNat + at_.toNat) (pre ++ [x])) := putRow_put
      rw [e1]
      simp
    · have := ih (pre ++ [x]) (by simp; omega)
      simpa using this
theorem l2Write_f (m : List (List Int)) (a s n c at_ : Int) (vs : List Int) (h : okM m) (hw : WinOk m a s n c) (hat : 0 ≤ at_) (hl : at_ + vs.length ≤ c) : Ev (fun k => spec_l2Write.f k m a s n c at_ vs) (putRow m a (spl (rowB m a) (s.toNat + at_.toNat) vs)) := by
  have := hw.s1
  refine Ev.bind (l2Own_f m h) ?_
  have hx := l2Write_ev m a s n c at_ hw.a0 hw.a1 hw.s0 hat hw.r1 vs [] (by simp; omega)
  have e0 : putRow m a (spl (rowB m a) (s.toNat + at_.toNat) []) = m := by
    rw [spl_nil]
    unfold putRow rowB
    have h1 := hw.a1
    have h0 := hw.a0
    have h2 : a.toNat < m.length := by omega
    rw [List.getD_eq_getElem?_getD, List.getElem?_eq_getElem h2]
    exact List.set_getElem_self h2
  rw [e0] at hx
  simpa using hx
def seeB (m : List (List Int)) (a s n : Int) : List Int := ((rowB m a).drop s.toNat).take n.toNat
theorem seeB_length {m : List (List Int)} {a s n c : Int} (hw : WinOk m a s n c) : ((seeB m a s n).length : Int) = n := by
  have := hw.n0; have := hw.n1; have := hw.s0; have := hw.s1
  simp only [seeB, List.length_take, List.length_drop]
  omega
theorem l2At_f {m : List (List Int)} {a s n c : Int} (hw : WinOk m a s n c) (i : Nat) (hi : (i : Int) < n) : spec_l2At.f m a s n c (i : Int) = some ((seeB m a s n).getD i 0) := by
  have := hw.n0; have := hw.n1; have := hw.s0; have := hw.s1; have := hw.r1; have := hw.c1
  have hw1 : wrap64 (s + (i : Int)) = s + (i : Int) := wrap_ok (by omega) (by omega)
  have hx : (s + (i : Int)).toNat = s.toNat + i := by omega
  have he : rd_Lsu8 m a = rowB m a := rfl
  unfold spec_l2At.f rd
  rw [if_pos hw.a0, if_pos hw.a1, hw1, he, if_pos (by omega), if_pos (by omega), hx]
  congr 1
  simp only [seeB, List.getD_eq_getElem?_getD, List.getElem?_take, List.getElem?_drop]
  rw [if_pos (by omega)]
end Go.Proofs.Ytoomjghabiojkaa.P


/- The reference's bytes of a window. -/
namespace Go.Proofs.Ytoomjghabiojkaa.P
open Go.RowKit Go.Proofs.YtoomjghabiojkaaW.PrintWords
set_option linter.unusedVariables false
set_option linter.unusedSimpArgs false
theorem l2Bytes_ev {m : List (List Int)} {a s n c : Int} (hw : WinOk m a s n c) : ∀ (j i : Nat), i + j = n.toNat → Ev (fun k => spec_l2Bytes.l0 k ((seeB m a s n).take i) (i : Int) m a s n c) (seeB m a s n) := by
  have hn0 := hw.n0; have hn1 := hw.n1; have hc1 := hw.c1
  have hsl := seeB_length hw
  intro j
  induction j with
  | zero =>
    intro i hi
    refine Ev.step (fun k => ?_) (Ev.now _)
    simp only [spec_l2Bytes.l0]
    rw [if_neg (by omega), List.take_of_length_le (by omega)]
  | succ j ih =>
    intro i hi
    refine Ev.step (f := fun k => spec_l2Bytes.l0 k ((seeB m a s n).take (i + 1)) ((i + 1 : Nat) : Int) m a s n c) (fun k => ?_) (ih (i + 1) (by omega))
    simp only [spec_l2Bytes.l0]
    have hlt : i < (seeB m a s n).length := by omega
    rw [if_pos (by omega), l2At_f hw i (by omega), Option.bind_some, if_pos (by simp; omega), wrap_ok (by omega) (by omega), List.take_succ_eq_append_getElem hlt, List.getD_eq_getElem?_getD, List.getElem?_eq_getElem hlt]
    simp
theorem l2Bytes_f {m : List (List Int)} {a s n c : Int} (hw : WinOk m a s n c) : Ev (fun k => spec_l2Bytes.f k m a s n c) (seeB m a s n) := by
  have := l2Bytes_ev hw n.toNat 0 (by omega)
  simpa [spec_l2Bytes.f] using this
end Go.Proofs.Ytoomjghabiojkaa.P


/- What a window of an argument sees; copying into an open row. -/
namespace Go.Proofs.Ytoomjghabiojkaa.P
open Go.RowKit Go.Proofs.YtoomjghabiojkaaW.PrintWords Go.Proofs.YtoomjghabiojkaaW.PrintLast Go.Proofs.YtoomjghabiojkaaW.PrintMore Go.Proofs.YtoomjghabiojkaaW.Mine
set_option linter.unusedVariables false
set_option linter.unusedSimpArgs false
def Bytes (w : World) (X : Option Addr) (bs : List Int) : Prop := ∀ j, j < bs.length → ∃ b, X = some b ∧ w.cell? (b.add j) = some (.int .u8 (bs.getD j 0))
theorem Bytes.below {w w' : World} {X : Option Addr} {bs : List Int} (h : Bytes w X bs) (hb : Below w.heap.size w w') : Bytes w' X bs := by
  intro j hj
  obtain ⟨b, h1, h2⟩ := h j hj
  exact ⟨b, h1, (hb.cell (World.block_lt_of_cell? w _ h2)).trans h2⟩
theorem Bytes.cut {w : World} {X : Option Addr} {bs : List Int} (h : Bytes w X bs) (l k C : Nat) (hl : l + k ≤ bs.length) (hC : bs.length ≤ C) : Bytes w (cutA X l C) ((bs.drop l).take k) := by
  intro j hj
  have hj' : j < k := by simp at hj; omega
  obtain ⟨b, h1, h2⟩ := h (l + j) (by omega)
  unfold cutA
  rw [if_neg (by omega), h1]
  refine ⟨b.add l, rfl, ?_⟩
  have e1 : (b.add l).add j = b.add (l + j) := by
    unfold Addr.add
    by_cases z1 : l = 0 <;> by_cases z2 : j = 0 <;> simp [z1, z2, Nat.add_assoc]
  rw [e1, h2]
  congr 2
  simp [List.getD_eq_getElem?_getD, List.getElem?_take, List.getElem?_drop, hj']
theorem Bytes.take {w : World} {X : Option Addr} {bs : List Int} (h : Bytes w X bs) (k : Nat) : Bytes w X (bs.take k) := by
  intro j hj
  have hj' : j < k ∧ j < bs.length := by simp at hj; omega
  obtain ⟨b, h1, h2⟩ := h j hj'.2
  refine ⟨b, h1, h2.trans ?_⟩
  congr 2
  simp [List.getD_eq_getElem?_getD, List.getElem?_take, hj'.1]
theorem len_take {S : List Int} {n : Nat} (h : S.length = n) (k : Nat) : (S.take k).length = Nat.min n k := by rw [List.length_take, h]; exact Nat.min_comm _ _
theorem fit_take {S : List Int} {off k L : Nat} (h : off + k ≤ L) : off + (S.take k).length ≤ L := by simp; omega
theorem seg_len {row : List Int} {s n : Nat} (h : s + n ≤ row.length) : ((row.drop s).take n).length = n := by simp; omega
section
variable {e2 e lo hi n c i g cap base_ : Nat} {A : Option Addr} {m : List (List Int)} {row : List Int} {W w : World} {ts : List Th}
theorem copy_o (q : Nat) (h : Stk W ts w) (hq : ts[q]? = some (rowO 5 e W lo hi A n c m i g cap row)) {X Y : Option Addr} {off dLen dCap sLen sCap : Nat} {bs : List Int} (hX : Al X g off dLen) (hn : bs.length = Nat.min sLen dLen) (hfit : off + bs.length ≤ row.length) (hs : Bytes w Y bs) (ty : TypeId) :
    ∃ w', (Builtin.copy_ #[119, 119] ty #[.slice X dLen dCap, .slice Y sLen sCap]).run Try.prog w = .ok (goInt bs.length) w' ∧ Wrote (rowO 5 e W lo hi A n c m i g cap row) (rowO 5 e W lo hi A n c m i g cap (spl row off bs)) w w' := by
  have hu : Try.prog.underlying 119 = some (.slice 5) := by kernel_rfl
  have hz : (Try.prog.info? 5).map (·.size) = some 1 := by kernel_rfl
  by_cases h0 : bs.length = 0
  · obtain rfl : bs = [] := List.eq_nil_of_length_eq_zero h0
    refine ⟨w, run_copy_none (P := Try.prog) w _ _ ty _ X Y dLen dCap sLen sCap hu hz (by simpa using hn.symm), ?_⟩
    rw [spl_nil]
    exact ⟨Below.refl _ _, Nat.le_refl _, fun _ _ _ => rfl, rfl, rfl, fun w'' ha => RowO.agree (h.get q hq) ha⟩
  · obtain ⟨b, hY, _⟩ := hs 0 (by omega)
    have hX' : X = some ⟨g, off, none⟩ := hX.resolve_left (fun hz0 => h0 (by rw [hn, hz0]; exact Nat.min_eq_right (Nat.zero_le _)))
    subst hX' hY
    obtain ⟨g0, cur, _, _, _, _, h5⟩ := (show RowO 5 e W.heap.size lo hi A n c m i g cap row w from h.get q hq)
    have hh := h5.2.1
    have hsz : row.length ≤ cur.size := by have := h5.2.2.1; have := h5.2.2.2.2.1; omega
    have hrun := run_copy_row (P := Try.prog) w 119 119 ty 5 g off dLen dCap b sLen sCap cur 5 (bs.map (fun x => Value.int .u8 x)) hu hz hh (by simpa using hn) (fun j v hj => by
      rw [List.getElem?_map] at hj
      have hjl : j < bs.length := by
        rcases Nat.lt_or_ge j bs.length with h1 | h1
        · exact h1
        · rw [List.getElem?_eq_none h1] at hj; cases hj
      obtain ⟨b', hb', hc⟩ := hs j hjl
      cases hb'
      rw [hc, ← hj, List.getD_eq_getElem?_getD, List.getElem?_eq_getElem hjl]
      rfl) (by simp; omega) (by intro v hv; obtain ⟨x, _, rfl⟩ := List.mem_map.1 hv; rfl)
    rw [List.length_map] at hrun
    refine ⟨_, hrun, ?_⟩
    refine RowO.wrote q h hq (spl_length row off bs hfit) (below_setRow (Below.refl g w) (Nat.le_refl g) _) (by simp [World.setRow]) (fun k _ hk => setRow_other w g k _ hk) (fun cur0 hc0 _ ht => ?_)
    rw [hh] at hc0
    cases hc0
    refine ⟨_, setRow_heap w g _ _ _ _ hh, ?_, ?_⟩
    · simp
      omega
    · have e1 : ∀ (L : List Value) (M : List Int) (r : List Int), L.take r.length = r.map (fun x => Value.int .u8 x) → r.length ≤ L.length → off + M.length ≤ r.length → (L.take off ++ M.map (fun x => Value.int .u8 x) ++ L.drop (off + M.length)).take r.length = (spl r off M).map (fun x => Value.int .u8 x) := by
        intro L M r h1 h2 h3
        unfold spl
        rw [List.map_append, List.map_append, List.map_take, List.map_drop, ← h1, List.take_take, List.drop_take, List.append_assoc, List.take_append, List.take_append, Nat.min_eq_left (by omega), List.take_of_length_le (by simp; omega), List.take_of_length_le (l := M.map _) (by simp; omega)]
        simp only [List.length_take, List.length_map, Nat.min_eq_left (show off ≤ L.length by omega)]
        rw [Nat.sub_sub]
      exact e1 cur.toList bs row ht (by simpa using hsz) hfit
end
section
variable {ops : Array Oper} {evs : List EvT} {W : World} {base : List Th} {mods : List Md} {aF : (Nat → Lt) → Act} {X : Option Addr} {x y : Operand} {e lo hi n c i0 g cap : Nat} {A : Option Addr} {m : List (List Int)} {row : List Int}
theorem cp {i : Nat} {d : Option Tmp} {us : List Nat} {o : Oper} {off dLen dCap : Nat} {Y : (Nat → Lt) → Option Addr} {sLen sCap : (Nat → Lt) → Nat} {bs : List Int} (ho : ops.toList[i]? = some o) (q k : Nat) {um : List Nat} (hq : mods[q]? = some ⟨k, i, um, fun s => rowO 5 e W lo hi A n c m i0 g cap (spl row off bs)⟩) (hk : base[k]? = some (rowO 5 e W lo hi A n c m i0 g cap row))
    (hX : Al X g off dLen) (hn : ∀ s, bs.length = Nat.min (sLen s) dLen) (hfit : off + bs.length ≤ row.length) (hsrc : ∀ s w, Stk W (thU us s evs ++ [rowO 5 e W lo hi A n c m i0 g cap row]) w → Bytes w (Y s) bs)
    (hop : o.op = .call { callee := .builtin .copy, args := #[x, y], argTypes := #[119, 119] } := by rfl) (hx : ∀ s, (aF s).eval x = .slice X dLen dCap := by intro s; rfl) (hy : ∀ s, (aF s).eval y = .slice (Y s) (sLen s) (sCap s) := by intro s; rfl) (hd : o.dst = d := by rfl) (hw : ∀ s, Region.wanted o (yielded ops (aF s).tmps) = true := by intro s; rfl) :
    Sh Try.prog ops W base mods aF evs (evW i d us (fun s => .int .i64 (bs.length : Int))) := by
  refine ⟨fun s x => ⟨rfl, rfl, rfl⟩, ⟨o, by rw [← Array.getElem?_toList]; exact ho, fun _ _ => rfl, .inr ⟨q, _, _, hq, rfl, hk, fun s w hst => ⟨hw s, fun K hK => ?_⟩⟩⟩⟩
  obtain ⟨w', hrun, hwr⟩ := copy_o (thU us s evs).length hst (by rw [List.getElem?_append_right (Nat.le_refl _), Nat.sub_self]; rfl) (dCap := dCap) (sCap := sCap s) hX (hn s) hfit (hsrc s w hst) o.type
  unfold Oper.wp
  have he : (execOp (aF s).eval o).run Try.prog w = .ok (.value (goInt bs.length)) w' := by
    simp [execOp, hop, resolve, invoke, builtin, hx s, hy s, hrun, Result.andThen]
  rw [he]
  show K ((aF s).put o.dst _) w'
  rw [hd]
  exact hK.out w' hwr
end
end Go.Proofs.Ytoomjghabiojkaa.P


/- Operations one behind the other; writes into what stood ahead of the call: the base world is changed alike. -/
namespace Go.Proofs.YtoomjghabiojkaaW.Mine
open Go.RowKit Go.Proofs.YtoomjghabiojkaaW.PrintWords
set_option linter.unusedVariables false
set_option linter.unusedSimpArgs false
section
variable {P : Program} {ops : Array Oper} {Q : Exit → Act → World → Prop} {W W2 w w2 : World} {ts : List Th} {a : Act} {r : List Nat} {i : Nat} {o : Oper}
theorem Stk.rebase (h : Stk W ts w) (hs : W2.heap.size = W.heap.size) (ho : W2.os = W.os ∧ W2.tape = W.tape ∧ W2.output = W.output) (hs2 : w2.heap.size = w.heap.size) (ho2 : w2.os = w.os ∧ w2.tape = w.tape ∧ w2.output = w.output)
    (hk : ∀ k, k < W.heap.size → w2.heap[k]? = W2.heap[k]?) (hk2 : ∀ k, W.heap.size ≤ k → w2.heap[k]? = w.heap[k]?) : Stk W2 ts w2 := by
  refine ⟨⟨ho2.1.trans (h.hb.os.trans ho.1.symm), ho2.2.1.trans (h.hb.tape.trans ho.2.1.symm), ho2.2.2.trans (h.hb.output.trans ho.2.2.symm), ?_, fun k hkk => hk k (by rw [← hs]; exact hkk)⟩, fun t ht => ?_, h.ap⟩
  · rw [hs, hs2]; exact h.hb.size
  · have hm := h.all t ht
    exact ⟨by rw [hs]; exact hm.1, hm.2.move (Nat.le_of_eq hs2.symm) (fun k h1 _ => hk2 k (Nat.le_trans hm.1 h1))⟩
theorem Stk.setRowW (h : Stk W ts w) (g : Nat) (hg : g < W.heap.size) (cs : Array Value) : Stk (W.setRow g cs) ts (w.setRow g cs) := by
  have hgw : w.heap[g]? = W.heap[g]? := h.hb.block g hg
  refine h.rebase (by simp) ⟨rfl, rfl, rfl⟩ (by simp) ⟨rfl, rfl, rfl⟩ (fun k hk => ?_) (fun k hk => setRow_other w g k cs (by omega))
  by_cases e : k = g
  · subst e
    simp only [World.setRow, Array.getElem?_modify, if_true, hgw]
  · rw [setRow_other w g k cs e, setRow_other W g k cs e]
    exact h.hb.block k hk
theorem heap_size_setCell (w : World) (p : Addr) (u : Value) : (w.setCell p u).heap.size = w.heap.size := by simp [World.setCell]
theorem Stk.setCellW (h : Stk W ts w) (p : Addr) (hg : p.block < W.heap.size) (u : Value) : Stk (W.setCell p u) ts (w.setCell p u) := by
  have hgw : w.heap[p.block]? = W.heap[p.block]? := h.hb.block p.block hg
  refine h.rebase (heap_size_setCell _ _ _) ⟨rfl, rfl, rfl⟩ (heap_size_setCell _ _ _) ⟨rfl, rfl, rfl⟩ (fun k hk => ?_) (fun k hk => Below.heap_setCell w p u k (by omega))
  by_cases e : k = p.block
  · subst e
    simp only [World.setCell, Array.getElem?_modify, if_true, hgw]
  · rw [Below.heap_setCell w p u k e, Below.heap_setCell W p u k e]
    exact h.hb.block k hk
theorem Stk.putsW : ∀ (us : List Value) (W w : World) (h : Stk W ts w) (g off : Nat) (hg : g < W.heap.size), Stk (puts W g off us) ts (puts w g off us)
  | [], _, _, h, _, _, _ => h
  | u :: r, W, w, h, g, off, hg => Stk.putsW r _ _ (h.setCellW ⟨g, off, none⟩ hg u) g (off + 1) (by rw [heap_size_setCell]; exact hg)
theorem puts_other : ∀ (us : List Value) (w : World) {g off k : Nat}, k ≠ g → (puts w g off us).heap[k]? = w.heap[k]?
  | [], _, _, _, _, _ => rfl
  | u :: r, w, g, off, k, h => (puts_other r (w.setCell ⟨g, off, none⟩ u) h).trans (Below.heap_setCell w ⟨g, off, none⟩ u k h)
theorem size_puts : ∀ (us : List Value) (w : World) (g off : Nat), (puts w g off us).heap.size = w.heap.size
  | [], _, _, _ => rfl
  | u :: r, w, g, off => (size_puts r (w.setCell ⟨g, off, none⟩ u) g (off + 1)).trans (heap_size_setCell w _ u)
theorem tlRun (ho : ops.toList[i]? = some o) (hw : Region.wanted o (yielded ops a.tmps) = true) (h : Oper.wp P o a w (wpOps P ops Q r) Q) : wpOps P ops Q (i :: r) a w := by
  rw [Array.getElem?_toList] at ho
  rw [wpOps_cons]
  unfold wpOp
  rw [ho]
  simp only
  rw [if_pos hw]
  exact .inl h
theorem tlStoreOld (ho : ops.toList[i]? = some o) (hst : Stk W ts w) (g off : Nat) (us : List Value) (hg : g < W.heap.size) (hr : (execOp a.eval o).run P w = .ok .skip (puts w g off us)) (h : ∀ w', Stk (puts W g off us) ts w' → wpOps P ops Q r a w')
    (hd : o.dst = none := by rfl) (hw : Region.wanted o (yielded ops a.tmps) = true := by rfl) : wpOps P ops Q (i :: r) a w := by
  refine tlRun ho hw ?_
  unfold Oper.wp
  rw [hr]
  show wpOps P ops Q r (a.put o.dst undef) _
  rw [hd]
  exact h _ (Stk.putsW us W w hst g off hg)
theorem tlCall (d : Option Tmp) (ho : ops.toList[i]? = some o) {f : FuncId} {fn : Func} {ar : Array Operand} {tys : Array TypeId} (args : Array Value) (hf : P.funcs[f]? = some fn) {R : Ending → World → Prop} (hc : Calls P f args w R) (h : ∀ e w', R e w' → ∃ v, e = .returned v ∧ wpOps P ops Q r (a.put d v) w')
    (hop : o.op = .call { callee := .value (.func f), args := ar, argTypes := tys } := by rfl) (hd : o.dst = d := by rfl) (hname : (fn.name == "runtime.NumGoroutine") = false := by kernel_rfl) (hb : fn.body.isSome = true := by rfl)
    (hargs : ar.map a.eval = args := by simp only [List.map_toArray, List.map_cons, List.map_nil]; rfl) (hw : Region.wanted o (yielded ops a.tmps) = true := by rfl) : wpOps P ops Q (i :: r) a w := by
  refine tlRun ho hw ?_
  refine calls_wp hf hname hb hop hargs (hc.mono ?_)
  intro e w' hR
  obtain ⟨v, rfl, hx⟩ := h e w' hR
  exact ⟨v, rfl, by rw [hd]; exact hx⟩
theorem seqReg {id n : Nat} (l : List Nat) (hn : ops.size = n) (hl : List.range n = l) (h : wpOps P ops Q l a w) : (Code.region id ops false).wp P Q a w := by
  subst hl hn
  exact wp_region h
end
end Go.Proofs.YtoomjghabiojkaaW.Mine
namespace Go.Proofs.Ytoomjghabiojkaa.P
open Go.RowKit Go.Proofs.YtoomjghabiojkaaW.PrintWords Go.Proofs.YtoomjghabiojkaaW.Mine
set_option linter.unusedVariables false
set_option linter.unusedSimpArgs false
section
variable {ops : Array Oper} {Q : Exit → Act → World → Prop} {W w : World} {ts : List Th} {a : Act} {r : List Nat} {i : Nat} {o : Oper} {x y : Operand}
theorem run_copy_blk {e2 g off dLen dCap sLen sCap : Nat} {X Y : Option Addr} {row bs : List Int} {cur : Array Value} (he : e2 = 5) (hh : w.heap[g]? = some (.cells cur e2 (0, 0))) (hsz : row.length ≤ cur.size) (ht : cur.toList.take row.length = row.map (fun x => Value.int .u8 x))
    (hX : Al X g off dLen) (hn : bs.length = Nat.min sLen dLen) (hfit : off + bs.length ≤ row.length) (hs : Bytes w Y bs) (ty : TypeId) :
    ∃ cur', (Builtin.copy_ #[119, 119] ty #[.slice X dLen dCap, .slice Y sLen sCap]).run Try.prog w = .ok (goInt bs.length) (w.setRow g cur') ∧ cur'.size = cur.size ∧ cur'.toList.take row.length = (spl row off bs).map (fun x => Value.int .u8 x) := by
  subst he
  have hu : Try.prog.underlying 119 = some (.slice 5) := by kernel_rfl
  have hz : (Try.prog.info? 5).map (·.size) = some 1 := by kernel_rfl
  by_cases h0 : bs.length = 0
  · obtain rfl : bs = [] := List.eq_nil_of_length_eq_zero h0
    refine ⟨cur, ?_, rfl, by rw [spl_nil]; exact ht⟩
    rw [setRow_self w g cur _ _ hh]
    exact run_copy_none (P := Try.prog) w _ _ ty _ X Y dLen dCap sLen sCap hu hz (by simpa using hn.symm)
  · obtain ⟨b, hY, _⟩ := hs 0 (by omega)
    have hX' : X = some ⟨g, off, none⟩ := hX.resolve_left (fun hz0 => h0 (by rw [hn, hz0]; exact Nat.min_eq_right (Nat.zero_le _)))
    subst hX' hY
    have hrun := run_copy_row (P := Try.prog) w 119 119 ty 5 g off dLen dCap b sLen sCap cur 5 (bs.map (fun x => Value.int .u8 x)) hu hz hh (by simpa using hn) (fun j v hj => by
      rw [List.getElem?_map] at hj
      have hjl : j < bs.length := by
        rcases Nat.lt_or_ge j bs.length with h1 | h1
        · exact h1
        · rw [List.getElem?_eq_none h1] at hj; cases hj
      obtain ⟨b', hb', hc⟩ := hs j hjl
      cases hb'
      rw [hc, ← hj, List.getD_eq_getElem?_getD, List.getElem?_eq_getElem hjl]
      rfl) (by simp; omega) (by intro v hv; obtain ⟨x, _, rfl⟩ := List.mem_map.1 hv; rfl)
    rw [List.length_map] at hrun
    refine ⟨_, hrun, ?_, ?_⟩
    · simp
      omega
    · have e1 : ∀ (L : List Value) (M : List Int) (r : List Int), L.take r.length = r.map (fun x => Value.int .u8 x) → r.length ≤ L.length → off + M.length ≤ r.length → (L.take off ++ M.map (fun x => Value.int .u8 x) ++ L.drop (off + M.length)).take r.length = (spl r off M).map (fun x => Value.int .u8 x) := by
        intro L M r h1 h2 h3
        unfold spl
        rw [List.map_append, List.map_append, List.map_take, List.map_drop, ← h1, List.take_take, List.drop_take, List.append_assoc, List.take_append, List.take_append, Nat.min_eq_left (by omega), List.take_of_length_le (by simp; omega), List.take_of_length_le (l := M.map _) (by simp; omega)]
        simp only [List.length_take, List.length_map, Nat.min_eq_left (show off ≤ L.length by omega)]
        rw [Nat.sub_sub]
      exact e1 cur.toList bs row ht (by simpa using hsz) hfit
theorem bytes_blk {g e2 : Nat} {row : List Int} {cur : Array Value} (hh : w.heap[g]? = some (.cells cur e2 (0, 0))) (ht : cur.toList.take row.length = row.map (fun x => Value.int .u8 x)) {X : Option Addr} {off k : Nat} (hX : Al X g off k) (hk : off + k ≤ row.length) : Bytes w X ((row.drop off).take k) := by
  intro j hj
  have hj' : j < k := by simp at hj; omega
  refine ⟨⟨g, off, none⟩, hX.resolve_left (by omega), ?_⟩
  have e1 : (⟨g, off, none⟩ : Addr).add j = ⟨g, off + j, none⟩ := by
    unfold Addr.add
    by_cases z : j = 0 <;> simp [z]
  rw [e1, row_cell hh ht (off + j) (by omega)]
  congr 2
  simp [List.getD_eq_getElem?_getD, List.getElem?_take, List.getElem?_drop, hj']
theorem tlCopyOld (d : Option Tmp) (ho : ops.toList[i]? = some o) (hst : Stk W ts w) {g off dLen dCap sLen sCap : Nat} {X Y : Option Addr} {row bs : List Int} {cur : Array Value} (hh : W.heap[g]? = some (.cells cur 5 (0, 0))) (hsz : row.length ≤ cur.size) (ht : cur.toList.take row.length = row.map (fun x => Value.int .u8 x))
    (hX : Al X g off dLen) (hn : bs.length = Nat.min sLen dLen) (hfit : off + bs.length ≤ row.length) (hs : Bytes w Y bs) (h : ∀ cur' w', cur'.size = cur.size → cur'.toList.take row.length = (spl row off bs).map (fun x => Value.int .u8 x) → Stk (W.setRow g cur') ts w' → wpOps Try.prog ops Q r (a.put d (.int .i64 (bs.length : Int))) w')
    (hop : o.op = .call { callee := .builtin .copy, args := #[x, y], argTypes := #[119, 119] } := by rfl) (hx : a.eval x = .slice X dLen dCap := by rfl) (hy : a.eval y = .slice Y sLen sCap := by rfl) (hd : o.dst = d := by rfl) (hw : Region.wanted o (yielded ops a.tmps) = true := by rfl) : wpOps Try.prog ops Q (i :: r) a w := by
  have hg := blk_lt hh
  obtain ⟨cur', hrun, h1, h2⟩ := run_copy_blk (w := w) (dCap := dCap) (sCap := sCap) rfl ((hst.hb.block g hg).trans hh) hsz ht hX hn hfit hs o.type
  refine tlRun ho hw ?_
  unfold Oper.wp
  have he : (execOp a.eval o).run Try.prog w = .ok (.value (goInt bs.length)) (w.setRow g cur') := by
    simp [execOp, hop, resolve, invoke, builtin, hx, hy, hrun, Result.andThen]
  rw [he]
  show wpOps Try.prog ops Q r (a.put o.dst _) _
  rw [hd]
  exact h cur' _ h1 h2 (hst.setRowW g hg cur')
end
section
variable {ops : Array Oper} {evs : List EvT} {W : World} {base : List Th} {mods : List Md} {aF : (Nat → Lt) → Act} {x y : Operand}
end
end Go.Proofs.Ytoomjghabiojkaa.P


-- written by wip/gen_fn.py
namespace Go.Proofs.Ytoomjghabiojkaa.P
open Go.RowKit Go.Proofs.YtoomjghabiojkaaW.PrintWords Go.Proofs.YtoomjghabiojkaaW.PrintLast Go.Proofs.YtoomjghabiojkaaW.PrintMore Go.Proofs.YtoomjghabiojkaaW.Mine
open List (setIfInBounds_toArray set_cons_zero set_cons_succ)
attribute [local go_sem] max2_int min2_int max_two min_two max_three min_three max_four min_four
set_option linter.unusedVariables false
set_option linter.unusedSimpArgs false
set_option maxHeartbeats 8000000 in
set_option maxRecDepth 100000 in
theorem impl_Gap_move_w0 (a0_0 : Int) (bp0 g0 gr cap mc : Nat) (cur : Array Value) (mp : List (List Int)) (row : List Int) (y0 : Int) (y1 : Int) (y2 : Int) (y3 : Int) (y4 : Int) (y5 : Int) (w : World) (hbxbp0 : bx bp0 #[.slice (some ⟨g0, 0, none⟩) mp.length mc, .int .i64 y0, .int .i64 y1, .int .i64 y2, .int .i64 y3, .int .i64 y4, .int .i64 y5] 69 w) (hnebp0 : bp0 ≠ gr) (hcell : w.cell? ⟨g0, y0.toNat, none⟩ = some (.slice (some ⟨gr, 0, none⟩) row.length cap)) (hrow : w.heap[gr]? = some (.cells cur 5 (0, 0))) (hle : row.length ≤ cap) (hcs : cur.size = cap) (htk : cur.toList.take row.length = row.map (fun x => Value.int .u8 x)) (T0 : (decide (a0_0 - y4 < 0)) = true) (F0 : 0 ≤ y0) (F1 : y0 < (mp.length : Int)) (F2 : 0 ≤ y1) (F3 : 0 ≤ y2) (F4 : y2 ≤ 64) (F5 : y1 + y2 ≤ (row.length : Int)) (F6 : row.length ≤ 64) (F7 : 0 ≤ y4) (F8 : y4 ≤ y5) (F9 : y5 ≤ y2) (F10 : 0 ≤ a0_0) (F11 : a0_0 < y4) (F12 : 0 ≤ a0_0) :
    Calls Try.prog 103 #[.pointer (some ⟨bp0, 0, none⟩), .int .i64 a0_0] w fun e w' => e = .returned (.int .i64 (mx (a0_0 - y4) (wrap64 (-(a0_0 - y4))))) ∧ ∃ cur_ : Array Value, cur_.size = cur.size ∧ cur_.toList.take row.length = (spl row (y1.toNat + ((y5 + (a0_0 - y4)).toNat)) (((row.drop (y1.toNat + a0_0.toNat)).take (y4.toNat - a0_0.toNat)).take (y2.toNat - ((y5 + (a0_0 - y4)).toNat)))).map (fun x => Value.int .u8 x) ∧ Below w.heap.size (puts (puts (w.setRow gr cur_) bp0 5 [.int .i64 a0_0]) bp0 6 [.int .i64 (y5 + (a0_0 - y4))]) w' := by
  have HXbp0 := Aside0.mk hbxbp0; have HNEbp0 := Aside0.mk hnebp0; have HCELL := Aside0.mk hcell; have HROW := Aside0.mk hrow; have HTK := Aside0.mk htk; clear hbxbp0 hnebp0 hcell hrow htk
  have Hbp0 := Aside0.mk (fun j u (hj : (#[.slice (some ⟨g0, 0, none⟩) mp.length mc, .int .i64 y0, .int .i64 y1, .int .i64 y2, .int .i64 y3, .int .i64 y4, .int .i64 y5] : Array Value)[j]? = some u) => (blk_cell HXbp0.out j).trans hj)
  have T0_ := Aside0.mk T0; clear T0; have T0 := T0_; clear T0_
  have HS0 : Aside0 (Stk w [] w) := ⟨Stk.nil w⟩
  go_enter Try.func103, Try.ntmps103
  refine reg0 (aF := ?_) [] [0] false 1 rfl rfl (by kernel_rfl) rfl (fun _ => rfl) ?aF HS0.out ?hs ?_
  rotate_left 1
  case aF => intro s; simp only [putE, EvT.val, Act.put, setIfInBounds_toArray, set_cons_zero, set_cons_succ]; rfl
  case hs => exact trivial
  intro s1 w1 h; have HS1 := Aside0.mk h; clear h HS0
  refine tlP (v := .int .i64 0) 4 rfl ?_
  simp only [Act.put, setIfInBounds_toArray, set_cons_zero, set_cons_succ]
  refine tl0 ?_
  refine reg0 (aF := ?_) [evP 0 7 [] (fun s => .pointer (some ⟨bp0, 0, none⟩)), evP 1 8 [] (fun s => .pointer (some ⟨bp0, 0, none⟩)), evP 2 9 [] (fun s => .pointer (some ⟨bp0, 0, none⟩)), evL 3 10 [] (fun s => .agg #[.slice (some ⟨g0, 0, none⟩) mp.length mc]), evP 4 11 [] (fun s => .pointer (some ⟨bp0, 0, none⟩)), evP 5 12 [] (fun s => .pointer (some ⟨bp0, 0, none⟩)), evP 6 13 [] (fun s => .pointer (some ⟨bp0, 1, none⟩)), evL 7 14 [] (fun s => .agg #[.int .i64 y0, .int .i64 y1, .int .i64 y2, .int .i64 y3]), evC 8 (some 15) [] (fun s x => .slice (seenA gr y1 cap) y2.toNat (cap - y1.toNat)) (fun s x => []), evP 9 16 [] (fun s => .int .i64 a0_0), evP 10 17 [] (fun s => .pointer (some ⟨bp0, 0, none⟩)), evP 11 18 [] (fun s => .pointer (some ⟨bp0, 0, none⟩)), evP 12 19 [] (fun s => .pointer (some ⟨bp0, 5, none⟩)), evL 13 20 [] (fun s => .int .i64 y4), evP 14 21 [] (fun s => .int .i64 (a0_0 - y4)), evP 15 5 [] (fun s => .slice (seenA gr y1 cap) y2.toNat (cap - y1.toNat))] [16] true 17 rfl rfl (by kernel_rfl) rfl (fun _ => rfl) ?aF HS1.out ?hs ?_
  rotate_left 1
  case aF => intro s; simp only [putE, EvT.val, Act.put, setIfInBounds_toArray, set_cons_zero, set_cons_succ]; rfl
  case hs => exact ⟨pu rfl, pu rfl (hr := fun s w => by go_simp; try rfl), pu rfl (hr := fun s w => by go_simp; try rfl), lo rfl Hbp0.out (fun s w h => by have h0 := h 0 _ rfl; have h1 := h 1 _ rfl; have h2 := h 2 _ rfl; have h3 := h 3 _ rfl; have h4 := h 4 _ rfl; have h5 := h 5 _ rfl; have h6 := h 6 _ rfl; clear h; go_simp; try rfl), pu rfl, pu rfl (hr := fun s w => by go_simp; try rfl), pu rfl (hr := fun s w => by go_simp; try rfl), lo rfl Hbp0.out (fun s w h => by have h0 := h 0 _ rfl; have h1 := h 1 _ rfl; have h2 := h 2 _ rfl; have h3 := h 3 _ rfl; have h4 := h 4 _ rfl; have h5 := h 5 _ rfl; have h6 := h 6 _ rfl; clear h; go_simp; try rfl), cl rfl (fun s => #[.agg #[.slice (some ⟨g0, 0, none⟩) mp.length mc], .agg #[.int .i64 y0, .int .i64 y1, .int .i64 y2, .int .i64 y3]]) Try.func131 (fun s w1 h => (seen_c g0 _ _ y0 y1 y2 y3 gr row.length cap w1 ((h.hb.cell (World.block_lt_of_cell? w _ HCELL.out)).trans HCELL.out) (by omega) (by omega) (by omega) (by omega) (by omega) (by omega) (by omega)).mono (by rintro e w2 ⟨rfl, hb⟩; exact fin0 hb)), pu rfl, pu rfl, pu rfl (hr := fun s w => by go_simp; try rfl), pu rfl (hr := fun s w => by go_simp; try rfl), lo rfl Hbp0.out (fun s w h => by have h0 := h 0 _ rfl; have h1 := h 1 _ rfl; have h2 := h 2 _ rfl; have h3 := h 3 _ rfl; have h4 := h 4 _ rfl; have h5 := h 5 _ rfl; have h6 := h 6 _ rfl; clear h; go_simp; try rfl), pa .sub (r := a0_0 - y4) (.inr (.inl ⟨rfl, (i64_ok (n := a0_0 - y4) (by omega) (by omega))⟩)) rfl, pu rfl, trivial⟩
  intro s2 w2 h; have HS2 := Aside0.mk h; clear h HS1
  refine tlP (v := .int .i64 (a0_0 - y4)) 6 rfl ?_
  simp only [Act.put, setIfInBounds_toArray, set_cons_zero, set_cons_succ]
  refine tl0 ?_
  refine wp_seq ?_
  refine reg0 (aF := ?_) [evP 0 22 [] (fun s => .int .i64 (a0_0 - y4)), evP 1 23 [] (fun s => .bool true)] [] false 2 rfl rfl (by kernel_rfl) rfl (fun _ => rfl) ?aF HS2.out ?hs ?_
  rotate_left 1
  case aF => intro s; simp only [putE, EvT.val, Act.put, setIfInBounds_toArray, set_cons_zero, set_cons_succ]; rfl
  case hs => exact ⟨pu rfl, pb (q := .lss) T0.out rfl, trivial⟩
  intro s3 w3 h; have HS3 := Aside0.mk h; clear h HS2
  refine tl0 ?_
  refine wp_cond_true rfl ?_
  refine regL (aF := ?_) (nw := ?_) [evP 0 24 [] (fun s => .slice (seenA gr y1 cap) y2.toNat (cap - y1.toNat)), evP 1 25 [] (fun s => .pointer (some ⟨bp0, 0, none⟩)), evP 2 26 [] (fun s => .pointer (some ⟨bp0, 0, none⟩)), evP 3 27 [] (fun s => .pointer (some ⟨bp0, 6, none⟩)), evL 4 28 [] (fun s => .int .i64 y5), evP 5 29 [] (fun s => .int .i64 (a0_0 - y4)), evP 6 30 [] (fun s => .int .i64 (y5 + (a0_0 - y4))), evP 7 31 [] (fun s => .slice (cutA (seenA gr y1 cap) ((y5 + (a0_0 - y4)).toNat) (cap - y1.toNat)) (y2.toNat - ((y5 + (a0_0 - y4)).toNat)) ((cap - y1.toNat) - ((y5 + (a0_0 - y4)).toNat))), evP 8 32 [] (fun s => .slice (seenA gr y1 cap) y2.toNat (cap - y1.toNat)), evP 9 33 [] (fun s => .int .i64 a0_0), evP 10 34 [] (fun s => .pointer (some ⟨bp0, 0, none⟩)), evP 11 35 [] (fun s => .pointer (some ⟨bp0, 0, none⟩)), evP 12 36 [] (fun s => .pointer (some ⟨bp0, 5, none⟩)), evL 13 37 [] (fun s => .int .i64 y4), evP 14 38 [] (fun s => .slice (cutA (seenA gr y1 cap) a0_0.toNat (cap - y1.toNat)) (y4.toNat - a0_0.toNat) ((cap - y1.toNat) - a0_0.toNat))] [15] [] true 16 rfl rfl (by kernel_rfl) rfl (mf0) ?aF ?nw HS3.out ?hs ?_
  rotate_left 2
  case aF => intro s; simp only [putE, EvT.val, Act.put, setIfInBounds_toArray, set_cons_zero, set_cons_succ]; rfl
  case nw => intro s; simp only [thA, bsA, List.nil_append, List.cons_append, List.append_nil, if_true, if_false, Nat.reduceLT, set_cons_zero, set_cons_succ]; rfl
  case hs => exact ⟨pu rfl, pu rfl, pu rfl (hr := fun s w => by go_simp; try rfl), pu rfl (hr := fun s w => by go_simp; try rfl), lo rfl Hbp0.out (fun s w h => by have h0 := h 0 _ rfl; have h1 := h 1 _ rfl; have h2 := h 2 _ rfl; have h3 := h 3 _ rfl; have h4 := h 4 _ rfl; have h5 := h 5 _ rfl; have h6 := h 6 _ rfl; clear h; go_simp; try rfl), pu rfl, pa .add (r := y5 + (a0_0 - y4)) (.inl ⟨rfl, (i64_ok (n := y5 + (a0_0 - y4)) (by omega) (by omega))⟩) rfl, cl_ rfl (by omega) (by omega), pu rfl, pu rfl, pu rfl, pu rfl (hr := fun s w => by go_simp; try rfl), pu rfl (hr := fun s w => by go_simp; try rfl), lo rfl Hbp0.out (fun s w h => by have h0 := h 0 _ rfl; have h1 := h 1 _ rfl; have h2 := h 2 _ rfl; have h3 := h 3 _ rfl; have h4 := h 4 _ rfl; have h5 := h 5 _ rfl; have h6 := h 6 _ rfl; clear h; go_simp; try rfl), clh rfl (by omega) (by omega) (by omega), trivial⟩
  intro s4 w4 h; have HS4 := Aside0.mk h; clear h HS3
  refine tlCopyOld (some 39) rfl HS4.out (bs := (((row.drop (y1.toNat + a0_0.toNat)).take (y4.toNat - a0_0.toNat)).take (y2.toNat - ((y5 + (a0_0 - y4)).toNat)))) HROW.out (by omega) HTK.out (Al.cut (C := cap - y1.toNat) (al_seen (row := row) (cap := cap) (g := gr) y1 y2 (by omega) (by omega) (by omega)) ((y5 + (a0_0 - y4)).toNat) (y2.toNat - ((y5 + (a0_0 - y4)).toNat)) (by omega) (by omega)) (len_take (seg_len (by omega)) _) (fit_take (by omega)) ((bytes_blk ((HS4.out.hb.block _ (blk_lt HROW.out)).trans HROW.out) HTK.out (Al.cut (C := cap - y1.toNat) (al_seen (row := row) (cap := cap) (g := gr) y1 y2 (by omega) (by omega) (by omega)) a0_0.toNat (y4.toNat - a0_0.toNat) (by omega) (by omega)) (by omega)).take _) (fun cur3 wq3 hsz3 htk3 h => ?_)
  have HQ3 := Aside0.mk h; clear h HS4
  have HROW3 := Aside0.mk (setRow_heap w gr _ cur3 _ _ HROW.out); have HTK := Aside0.mk (show cur3.toList.take (spl row (y1.toNat + ((y5 + (a0_0 - y4)).toNat)) (((row.drop (y1.toNat + a0_0.toNat)).take (y4.toNat - a0_0.toNat)).take (y2.toNat - ((y5 + (a0_0 - y4)).toNat)))).length = (spl row (y1.toNat + ((y5 + (a0_0 - y4)).toNat)) (((row.drop (y1.toNat + a0_0.toNat)).take (y4.toNat - a0_0.toNat)).take (y2.toNat - ((y5 + (a0_0 - y4)).toNat)))).map (fun x => Value.int .u8 x) by rw [spl_length _ _ _ (fit_take (by omega))]; exact htk3)
  have := spl_length row (y1.toNat + ((y5 + (a0_0 - y4)).toNat)) (((row.drop (y1.toNat + a0_0.toNat)).take (y4.toNat - a0_0.toNat)).take (y2.toNat - ((y5 + (a0_0 - y4)).toNat))) (fit_take (by omega))
  have n_ := Aside0.mk ((setRow_other w gr bp0 cur3 HNEbp0.out).trans HXbp0.out); clear HXbp0 Hbp0; have HXbp0 : Aside0 (bx bp0 #[.slice (some ⟨g0, 0, none⟩) mp.length mc, .int .i64 y0, .int .i64 y1, .int .i64 y2, .int .i64 y3, .int .i64 y4, .int .i64 y5] 69 (w.setRow gr cur3)) := n_; clear n_
  have Hbp0 : Aside0 (∀ j u, (#[.slice (some ⟨g0, 0, none⟩) mp.length mc, .int .i64 y0, .int .i64 y1, .int .i64 y2, .int .i64 y3, .int .i64 y4, .int .i64 y5] : Array Value)[j]? = some u → (w.setRow gr cur3).cell? ⟨bp0, j, none⟩ = some u) := ⟨fun j u hj => (blk_cell HXbp0.out j).trans hj⟩
  simp only [Act.put, setIfInBounds_toArray, set_cons_zero, set_cons_succ]
  refine tlE ?_
  refine thN ?_
  refine wp_seq ?_
  refine seqReg [0, 1, 2, 3, 4, 5, 6, 7, 8, 9, 10, 11, 12, 13, 14] rfl rfl ?_
  refine tlP (v := .pointer (some ⟨bp0, 0, none⟩)) 59 rfl ?_
  simp only [Act.put, setIfInBounds_toArray, set_cons_zero, set_cons_succ]
  refine tlP (v := .pointer (some ⟨bp0, 0, none⟩)) 60 rfl ?_
  simp only [Act.put, setIfInBounds_toArray, set_cons_zero, set_cons_succ]
  refine tlP (v := .int .i64 a0_0) 61 rfl ?_
  simp only [Act.put, setIfInBounds_toArray, set_cons_zero, set_cons_succ]
  refine tlP (v := .pointer (some ⟨bp0, 0, none⟩)) 62 rfl ?_
  simp only [Act.put, setIfInBounds_toArray, set_cons_zero, set_cons_succ]
  refine tlP (v := .pointer (some ⟨bp0, 0, none⟩)) 63 (hr := by go_simp; try rfl) rfl ?_
  simp only [Act.put, setIfInBounds_toArray, set_cons_zero, set_cons_succ]
  refine tlP (v := .pointer (some ⟨bp0, 6, none⟩)) 64 (hr := by go_simp; try rfl) rfl ?_
  simp only [Act.put, setIfInBounds_toArray, set_cons_zero, set_cons_succ]
  have hb_ := (HQ3.out.hb.block _ (blk_lt HXbp0.out)).trans HXbp0.out
  have hc0_ : wq3.cell? ⟨bp0, 0, none⟩ = some (.slice (some ⟨g0, 0, none⟩) mp.length mc) := (blk_cell hb_ 0).trans rfl; have hf0_ := blk_frozen hb_ 0
  have hc1_ : wq3.cell? ⟨bp0, 1, none⟩ = some (.int .i64 y0) := (blk_cell hb_ 1).trans rfl; have hf1_ := blk_frozen hb_ 1
  have hc2_ : wq3.cell? ⟨bp0, 2, none⟩ = some (.int .i64 y1) := (blk_cell hb_ 2).trans rfl; have hf2_ := blk_frozen hb_ 2
  have hc3_ : wq3.cell? ⟨bp0, 3, none⟩ = some (.int .i64 y2) := (blk_cell hb_ 3).trans rfl; have hf3_ := blk_frozen hb_ 3
  have hc4_ : wq3.cell? ⟨bp0, 4, none⟩ = some (.int .i64 y3) := (blk_cell hb_ 4).trans rfl; have hf4_ := blk_frozen hb_ 4
  have hc5_ : wq3.cell? ⟨bp0, 5, none⟩ = some (.int .i64 y4) := (blk_cell hb_ 5).trans rfl; have hf5_ := blk_frozen hb_ 5
  have hc6_ : wq3.cell? ⟨bp0, 6, none⟩ = some (.int .i64 y5) := (blk_cell hb_ 6).trans rfl; have hf6_ := blk_frozen hb_ 6
  refine tlP (v := .int .i64 y5) 65 rfl ?_ (hr := by go_simp; try rfl)
  clear hc0_ hf0_ hc1_ hf1_ hc2_ hf2_ hc3_ hf3_ hc4_ hf4_ hc5_ hf5_ hc6_ hf6_
  clear hb_
  simp only [Act.put, setIfInBounds_toArray, set_cons_zero, set_cons_succ]
  refine tlP (v := .int .i64 (a0_0 - y4)) 66 rfl ?_
  simp only [Act.put, setIfInBounds_toArray, set_cons_zero, set_cons_succ]
  refine tlP (v := .int .i64 (y5 + (a0_0 - y4))) 67 rfl ?_ (hr := run_arith (q := .add) (k := .i64) (m := y5) (n := a0_0 - y4) (r := y5 + (a0_0 - y4)) rfl rfl rfl (.inl ⟨rfl, (i64_ok (n := y5 + (a0_0 - y4)) (by omega) (by omega))⟩))
  simp only [Act.put, setIfInBounds_toArray, set_cons_zero, set_cons_succ]
  refine tlP (v := .pointer (some ⟨bp0, 0, none⟩)) 68 (hr := by go_simp; try rfl) rfl ?_
  simp only [Act.put, setIfInBounds_toArray, set_cons_zero, set_cons_succ]
  refine tlP (v := .pointer (some ⟨bp0, 5, none⟩)) 69 (hr := by go_simp; try rfl) rfl ?_
  simp only [Act.put, setIfInBounds_toArray, set_cons_zero, set_cons_succ]
  have hb_ := (HQ3.out.hb.block _ (blk_lt HXbp0.out)).trans HXbp0.out
  have hc0_ : wq3.cell? ⟨bp0, 0, none⟩ = some (.slice (some ⟨g0, 0, none⟩) mp.length mc) := (blk_cell hb_ 0).trans rfl; have hf0_ := blk_frozen hb_ 0
  have hc1_ : wq3.cell? ⟨bp0, 1, none⟩ = some (.int .i64 y0) := (blk_cell hb_ 1).trans rfl; have hf1_ := blk_frozen hb_ 1
  have hc2_ : wq3.cell? ⟨bp0, 2, none⟩ = some (.int .i64 y1) := (blk_cell hb_ 2).trans rfl; have hf2_ := blk_frozen hb_ 2
  have hc3_ : wq3.cell? ⟨bp0, 3, none⟩ = some (.int .i64 y2) := (blk_cell hb_ 3).trans rfl; have hf3_ := blk_frozen hb_ 3
  have hc4_ : wq3.cell? ⟨bp0, 4, none⟩ = some (.int .i64 y3) := (blk_cell hb_ 4).trans rfl; have hf4_ := blk_frozen hb_ 4
  have hc5_ : wq3.cell? ⟨bp0, 5, none⟩ = some (.int .i64 y4) := (blk_cell hb_ 5).trans rfl; have hf5_ := blk_frozen hb_ 5
  have hc6_ : wq3.cell? ⟨bp0, 6, none⟩ = some (.int .i64 y5) := (blk_cell hb_ 6).trans rfl; have hf6_ := blk_frozen hb_ 6
  refine tlStoreOld rfl HQ3.out bp0 5 [.int .i64 a0_0] (blk_lt HXbp0.out) (by go_simp; try rfl) (fun wq15 h => ?_)
  clear hc0_ hf0_ hc1_ hf1_ hc2_ hf2_ hc3_ hf3_ hc4_ hf4_ hc5_ hf5_ hc6_ hf6_
  have HQ15 := Aside0.mk h; clear h hb_ HQ3
  have n_ := Aside0.mk ((wrote_puts [.int .i64 a0_0] 5 _ _ HXbp0.out).is _ (Agree.refl _ _ _)); clear HXbp0 Hbp0; have HXbp0 : Aside0 (bx bp0 #[.slice (some ⟨g0, 0, none⟩) mp.length mc, .int .i64 y0, .int .i64 y1, .int .i64 y2, .int .i64 y3, .int .i64 a0_0, .int .i64 y5] 69 (puts (w.setRow gr cur3) bp0 5 [.int .i64 a0_0])) := n_; clear n_
  have Hbp0 : Aside0 (∀ j u, (#[.slice (some ⟨g0, 0, none⟩) mp.length mc, .int .i64 y0, .int .i64 y1, .int .i64 y2, .int .i64 y3, .int .i64 a0_0, .int .i64 y5] : Array Value)[j]? = some u → (puts (w.setRow gr cur3) bp0 5 [.int .i64 a0_0]).cell? ⟨bp0, j, none⟩ = some u) := ⟨fun j u hj => (blk_cell HXbp0.out j).trans hj⟩
  have HROW15 : Aside0 ((puts (w.setRow gr cur3) bp0 5 [.int .i64 a0_0]).heap[gr]? = some (.cells cur3 5 (0, 0))) := ⟨(puts_other _ _ (Ne.symm HNEbp0.out)).trans HROW3.out⟩
  refine tlP (v := .pointer (some ⟨bp0, 0, none⟩)) 70 (hr := by go_simp; try rfl) rfl ?_
  simp only [Act.put, setIfInBounds_toArray, set_cons_zero, set_cons_succ]
  refine tlP (v := .pointer (some ⟨bp0, 6, none⟩)) 71 (hr := by go_simp; try rfl) rfl ?_
  simp only [Act.put, setIfInBounds_toArray, set_cons_zero, set_cons_succ]
  have hb_ := (HQ15.out.hb.block _ (blk_lt HXbp0.out)).trans HXbp0.out
  have hc0_ : wq15.cell? ⟨bp0, 0, none⟩ = some (.slice (some ⟨g0, 0, none⟩) mp.length mc) := (blk_cell hb_ 0).trans rfl; have hf0_ := blk_frozen hb_ 0
  have hc1_ : wq15.cell? ⟨bp0, 1, none⟩ = some (.int .i64 y0) := (blk_cell hb_ 1).trans rfl; have hf1_ := blk_frozen hb_ 1
  have hc2_ : wq15.cell? ⟨bp0, 2, none⟩ = some (.int .i64 y1) := (blk_cell hb_ 2).trans rfl; have hf2_ := blk_frozen hb_ 2
  have hc3_ : wq15.cell? ⟨bp0, 3, none⟩ = some (.int .i64 y2) := (blk_cell hb_ 3).trans rfl; have hf3_ := blk_frozen hb_ 3
  have hc4_ : wq15.cell? ⟨bp0, 4, none⟩ = some (.int .i64 y3) := (blk_cell hb_ 4).trans rfl; have hf4_ := blk_frozen hb_ 4
  have hc5_ : wq15.cell? ⟨bp0, 5, none⟩ = some (.int .i64 a0_0) := (blk_cell hb_ 5).trans rfl; have hf5_ := blk_frozen hb_ 5
  have hc6_ : wq15.cell? ⟨bp0, 6, none⟩ = some (.int .i64 y5) := (blk_cell hb_ 6).trans rfl; have hf6_ := blk_frozen hb_ 6
  refine tlStoreOld rfl HQ15.out bp0 6 [.int .i64 (y5 + (a0_0 - y4))] (blk_lt HXbp0.out) (by go_simp; try rfl) (fun wq18 h => ?_)
  clear hc0_ hf0_ hc1_ hf1_ hc2_ hf2_ hc3_ hf3_ hc4_ hf4_ hc5_ hf5_ hc6_ hf6_
  have HQ18 := Aside0.mk h; clear h hb_ HQ15
  have n_ := Aside0.mk ((wrote_puts [.int .i64 (y5 + (a0_0 - y4))] 6 _ _ HXbp0.out).is _ (Agree.refl _ _ _)); clear HXbp0 Hbp0; have HXbp0 : Aside0 (bx bp0 #[.slice (some ⟨g0, 0, none⟩) mp.length mc, .int .i64 y0, .int .i64 y1, .int .i64 y2, .int .i64 y3, .int .i64 a0_0, .int .i64 (y5 + (a0_0 - y4))] 69 (puts (puts (w.setRow gr cur3) bp0 5 [.int .i64 a0_0]) bp0 6 [.int .i64 (y5 + (a0_0 - y4))])) := n_; clear n_
  have Hbp0 : Aside0 (∀ j u, (#[.slice (some ⟨g0, 0, none⟩) mp.length mc, .int .i64 y0, .int .i64 y1, .int .i64 y2, .int .i64 y3, .int .i64 a0_0, .int .i64 (y5 + (a0_0 - y4))] : Array Value)[j]? = some u → (puts (puts (w.setRow gr cur3) bp0 5 [.int .i64 a0_0]) bp0 6 [.int .i64 (y5 + (a0_0 - y4))]).cell? ⟨bp0, j, none⟩ = some u) := ⟨fun j u hj => (blk_cell HXbp0.out j).trans hj⟩
  have HROW18 : Aside0 ((puts (puts (w.setRow gr cur3) bp0 5 [.int .i64 a0_0]) bp0 6 [.int .i64 (y5 + (a0_0 - y4))]).heap[gr]? = some (.cells cur3 5 (0, 0))) := ⟨(puts_other _ _ (Ne.symm HNEbp0.out)).trans HROW15.out⟩
  refine tl0 ?_
  refine reg0 (aF := ?_) [evP 0 72 [] (fun s => .int .i64 (a0_0 - y4)), evP 1 73 [] (fun s => .int .i64 (a0_0 - y4)), evP 2 74 [] (fun s => .int .i64 (wrap64 (-(a0_0 - y4)))), evP 3 75 [] (fun s => .int .i64 (mx (a0_0 - y4) (wrap64 (-(a0_0 - y4)))))] [4] false 5 rfl rfl (by kernel_rfl) rfl (fun _ => rfl) ?aF HQ18.out ?hs ?_
  rotate_left 1
  case aF => intro s; simp only [putE, EvT.val, Act.put, setIfInBounds_toArray, set_cons_zero, set_cons_succ]; rfl
  case hs => exact ⟨pu rfl, pu rfl, pu rfl (hr := fun s w => by go_simp; first | rfl | exact i64_w _), pu rfl (hr := fun s w => by go_simp; try rfl), trivial⟩
  intro s6 w6 h; have HS6 := Aside0.mk h; clear h HQ18
  refine tlP (v := .int .i64 (mx (a0_0 - y4) (wrap64 (-(a0_0 - y4))))) 4 rfl ?_
  simp only [Act.put, setIfInBounds_toArray, set_cons_zero, set_cons_succ]
  refine tl0 ?_
  refine wp_ret ?_
  go_ret
  exact ⟨by first | rfl | simp, cur3, hsz3, htk3, by have h_ := HS6.out.hb; simp only [size_puts, setRow_size] at h_; exact h_⟩
set_option maxHeartbeats 8000000 in
set_option maxRecDepth 100000 in
theorem impl_Gap_move_w1 (a0_0 : Int) (bp0 g0 gr cap mc : Nat) (cur : Array Value) (mp : List (List Int)) (row : List Int) (y0 : Int) (y1 : Int) (y2 : Int) (y3 : Int) (y4 : Int) (y5 : Int) (w : World) (hbxbp0 : bx bp0 #[.slice (some ⟨g0, 0, none⟩) mp.length mc, .int .i64 y0, .int .i64 y1, .int .i64 y2, .int .i64 y3, .int .i64 y4, .int .i64 y5] 69 w) (hnebp0 : bp0 ≠ gr) (hcell : w.cell? ⟨g0, y0.toNat, none⟩ = some (.slice (some ⟨gr, 0, none⟩) row.length cap)) (hrow : w.heap[gr]? = some (.cells cur 5 (0, 0))) (hle : row.length ≤ cap) (hcs : cur.size = cap) (htk : cur.toList.take row.length = row.map (fun x => Value.int .u8 x)) (T0 : (decide (a0_0 - y4 < 0)) = false) (F0 : 0 ≤ y0) (F1 : y0 < (mp.length : Int)) (F2 : 0 ≤ y1) (F3 : 0 ≤ y2) (F4 : y2 ≤ 64) (F5 : y1 + y2 ≤ (row.length : Int)) (F6 : row.length ≤ 64) (F7 : 0 ≤ y4) (F8 : y4 ≤ y5) (F9 : y5 ≤ y2) (F10 : y4 ≤ a0_0) (F11 : a0_0 + (y5 - y4) ≤ y2) :
    Calls Try.prog 103 #[.pointer (some ⟨bp0, 0, none⟩), .int .i64 a0_0] w fun e w' => e = .returned (.int .i64 (mx (a0_0 - y4) (wrap64 (-(a0_0 - y4))))) ∧ ∃ cur_ : Array Value, cur_.size = cur.size ∧ cur_.toList.take row.length = (spl row (y1.toNat + y4.toNat) (((row.drop (y1.toNat + y5.toNat)).take ((y5 + (a0_0 - y4)).toNat - y5.toNat)).take (y2.toNat - y4.toNat))).map (fun x => Value.int .u8 x) ∧ Below w.heap.size (puts (puts (w.setRow gr cur_) bp0 5 [.int .i64 a0_0]) bp0 6 [.int .i64 (y5 + (a0_0 - y4))]) w' := by
  have HXbp0 := Aside0.mk hbxbp0; have HNEbp0 := Aside0.mk hnebp0; have HCELL := Aside0.mk hcell; have HROW := Aside0.mk hrow; have HTK := Aside0.mk htk; clear hbxbp0 hnebp0 hcell hrow htk
  have Hbp0 := Aside0.mk (fun j u (hj : (#[.slice (some ⟨g0, 0, none⟩) mp.length mc, .int .i64 y0, .int .i64 y1, .int .i64 y2, .int .i64 y3, .int .i64 y4, .int .i64 y5] : Array Value)[j]? = some u) => (blk_cell HXbp0.out j).trans hj)
  have T0_ := Aside0.mk T0; clear T0; have T0 := T0_; clear T0_
  have HS0 : Aside0 (Stk w [] w) := ⟨Stk.nil w⟩
  go_enter Try.func103, Try.ntmps103
  refine reg0 (aF := ?_) [] [0] false 1 rfl rfl (by kernel_rfl) rfl (fun _ => rfl) ?aF HS0.out ?hs ?_
  rotate_left 1
  case aF => intro s; simp only [putE, EvT.val, Act.put, setIfInBounds_toArray, set_cons_zero, set_cons_succ]; rfl
  case hs => exact trivial
  intro s1 w1 h; have HS1 := Aside0.mk h; clear h HS0
  refine tlP (v := .int .i64 0) 4 rfl ?_
  simp only [Act.put, setIfInBounds_toArray, set_cons_zero, set_cons_succ]
  refine tl0 ?_
  refine reg0 (aF := ?_) [evP 0 7 [] (fun s => .pointer (some ⟨bp0, 0, none⟩)), evP 1 8 [] (fun s => .pointer (some ⟨bp0, 0, none⟩)), evP 2 9 [] (fun s => .pointer (some ⟨bp0, 0, none⟩)), evL 3 10 [] (fun s => .agg #[.slice (some ⟨g0, 0, none⟩) mp.length mc]), evP 4 11 [] (fun s => .pointer (some ⟨bp0, 0, none⟩)), evP 5 12 [] (fun s => .pointer (some ⟨bp0, 0, none⟩)), evP 6 13 [] (fun s => .pointer (some ⟨bp0, 1, none⟩)), evL 7 14 [] (fun s => .agg #[.int .i64 y0, .int .i64 y1, .int .i64 y2, .int .i64 y3]), evC 8 (some 15) [] (fun s x => .slice (seenA gr y1 cap) y2.toNat (cap - y1.toNat)) (fun s x => []), evP 9 16 [] (fun s => .int .i64 a0_0), evP 10 17 [] (fun s => .pointer (some ⟨bp0, 0, none⟩)), evP 11 18 [] (fun s => .pointer (some ⟨bp0, 0, none⟩)), evP 12 19 [] (fun s => .pointer (some ⟨bp0, 5, none⟩)), evL 13 20 [] (fun s => .int .i64 y4), evP 14 21 [] (fun s => .int .i64 (a0_0 - y4)), evP 15 5 [] (fun s => .slice (seenA gr y1 cap) y2.toNat (cap - y1.toNat))] [16] true 17 rfl rfl (by kernel_rfl) rfl (fun _ => rfl) ?aF HS1.out ?hs ?_
  rotate_left 1
  case aF => intro s; simp only [putE, EvT.val, Act.put, setIfInBounds_toArray, set_cons_zero, set_cons_succ]; rfl
  case hs => exact ⟨pu rfl, pu rfl (hr := fun s w => by go_simp; try rfl), pu rfl (hr := fun s w => by go_simp; try rfl), lo rfl Hbp0.out (fun s w h => by have h0 := h 0 _ rfl; have h1 := h 1 _ rfl; have h2 := h 2 _ rfl; have h3 := h 3 _ rfl; have h4 := h 4 _ rfl; have h5 := h 5 _ rfl; have h6 := h 6 _ rfl; clear h; go_simp; try rfl), pu rfl, pu rfl (hr := fun s w => by go_simp; try rfl), pu rfl (hr := fun s w => by go_simp; try rfl), lo rfl Hbp0.out (fun s w h => by have h0 := h 0 _ rfl; have h1 := h 1 _ rfl; have h2 := h 2 _ rfl; have h3 := h 3 _ rfl; have h4 := h 4 _ rfl; have h5 := h 5 _ rfl; have h6 := h 6 _ rfl; clear h; go_simp; try rfl), cl rfl (fun s => #[.agg #[.slice (some ⟨g0, 0, none⟩) mp.length mc], .agg #[.int .i64 y0, .int .i64 y1, .int .i64 y2, .int .i64 y3]]) Try.func131 (fun s w1 h => (seen_c g0 _ _ y0 y1 y2 y3 gr row.length cap w1 ((h.hb.cell (World.block_lt_of_cell? w _ HCELL.out)).trans HCELL.out) (by omega) (by omega) (by omega) (by omega) (by omega) (by omega) (by omega)).mono (by rintro e w2 ⟨rfl, hb⟩; exact fin0 hb)), pu rfl, pu rfl, pu rfl (hr := fun s w => by go_simp; try rfl), pu rfl (hr := fun s w => by go_simp; try rfl), lo rfl Hbp0.out (fun s w h => by have h0 := h 0 _ rfl; have h1 := h 1 _ rfl; have h2 := h 2 _ rfl; have h3 := h 3 _ rfl; have h4 := h 4 _ rfl; have h5 := h 5 _ rfl; have h6 := h 6 _ rfl; clear h; go_simp; try rfl), pa .sub (r := a0_0 - y4) (.inr (.inl ⟨rfl, (i64_ok (n := a0_0 - y4) (by omega) (by omega))⟩)) rfl, pu rfl, trivial⟩
  intro s2 w2 h; have HS2 := Aside0.mk h; clear h HS1
  refine tlP (v := .int .i64 (a0_0 - y4)) 6 rfl ?_
  simp only [Act.put, setIfInBounds_toArray, set_cons_zero, set_cons_succ]
  refine tl0 ?_
  refine wp_seq ?_
  refine reg0 (aF := ?_) [evP 0 22 [] (fun s => .int .i64 (a0_0 - y4)), evP 1 23 [] (fun s => .bool false)] [] false 2 rfl rfl (by kernel_rfl) rfl (fun _ => rfl) ?aF HS2.out ?hs ?_
  rotate_left 1
  case aF => intro s; simp only [putE, EvT.val, Act.put, setIfInBounds_toArray, set_cons_zero, set_cons_succ]; rfl
  case hs => exact ⟨pu rfl, pb (q := .lss) T0.out rfl, trivial⟩
  intro s3 w3 h; have HS3 := Aside0.mk h; clear h HS2
  refine tl0 ?_
  refine wp_cond_false rfl ?_
  refine regL (aF := ?_) (nw := ?_) [evP 0 40 [] (fun s => .slice (seenA gr y1 cap) y2.toNat (cap - y1.toNat)), evP 1 41 [] (fun s => .pointer (some ⟨bp0, 0, none⟩)), evP 2 42 [] (fun s => .pointer (some ⟨bp0, 0, none⟩)), evP 3 43 [] (fun s => .pointer (some ⟨bp0, 5, none⟩)), evL 4 44 [] (fun s => .int .i64 y4), evP 5 45 [] (fun s => .slice (cutA (seenA gr y1 cap) y4.toNat (cap - y1.toNat)) (y2.toNat - y4.toNat) ((cap - y1.toNat) - y4.toNat)), evP 6 46 [] (fun s => .slice (seenA gr y1 cap) y2.toNat (cap - y1.toNat)), evP 7 47 [] (fun s => .pointer (some ⟨bp0, 0, none⟩)), evP 8 48 [] (fun s => .pointer (some ⟨bp0, 0, none⟩)), evP 9 49 [] (fun s => .pointer (some ⟨bp0, 6, none⟩)), evL 10 50 [] (fun s => .int .i64 y5), evP 11 51 [] (fun s => .pointer (some ⟨bp0, 0, none⟩)), evP 12 52 [] (fun s => .pointer (some ⟨bp0, 0, none⟩)), evP 13 53 [] (fun s => .pointer (some ⟨bp0, 6, none⟩)), evL 14 54 [] (fun s => .int .i64 y5), evP 15 55 [] (fun s => .int .i64 (a0_0 - y4)), evP 16 56 [] (fun s => .int .i64 (y5 + (a0_0 - y4))), evP 17 57 [] (fun s => .slice (cutA (seenA gr y1 cap) y5.toNat (cap - y1.toNat)) ((y5 + (a0_0 - y4)).toNat - y5.toNat) ((cap - y1.toNat) - y5.toNat))] [18] [] true 19 rfl rfl (by kernel_rfl) rfl (mf0) ?aF ?nw HS3.out ?hs ?_
  rotate_left 2
  case aF => intro s; simp only [putE, EvT.val, Act.put, setIfInBounds_toArray, set_cons_zero, set_cons_succ]; rfl
  case nw => intro s; simp only [thA, bsA, List.nil_append, List.cons_append, List.append_nil, if_true, if_false, Nat.reduceLT, set_cons_zero, set_cons_succ]; rfl
  case hs => exact ⟨pu rfl, pu rfl, pu rfl (hr := fun s w => by go_simp; try rfl), pu rfl (hr := fun s w => by go_simp; try rfl), lo rfl Hbp0.out (fun s w h => by have h0 := h 0 _ rfl; have h1 := h 1 _ rfl; have h2 := h 2 _ rfl; have h3 := h 3 _ rfl; have h4 := h 4 _ rfl; have h5 := h 5 _ rfl; have h6 := h 6 _ rfl; clear h; go_simp; try rfl), cl_ rfl (by omega) (by omega), pu rfl, pu rfl, pu rfl (hr := fun s w => by go_simp; try rfl), pu rfl (hr := fun s w => by go_simp; try rfl), lo rfl Hbp0.out (fun s w h => by have h0 := h 0 _ rfl; have h1 := h 1 _ rfl; have h2 := h 2 _ rfl; have h3 := h 3 _ rfl; have h4 := h 4 _ rfl; have h5 := h 5 _ rfl; have h6 := h 6 _ rfl; clear h; go_simp; try rfl), pu rfl, pu rfl (hr := fun s w => by go_simp; try rfl), pu rfl (hr := fun s w => by go_simp; try rfl), lo rfl Hbp0.out (fun s w h => by have h0 := h 0 _ rfl; have h1 := h 1 _ rfl; have h2 := h 2 _ rfl; have h3 := h 3 _ rfl; have h4 := h 4 _ rfl; have h5 := h 5 _ rfl; have h6 := h 6 _ rfl; clear h; go_simp; try rfl), pu rfl, pa .add (r := y5 + (a0_0 - y4)) (.inl ⟨rfl, (i64_ok (n := y5 + (a0_0 - y4)) (by omega) (by omega))⟩) rfl, clh rfl (by omega) (by omega) (by omega), trivial⟩
  intro s4 w4 h; have HS4 := Aside0.mk h; clear h HS3
  refine tlCopyOld (some 58) rfl HS4.out (bs := (((row.drop (y1.toNat + y5.toNat)).take ((y5 + (a0_0 - y4)).toNat - y5.toNat)).take (y2.toNat - y4.toNat))) HROW.out (by omega) HTK.out (Al.cut (C := cap - y1.toNat) (al_seen (row := row) (cap := cap) (g := gr) y1 y2 (by omega) (by omega) (by omega)) y4.toNat (y2.toNat - y4.toNat) (by omega) (by omega)) (len_take (seg_len (by omega)) _) (fit_take (by omega)) ((bytes_blk ((HS4.out.hb.block _ (blk_lt HROW.out)).trans HROW.out) HTK.out (Al.cut (C := cap - y1.toNat) (al_seen (row := row) (cap := cap) (g := gr) y1 y2 (by omega) (by omega) (by omega)) y5.toNat ((y5 + (a0_0 - y4)).toNat - y5.toNat) (by omega) (by omega)) (by omega)).take _) (fun cur3 wq3 hsz3 htk3 h => ?_)
  have HQ3 := Aside0.mk h; clear h HS4
  have HROW3 := Aside0.mk (setRow_heap w gr _ cur3 _ _ HROW.out); have HTK := Aside0.mk (show cur3.toList.take (spl row (y1.toNat + y4.toNat) (((row.drop (y1.toNat + y5.toNat)).take ((y5 + (a0_0 - y4)).toNat - y5.toNat)).take (y2.toNat - y4.toNat))).length = (spl row (y1.toNat + y4.toNat) (((row.drop (y1.toNat + y5.toNat)).take ((y5 + (a0_0 - y4)).toNat - y5.toNat)).take (y2.toNat - y4.toNat))).map (fun x => Value.int .u8 x) by rw [spl_length _ _ _ (fit_take (by omega))]; exact htk3)
  have := spl_length row (y1.toNat + y4.toNat) (((row.drop (y1.toNat + y5.toNat)).take ((y5 + (a0_0 - y4)).toNat - y5.toNat)).take (y2.toNat - y4.toNat)) (fit_take (by omega))
  have n_ := Aside0.mk ((setRow_other w gr bp0 cur3 HNEbp0.out).trans HXbp0.out); clear HXbp0 Hbp0; have HXbp0 : Aside0 (bx bp0 #[.slice (some ⟨g0, 0, none⟩) mp.length mc, .int .i64 y0, .int .i64 y1, .int .i64 y2, .int .i64 y3, .int .i64 y4, .int .i64 y5] 69 (w.setRow gr cur3)) := n_; clear n_
  have Hbp0 : Aside0 (∀ j u, (#[.slice (some ⟨g0, 0, none⟩) mp.length mc, .int .i64 y0, .int .i64 y1, .int .i64 y2, .int .i64 y3, .int .i64 y4, .int .i64 y5] : Array Value)[j]? = some u → (w.setRow gr cur3).cell? ⟨bp0, j, none⟩ = some u) := ⟨fun j u hj => (blk_cell HXbp0.out j).trans hj⟩
  simp only [Act.put, setIfInBounds_toArray, set_cons_zero, set_cons_succ]
  refine tlE ?_
  refine thN ?_
  refine wp_seq ?_
  refine seqReg [0, 1, 2, 3, 4, 5, 6, 7, 8, 9, 10, 11, 12, 13, 14] rfl rfl ?_
  refine tlP (v := .pointer (some ⟨bp0, 0, none⟩)) 59 rfl ?_
  simp only [Act.put, setIfInBounds_toArray, set_cons_zero, set_cons_succ]
  refine tlP (v := .pointer (some ⟨bp0, 0, none⟩)) 60 rfl ?_
  simp only [Act.put, setIfInBounds_toArray, set_cons_zero, set_cons_succ]
  refine tlP (v := .int .i64 a0_0) 61 rfl ?_
  simp only [Act.put, setIfInBounds_toArray, set_cons_zero, set_cons_succ]
  refine tlP (v := .pointer (some ⟨bp0, 0, none⟩)) 62 rfl ?_
  simp only [Act.put, setIfInBounds_toArray, set_cons_zero, set_cons_succ]
  refine tlP (v := .pointer (some ⟨bp0, 0, none⟩)) 63 (hr := by go_simp; try rfl) rfl ?_
  simp only [Act.put, setIfInBounds_toArray, set_cons_zero, set_cons_succ]
  refine tlP (v := .pointer (some ⟨bp0, 6, none⟩)) 64 (hr := by go_simp; try rfl) rfl ?_
  simp only [Act.put, setIfInBounds_toArray, set_cons_zero, set_cons_succ]
  have hb_ := (HQ3.out.hb.block _ (blk_lt HXbp0.out)).trans HXbp0.out
  have hc0_ : wq3.cell? ⟨bp0, 0, none⟩ = some (.slice (some ⟨g0, 0, none⟩) mp.length mc) := (blk_cell hb_ 0).trans rfl; have hf0_ := blk_frozen hb_ 0
  have hc1_ : wq3.cell? ⟨bp0, 1, none⟩ = some (.int .i64 y0) := (blk_cell hb_ 1).trans rfl; have hf1_ := blk_frozen hb_ 1
  have hc2_ : wq3.cell? ⟨bp0, 2, none⟩ = some (.int .i64 y1) := (blk_cell hb_ 2).trans rfl; have hf2_ := blk_frozen hb_ 2
  have hc3_ : wq3.cell? ⟨bp0, 3, none⟩ = some (.int .i64 y2) := (blk_cell hb_ 3).trans rfl; have hf3_ := blk_frozen hb_ 3
  have hc4_ : wq3.cell? ⟨bp0, 4, none⟩ = some (.int .i64 y3) := (blk_cell hb_ 4).trans rfl; have hf4_ := blk_frozen hb_ 4
  have hc5_ : wq3.cell? ⟨bp0, 5, none⟩ = some (.int .i64 y4) := (blk_cell hb_ 5).trans rfl; have hf5_ := blk_frozen hb_ 5
  have hc6_ : wq3.cell? ⟨bp0, 6, none⟩ = some (.int .i64 y5) := (blk_cell hb_ 6).trans rfl; have hf6_ := blk_frozen hb_ 6
  refine tlP (v := .int .i64 y5) 65 rfl ?_ (hr := by go_simp; try rfl)
  clear hc0_ hf0_ hc1_ hf1_ hc2_ hf2_ hc3_ hf3_ hc4_ hf4_ hc5_ hf5_ hc6_ hf6_
  clear hb_
  simp only [Act.put, setIfInBounds_toArray, set_cons_zero, set_cons_succ]
  refine tlP (v := .int .i64 (a0_0 - y4)) 66 rfl ?_
  simp only [Act.put, setIfInBounds_toArray, set_cons_zero, set_cons_succ]
  refine tlP (v := .int .i64 (y5 + (a0_0 - y4))) 67 rfl ?_ (hr := run_arith (q := .add) (k := .i64) (m := y5) (n := a0_0 - y4) (r := y5 + (a0_0 - y4)) rfl rfl rfl (.inl ⟨rfl, (i64_ok (n := y5 + (a0_0 - y4)) (by omega) (by omega))⟩))
  simp only [Act.put, setIfInBounds_toArray, set_cons_zero, set_cons_succ]
  refine tlP (v := .pointer (some ⟨bp0, 0, none⟩)) 68 (hr := by go_simp; try rfl) rfl ?_
  simp only [Act.put, setIfInBounds_toArray, set_cons_zero, set_cons_succ]
  refine tlP (v := .pointer (some ⟨bp0, 5, none⟩)) 69 (hr := by go_simp; try rfl) rfl ?_
  simp only [Act.put, setIfInBounds_toArray, set_cons_zero, set_cons_succ]
  have hb_ := (HQ3.out.hb.block _ (blk_lt HXbp0.out)).trans HXbp0.out
  have hc0_ : wq3.cell? ⟨bp0, 0, none⟩ = some (.slice (some ⟨g0, 0, none⟩) mp.length mc) := (blk_cell hb_ 0).trans rfl; have hf0_ := blk_frozen hb_ 0
  have hc1_ : wq3.cell? ⟨bp0, 1, none⟩ = some (.int .i64 y0) := (blk_cell hb_ 1).trans rfl; have hf1_ := blk_frozen hb_ 1
  have hc2_ : wq3.cell? ⟨bp0, 2, none⟩ = some (.int .i64 y1) := (blk_cell hb_ 2).trans rfl; have hf2_ := blk_frozen hb_ 2
  have hc3_ : wq3.cell? ⟨bp0, 3, none⟩ = some (.int .i64 y2) := (blk_cell hb_ 3).trans rfl; have hf3_ := blk_frozen hb_ 3
  have hc4_ : wq3.cell? ⟨bp0, 4, none⟩ = some (.int .i64 y3) := (blk_cell hb_ 4).trans rfl; have hf4_ := blk_frozen hb_ 4
  have hc5_ : wq3.cell? ⟨bp0, 5, none⟩ = some (.int .i64 y4) := (blk_cell hb_ 5).trans rfl; have hf5_ := blk_frozen hb_ 5
  have hc6_ : wq3.cell? ⟨bp0, 6, none⟩ = some (.int .i64 y5) := (blk_cell hb_ 6).trans rfl; have hf6_ := blk_frozen hb_ 6
  refine tlStoreOld rfl HQ3.out bp0 5 [.int .i64 a0_0] (blk_lt HXbp0.out) (by go_simp; try rfl) (fun wq15 h => ?_)
  clear hc0_ hf0_ hc1_ hf1_ hc2_ hf2_ hc3_ hf3_ hc4_ hf4_ hc5_ hf5_ hc6_ hf6_
  have HQ15 := Aside0.mk h; clear h hb_ HQ3
  have n_ := Aside0.mk ((wrote_puts [.int .i64 a0_0] 5 _ _ HXbp0.out).is _ (Agree.refl _ _ _)); clear HXbp0 Hbp0; have HXbp0 : Aside0 (bx bp0 #[.slice (some ⟨g0, 0, none⟩) mp.length mc, .int .i64 y0, .int .i64 y1, .int .i64 y2, .int .i64 y3, .int .i64 a0_0, .int .i64 y5] 69 (puts (w.setRow gr cur3) bp0 5 [.int .i64 a0_0])) := n_; clear n_
  have Hbp0 : Aside0 (∀ j u, (#[.slice (some ⟨g0, 0, none⟩) mp.length mc, .int .i64 y0, .int .i64 y1, .int .i64 y2, .int .i64 y3, .int .i64 a0_0, .int .i64 y5] : Array Value)[j]? = some u → (puts (w.setRow gr cur3) bp0 5 [.int .i64 a0_0]).cell? ⟨bp0, j, none⟩ = some u) := ⟨fun j u hj => (blk_cell HXbp0.out j).trans hj⟩
  have HROW15 : Aside0 ((puts (w.setRow gr cur3) bp0 5 [.int .i64 a0_0]).heap[gr]? = some (.cells cur3 5 (0, 0))) := ⟨(puts_other _ _ (Ne.symm HNEbp0.out)).trans HROW3.out⟩
  refine tlP (v := .pointer (some ⟨bp0, 0, none⟩)) 70 (hr := by go_simp; try rfl) rfl ?_
  simp only [Act.put, setIfInBounds_toArray, set_cons_zero, set_cons_succ]
  refine tlP (v := .pointer (some ⟨bp0, 6, none⟩)) 71 (hr := by go_simp; try rfl) rfl ?_
  simp only [Act.put, setIfInBounds_toArray, set_cons_zero, set_cons_succ]
  have hb_ := (HQ15.out.hb.block _ (blk_lt HXbp0.out)).trans HXbp0.out
  have hc0_ : wq15.cell? ⟨bp0, 0, none⟩ = some (.slice (some ⟨g0, 0, none⟩) mp.length mc) := (blk_cell hb_ 0).trans rfl; have hf0_ := blk_frozen hb_ 0
  have hc1_ : wq15.cell? ⟨bp0, 1, none⟩ = some (.int .i64 y0) := (blk_cell hb_ 1).trans rfl; have hf1_ := blk_frozen hb_ 1
  have hc2_ : wq15.cell? ⟨bp0, 2, none⟩ = some (.int .i64 y1) := (blk_cell hb_ 2).trans rfl; have hf2_ := blk_frozen hb_ 2
  have hc3_ : wq15.cell? ⟨bp0, 3, none⟩ = some (.int .i64 y2) := (blk_cell hb_ 3).trans rfl; have hf3_ := blk_frozen hb_ 3
  have hc4_ : wq15.cell? ⟨bp0, 4, none⟩ = some (.int .i64 y3) := (blk_cell hb_ 4).trans rfl; have hf4_ := blk_frozen hb_ 4
  have hc5_ : wq15.cell? ⟨bp0, 5, none⟩ = some (.int .i64 a0_0) := (blk_cell hb_ 5).trans rfl; have hf5_ := blk_frozen hb_ 5
  have hc6_ : wq15.cell? ⟨bp0, 6, none⟩ = some (.int .i64 y5) := (blk_cell hb_ 6).trans rfl; have hf6_ := blk_frozen hb_ 6
  refine tlStoreOld rfl HQ15.out bp0 6 [.int .i64 (y5 + (a0_0 - y4))] (blk_lt HXbp0.out) (by go_simp; try rfl) (fun wq18 h => ?_)
  clear hc0_ hf0_ hc1_ hf1_ hc2_ hf2_ hc3_ hf3_ hc4_ hf4_ hc5_ hf5_ hc6_ hf6_
  have HQ18 := Aside0.mk h; clear h hb_ HQ15
  have n_ := Aside0.mk ((wrote_puts [.int .i64 (y5 + (a0_0 - y4))] 6 _ _ HXbp0.out).is _ (Agree.refl _ _ _)); clear HXbp0 Hbp0; have HXbp0 : Aside0 (bx bp0 #[.slice (some ⟨g0, 0, none⟩) mp.length mc, .int .i64 y0, .int .i64 y1, .int .i64 y2, .int .i64 y3, .int .i64 a0_0, .int .i64 (y5 + (a0_0 - y4))] 69 (puts (puts (w.setRow gr cur3) bp0 5 [.int .i64 a0_0]) bp0 6 [.int .i64 (y5 + (a0_0 - y4))])) := n_; clear n_
  have Hbp0 : Aside0 (∀ j u, (#[.slice (some ⟨g0, 0, none⟩) mp.length mc, .int .i64 y0, .int .i64 y1, .int .i64 y2, .int .i64 y3, .int .i64 a0_0, .int .i64 (y5 + (a0_0 - y4))] : Array Value)[j]? = some u → (puts (puts (w.setRow gr cur3) bp0 5 [.int .i64 a0_0]) bp0 6 [.int .i64 (y5 + (a0_0 - y4))]).cell? ⟨bp0, j, none⟩ = some u) := ⟨fun j u hj => (blk_cell HXbp0.out j).trans hj⟩
  have HROW18 : Aside0 ((puts (puts (w.setRow gr cur3) bp0 5 [.int .i64 a0_0]) bp0 6 [.int .i64 (y5 + (a0_0 - y4))]).heap[gr]? = some (.cells cur3 5 (0, 0))) := ⟨(puts_other _ _ (Ne.symm HNEbp0.out)).trans HROW15.out⟩
  refine tl0 ?_
  refine reg0 (aF := ?_) [evP 0 72 [] (fun s => .int .i64 (a0_0 - y4)), evP 1 73 [] (fun s => .int .i64 (a0_0 - y4)), evP 2 74 [] (fun s => .int .i64 (wrap64 (-(a0_0 - y4)))), evP 3 75 [] (fun s => .int .i64 (mx (a0_0 - y4) (wrap64 (-(a0_0 - y4)))))] [4] false 5 rfl rfl (by kernel_rfl) rfl (fun _ => rfl) ?aF HQ18.out ?hs ?_
  rotate_left 1
  case aF => intro s; simp only [putE, EvT.val, Act.put, setIfInBounds_toArray, set_cons_zero, set_cons_succ]; rfl
  case hs => exact ⟨pu rfl, pu rfl, pu rfl (hr := fun s w => by go_simp; first | rfl | exact i64_w _), pu rfl (hr := fun s w => by go_simp; try rfl), trivial⟩
  intro s6 w6 h; have HS6 := Aside0.mk h; clear h HQ18
  refine tlP (v := .int .i64 (mx (a0_0 - y4) (wrap64 (-(a0_0 - y4))))) 4 rfl ?_
  simp only [Act.put, setIfInBounds_toArray, set_cons_zero, set_cons_succ]
  refine tl0 ?_
  refine wp_ret ?_
  go_ret
  exact ⟨by first | rfl | simp, cur3, hsz3, htk3, by have h_ := HS6.out.hb; simp only [size_puts, setRow_size] at h_; exact h_⟩
end Go.Proofs.Ytoomjghabiojkaa.P


/- (*Gap).move: what it does to the gap's box and rows; a call that changes a box and a row of its caller's. -/
namespace Go.Proofs.YtoomjghabiojkaaW.Mine
open Go.RowKit Go.Proofs.YtoomjghabiojkaaW.PrintWords
set_option linter.unusedVariables false
section
variable {W w w' : World} {ts : List Th}
theorem Stk.apartOf (h : Stk W ts w) (i j : Nat) (hij : i ≠ j) {t u : Th} (hi : ts[i]? = some t) (hj : ts[j]? = some u) : Th.apart t u := by
  obtain ⟨h1, e1⟩ := List.getElem?_eq_some_iff.1 hi
  obtain ⟨h2, e2⟩ := List.getElem?_eq_some_iff.1 hj
  have hap := List.pairwise_iff_getElem.1 h.ap
  rw [← e1, ← e2]
  rcases Nat.lt_or_gt_of_ne hij with hlt | hlt
  · exact hap i j h1 h2 hlt
  · exact (hap j i h2 h1 hlt).symm
theorem Stk.step2 (h : Stk W ts w) (i j : Nat) (hij : i ≠ j) {g t lo hi : Nat} {cs cs2 : Array Value} {P P2 : World → Prop} (hi' : ts[i]? = some (boxT g cs t)) (hj : ts[j]? = some ⟨lo, hi, P⟩) (ho : w'.os = w.os ∧ w'.tape = w.tape ∧ w'.output = w.output) (hK : Kept w w' (fun k => (lo ≤ k ∧ k < hi) ∨ k = g)) (hb : bx g cs2 t w') (hP : ∀ w'', Agree lo hi w' w'' → P2 w'') :
    Stk W ((ts.set i (boxT g cs2 t)).set j ⟨lo, hi, P2⟩) w' := by
  have hmi := h.all _ (List.mem_of_getElem? hi')
  have hmj := h.all _ (List.mem_of_getElem? hj)
  have hgW : W.heap.size ≤ g := hmi.1
  have hlW : W.heap.size ≤ lo := hmj.1
  have hli : lo ≤ hi := hmj.2.1
  have hgw : g < w.heap.size := hmi.2.2.1
  have hhw : hi ≤ w.heap.size := hmj.2.2.1
  obtain ⟨hil, ei⟩ := List.getElem?_eq_some_iff.1 hi'
  obtain ⟨hjl, ej⟩ := List.getElem?_eq_some_iff.1 hj
  have hlen : ((ts.set i (boxT g cs2 t)).set j ⟨lo, hi, P2⟩).length = ts.length := by simp
  have hat : ∀ k (hk : k < ts.length), ∃ x, ((ts.set i (boxT g cs2 t)).set j ⟨lo, hi, P2⟩)[k]? = some x ∧ x.lo = ts[k].lo ∧ x.hi = ts[k].hi ∧ (k ≠ i → k ≠ j → x = ts[k]) ∧ (k = i → x = boxT g cs2 t) ∧ (k = j → x = ⟨lo, hi, P2⟩) := by
    intro k hk
    by_cases e1 : k = j
    · subst e1
      exact ⟨_, by rw [List.getElem?_set_self (by simpa using hjl)], by rw [ej], by rw [ej], fun _ h => absurd rfl h, fun e => absurd e.symm hij, fun _ => rfl⟩
    · by_cases e2 : k = i
      · subst e2
        exact ⟨_, by rw [List.getElem?_set_ne (Ne.symm e1), List.getElem?_set_self hil], by rw [ei]; rfl, by rw [ei]; rfl, fun h => absurd rfl h, fun _ => rfl, fun e => absurd e e1⟩
      · exact ⟨_, by rw [List.getElem?_set_ne (Ne.symm e1), List.getElem?_set_ne (Ne.symm e2), List.getElem?_eq_getElem hk], rfl, rfl, fun _ _ => rfl, fun e => absurd e e2, fun e => absurd e e1⟩
  refine ⟨⟨ho.1.trans h.hb.os, ho.2.1.trans h.hb.tape, ho.2.2.trans h.hb.output, Nat.le_trans h.hb.size hK.1, fun k hk => (hK.2 k (Nat.lt_of_lt_of_le hk h.hb.size) (fun hh => by rcases hh with hh | hh <;> omega)).trans (h.hb.block k hk)⟩, fun x hx => ?_, ?_⟩
  · obtain ⟨k, hk, rfl⟩ := List.getElem_of_mem hx
    rw [hlen] at hk
    obtain ⟨y, hy, h1, h2, h3, h4, h5⟩ := hat k hk
    have hey : ((ts.set i (boxT g cs2 t)).set j ⟨lo, hi, P2⟩)[k]'(by rw [hlen]; exact hk) = y := by
      rw [List.getElem?_eq_getElem (by rw [hlen]; exact hk)] at hy
      exact Option.some.inj hy
    rw [hey]
    by_cases e1 : k = j
    · rw [h5 e1]
      exact ⟨hlW, hli, Nat.le_trans hhw hK.1, hP⟩
    · by_cases e2 : k = i
      · rw [h4 e2]
        exact ⟨hgW, Nat.le_succ _, Nat.lt_of_lt_of_le hgw hK.1, fun w'' ha => (ha g (Nat.le_refl _) (Nat.lt_succ_self _)).trans hb⟩
      · rw [h3 e2 e1]
        have hm := h.all ts[k] (List.getElem_mem hk)
        refine ⟨hm.1, hm.2.move hK.1 (fun q hq1 hq2 => hK.2 q (Nat.lt_of_lt_of_le hq2 hm.2.2.1) (fun hh => ?_))⟩
        have a1 := h.apartOf k j e1 (List.getElem?_eq_getElem hk) hj
        have a2 := h.apartOf k i e2 (List.getElem?_eq_getElem hk) hi'
        unfold Th.apart at a1 a2
        have a2' : ts[k].hi ≤ g ∨ g + 1 ≤ ts[k].lo := a2
        have a1' : ts[k].hi ≤ lo ∨ hi ≤ ts[k].lo := a1
        rcases hh with hh | hh <;> omega
  · rw [List.pairwise_iff_getElem]
    intro p q hp hq hlt
    rw [hlen] at hp hq
    obtain ⟨x, hx, x1, x2, _⟩ := hat p hp
    obtain ⟨y, hy, y1, y2, _⟩ := hat q hq
    have ex : ((ts.set i (boxT g cs2 t)).set j ⟨lo, hi, P2⟩)[p]'(by rw [hlen]; exact hp) = x := by
      rw [List.getElem?_eq_getElem (by rw [hlen]; exact hp)] at hx
      exact Option.some.inj hx
    have ey : ((ts.set i (boxT g cs2 t)).set j ⟨lo, hi, P2⟩)[q]'(by rw [hlen]; exact hq) = y := by
      rw [List.getElem?_eq_getElem (by rw [hlen]; exact hq)] at hy
      exact Option.some.inj hy
    rw [ex, ey]
    have := List.pairwise_iff_getElem.1 h.ap p q hp hq hlt
    unfold Th.apart at *
    rw [x1, x2, y1, y2]
    exact this
end
end Go.Proofs.YtoomjghabiojkaaW.Mine
namespace Go.Proofs.Ytoomjghabiojkaa.P
open Go.RowKit Go.Proofs.YtoomjghabiojkaaW.PrintWords Go.Proofs.YtoomjghabiojkaaW.PrintMore Go.Proofs.YtoomjghabiojkaaW.Mine
set_option linter.unusedVariables false
set_option linter.unusedSimpArgs false
def moveRow (row : List Int) (s n f t x : Int) : List Int :=
  if x < f then spl row (s.toNat + (t + (x - f)).toNat) (((row.drop (s.toNat + x.toNat)).take (f.toNat - x.toNat)).take (n.toNat - (t + (x - f)).toNat))
  else spl row (s.toNat + f.toNat) (((row.drop (s.toNat + t.toNat)).take ((t + (x - f)).toNat - t.toNat)).take (n.toNat - f.toNat))
def moveCost (f x : Int) : Int := mx (x - f) (wrap64 (-(x - f)))
theorem moveRow_length {row : List Int} {s n f t x : Int} (hs : 0 ≤ s) (hn : 0 ≤ n) (hsn : s + n ≤ (row.length : Int)) (hf : 0 ≤ f) (hft : f ≤ t) (htn : t ≤ n) (hx : 0 ≤ x) (hx2 : x + (t - f) ≤ n) : (moveRow row s n f t x).length = row.length := by
  unfold moveRow
  split
  · exact spl_length _ _ _ (by simp; omega)
  · exact spl_length _ _ _ (by simp; omega)
theorem heap_puts_kept {w w' : World} {g gr off1 off2 : Nat} {u1 u2 : List Value} {cs : Array Value} (h : Below w.heap.size (puts (puts (w.setRow gr cs) g off1 u1) g off2 u2) w') : Kept w w' (fun k => k = gr ∨ k = g) ∧ w'.os = w.os ∧ w'.tape = w.tape ∧ w'.output = w.output := by
  have hz : ∀ (us : List Value) (W : World) (g off : Nat), (puts W g off us).os = W.os ∧ (puts W g off us).tape = W.tape ∧ (puts W g off us).output = W.output := by
    intro us
    induction us with
    | nil => intro W g off; exact ⟨rfl, rfl, rfl⟩
    | cons u r ih => intro W g off; exact ih (W.setCell ⟨g, off, none⟩ u) g (off + 1)
  have h1 := hz u2 (puts (w.setRow gr cs) g off1 u1) g off2
  have h2 := hz u1 (w.setRow gr cs) g off1
  refine ⟨⟨?_, fun k hk hn => ?_⟩, h.os.trans (h1.1.trans h2.1), h.tape.trans (h1.2.1.trans h2.2.1), h.output.trans (h1.2.2.trans h2.2.2)⟩
  · have := h.size
    simp only [size_puts, setRow_size] at this
    exact this
  · rw [h.block k hk, puts_other _ _ (fun e => hn (.inr e)), puts_other _ _ (fun e => hn (.inr e)), setRow_other w gr k cs (fun e => hn (.inl e))]
theorem impl_Gap_move_c {w : World} {e base g c : Nat} {ok : Nat → Prop} {A : Option Addr} {m : List (List Int)} {a s n cp f t x : Int}
    (hbx : bx g #[.slice A m.length c, .int .i64 a, .int .i64 s, .int .i64 n, .int .i64 cp, .int .i64 f, .int .i64 t] 69 w) (hS : Kd.S (Kd.slice 5 (Kd.int .u8)) e w base ok (.slice A m.length c) m) (hok : ∀ k, ok k → k ≠ g)
    (hw : WinOk m a s n cp) (hf : 0 ≤ f) (hft : f ≤ t) (htn : t ≤ n) (hx : 0 ≤ x) (hx2 : x + (t - f) ≤ n) :
    Calls Try.prog 103 #[.pointer (some ⟨g, 0, none⟩), .int .i64 x] w fun e_ w' => e_ = .returned (.int .i64 (moveCost f x)) ∧ (w'.os = w.os ∧ w'.tape = w.tape ∧ w'.output = w.output) ∧ Kept w w' (fun k => ok k ∨ k = g) ∧
      bx g #[.slice A m.length c, .int .i64 a, .int .i64 s, .int .i64 n, .int .i64 cp, .int .i64 x, .int .i64 (t + (x - f))] 69 w' ∧ Kd.S (Kd.slice 5 (Kd.int .u8)) e w' base ok (.slice A m.length c) (putRow m a (moveRow (rowB m a) s n f t x)) := by
  have hw1 := hw.a0; have hw2 := hw.a1; have hw3 := hw.s0; have hw4 := hw.n0; have hw5 := hw.n1; have hw6 := hw.s1; have hw7 := hw.r0; have hw8 := hw.r1; have hw9 := hw.c1
  obtain ⟨g0, cap0, hv, _, _, _⟩ := Kd.S_form hS (by omega)
  injection hv with h1 h2 h3
  subst h1
  obtain ⟨gr, cap, cur, hcell, hbg, hokr, hheap, hle, hmax, hsz, htk, hback⟩ := S_row hS a.toNat (by omega) (by unfold rowB at hw7; omega)
  have hne : g ≠ gr := fun e_ => hok gr hokr e_.symm
  have hlen := moveRow_length (row := rowB m a) (x := x) hw3 hw4 (by omega) hf hft htn hx hx2
  have fin : ∀ (w' : World) (row' : List Int) (cur' : Array Value), row' = moveRow (rowB m a) s n f t x → cur'.size = cur.size → cur'.toList.take (rowB m a).length = row'.map (fun x => Value.int .u8 x) →
      Below w.heap.size (puts (puts (w.setRow gr cur') g 5 [.int .i64 x]) g 6 [.int .i64 (t + (x - f))]) w' → (w'.os = w.os ∧ w'.tape = w.tape ∧ w'.output = w.output) ∧ Kept w w' (fun k => ok k ∨ k = g) ∧
      bx g #[.slice (some ⟨g0, 0, none⟩) m.length c, .int .i64 a, .int .i64 s, .int .i64 n, .int .i64 cp, .int .i64 x, .int .i64 (t + (x - f))] 69 w' ∧ Kd.S (Kd.slice 5 (Kd.int .u8)) e w' base ok (.slice (some ⟨g0, 0, none⟩) m.length c) (putRow m a (moveRow (rowB m a) s n f t x)) := by
    intro w' row' cur' hr' hcs ht hB
    obtain ⟨hK, hos⟩ := heap_puts_kept hB
    have hgw : g < w.heap.size := blk_lt hbx
    have hgrw : gr < w.heap.size := blk_lt hheap
    have hbx1 : bx g _ _ (w.setRow gr cur') := (setRow_other w gr g cur' hne).trans hbx
    have hbx2 := (wrote_puts [.int .i64 x] 5 _ _ hbx1).is _ (Agree.refl _ _ _)
    have hbx3 := (wrote_puts [.int .i64 (t + (x - f))] 6 _ _ hbx2).is _ (Agree.refl _ _ _)
    have hrow' : w'.heap[gr]? = some (.cells cur' 5 (0, 0)) := by
      rw [hB.block gr hgrw, puts_other _ _ (Ne.symm hne), puts_other _ _ (Ne.symm hne)]
      exact setRow_heap w gr _ _ _ _ hheap
    refine ⟨hos, hK.mono (fun k hk => ?_), (hB.block g hgw).trans hbx3, ?_⟩
    · rcases hk with rfl | rfl
      · exact .inl hokr
      · exact .inr rfl
    · -- first the row alone
      have hS1 := hback (w.setRow gr cur') cur' row' ⟨by simp, fun k _ hn => setRow_other w gr k cur' hn⟩ (setRow_heap w gr _ _ _ _ hheap) (by rw [hcs, hsz]) (by rw [hr']; exact hlen) ht
      rw [hr'] at hS1
      refine Kd.S_move (Kd.S_mono (Kd.S_bound hS1) (fun k hk => hk)) (fun k hk => ?_) |> fun h => Kd.S_mono h (fun k hk => hk.1)
      have hkl : k < w.heap.size := by have := hk.2.2.1; simpa using this
      rw [hB.block k hkl, puts_other _ _ (hok k hk.1), puts_other _ _ (hok k hk.1)]
  by_cases hlt : x < f
  · have h0 := impl_Gap_move_w0 x g g0 gr cap c cur m (rowB m a) a s n cp f t w hbx hne hcell hheap hle hsz htk (by simp; omega) (by omega) (by omega) (by omega) (by omega) (by omega) (by omega) (by omega) (by omega) (by omega) (by omega) (by omega) (by omega) (by omega)
    refine h0.mono ?_
    rintro e_ w' ⟨rfl, cur', hc1, hc2, hc3⟩
    exact ⟨rfl, fin w' _ cur' (by unfold moveRow; rw [if_pos hlt]) hc1 hc2 hc3⟩
  · have h0 := impl_Gap_move_w1 x g g0 gr cap c cur m (rowB m a) a s n cp f t w hbx hne hcell hheap hle hsz htk (by simp; omega) (by omega) (by omega) (by omega) (by omega) (by omega) (by omega) (by omega) (by omega) (by omega) (by omega) (by omega) (by omega)
    refine h0.mono ?_
    rintro e_ w' ⟨rfl, cur', hc1, hc2, hc3⟩
    exact ⟨rfl, fin w' _ cur' (by unfold moveRow; rw [if_neg hlt]) hc1 hc2 hc3⟩
end Go.Proofs.Ytoomjghabiojkaa.P


