/- Part 3 of the proof of the law FnExactResetArena: contracts of the functions that it reaches. -/
import Derived.Test.YtoomjghabiojkaaQFnExactResetArena2
/- A row of a memory, written in place: words for what a window sees. -/
namespace Go.Proofs.YtoomjghabiojkaaW.Mine
open Go.RowKit Go.Proofs.YtoomjghabiojkaaW.PrintWords
set_option linter.unusedVariables false
theorem S_row {e2 e base n c g0 : Nat} {ok : Nat → Prop} {w : World} {m : List (List Int)} (h : Kd.S (Kd.slice e2 (Kd.int .u8)) e w base ok (.slice (some ⟨g0, 0, none⟩) n c) m) (i : Nat) (hi : i < m.length) (hp : 0 < (m.getD i []).length) :
    ∃ g cap cur, w.cell? ⟨g0, i, none⟩ = some (.slice (some ⟨g, 0, none⟩) (m.getD i []).length cap) ∧ base ≤ g ∧ ok g ∧ w.heap[g]? = some (.cells cur e2 (0, 0)) ∧ (m.getD i []).length ≤ cap ∧ cap ≤ maxLen ∧ cur.size = cap ∧ cur.toList.take (m.getD i []).length = (m.getD i []).map (fun x => Value.int .u8 x) ∧
      ∀ (w1 : World) (cur' : Array Value) (row' : List Int), Kept w w1 (fun k => k = g) → w1.heap[g]? = some (.cells cur' e2 (0, 0)) → cur'.size = cap → row'.length = (m.getD i []).length → cur'.toList.take (m.getD i []).length = row'.map (fun x => Value.int .u8 x) →
        Kd.S (Kd.slice e2 (Kd.int .u8)) e w1 base ok (.slice (some ⟨g0, 0, none⟩) n c) (m.set i row') := by
  have hn : n = m.length := (Kd.S_reads' h).1
  obtain ⟨v, hcell, hR, hk, hback⟩ := S_inner rfl h (i : Int) (by omega) (by omega)
  rw [Int.toNat_natCast] at hcell hR
  have hback' := @hback
  simp only [Int.toNat_natCast] at hback'
  have ho := Kd.own_of_R hR
  rcases ho.2 with ⟨_, h0⟩ | ⟨g, cap, cur, rfl, hb, hh, hle, hmax, hsz, htk⟩
  · omega
  · simp only [Nat.mul_one] at hsz htk
    refine ⟨g, cap, cur, hcell, hb, (hk g (by simp [Value.ownBlock])).1, hh, hle, hmax, hsz, htk, ?_⟩
    intro w1 cur' row' hK hh' hsz' hl' htk'
    refine hback' (w1 := w1) (ok1 := fun _ => True) (y := row') (hK.mono (fun k hk => by subst hk; rfl)) ?_
    refine Kd.R_of_own ⟨by rw [encs_length, Nat.mul_one], .inr ⟨g, cap, cur', by rw [hl'], hb, hh', by rw [hl']; exact hle, hmax, by rw [hsz', Nat.mul_one], ?_⟩⟩ (fun _ _ => trivial)
    rw [hl', Nat.mul_one, htk']
    rfl
theorem row_cell {w : World} {g e2 : Nat} {cur : Array Value} {row : List Int} (hh : w.heap[g]? = some (.cells cur e2 (0, 0))) (ht : cur.toList.take row.length = row.map (fun x => Value.int .u8 x)) (j : Nat) (hj : j < row.length) : w.cell? ⟨g, j, none⟩ = some (.int .u8 (row.getD j 0)) := by
  rw [blk_cell hh j]
  have h1 : (cur.toList.take row.length)[j]? = cur.toList[j]? := by rw [List.getElem?_take]; simp [hj]
  rw [ht] at h1
  rw [← Array.getElem?_toList, ← h1]
  simp [hj]
theorem row_take_set {row : List Int} {l : List Value} (ht : l.take row.length = row.map (fun x => Value.int .u8 x)) (j : Nat) (b : Int) : (l.set j (.int .u8 b)).take row.length = (row.set j b).map (fun x => Value.int .u8 x) := by
  rw [List.take_set, ht, List.map_set]
def RowAt (e2 e base lo hi n c g0 : Nat) (m : List (List Int)) (i g cap : Nat) (cur : Array Value) (row : List Int) (w : World) : Prop :=
  (lo ≤ g ∧ g < hi) ∧ w.heap[g]? = some (.cells cur e2 (0, 0)) ∧ row.length ≤ cap ∧ cap ≤ maxLen ∧ cur.size = cap ∧ cur.toList.take row.length = row.map (fun x => Value.int .u8 x) ∧
    ∀ (w1 : World) (cur' : Array Value) (row' : List Int), (∀ k, lo ≤ k → k < hi → k ≠ g → w1.heap[k]? = w.heap[k]?) → w1.heap[g]? = some (.cells cur' e2 (0, 0)) → cur'.size = cap → row'.length = row.length → cur'.toList.take row.length = row'.map (fun x => Value.int .u8 x) →
      Kd.S (Kd.slice e2 (Kd.int .u8)) e w1 base (fun k => lo ≤ k ∧ k < hi) (.slice (some ⟨g0, 0, none⟩) n c) (m.set i row')
section
variable {e2 e base lo hi n c g0 : Nat} {m : List (List Int)} {i g cap : Nat} {cur : Array Value} {row : List Int} {w w1 : World}
theorem RowAt.of (h : Kd.S (Kd.slice e2 (Kd.int .u8)) e w base (fun k => lo ≤ k ∧ k < hi) (.slice (some ⟨g0, 0, none⟩) n c) m) (hi' : i < m.length) (hr : m.getD i [] = row) (hp : 0 < row.length) :
    ∃ g cap cur, w.cell? ⟨g0, i, none⟩ = some (.slice (some ⟨g, 0, none⟩) row.length cap) ∧ RowAt e2 e base lo hi n c g0 m i g cap cur row w := by
  subst hr
  obtain ⟨g, cap, cur, h1, h2, h3, h4, h5, h6, h7, h8, h9⟩ := S_row h i hi' hp
  refine ⟨g, cap, cur, h1, h3, h4, h5, h6, h7, h8, ?_⟩
  intro w1 cur' row' hk hh hs hl ht
  have hS := h9 (w.setRow g cur') cur' row' ⟨by simp [World.setRow], fun k _ hn => setRow_other w g k cur' hn⟩ (setRow_heap w g _ _ _ _ h4) hs hl ht
  refine Kd.S_move hS (fun k hk' => ?_)
  by_cases hg : k = g
  · subst hg
    exact hh.trans (setRow_heap w k _ _ _ _ h4).symm
  · rw [setRow_other w g k cur' hg]
    exact hk k hk'.1 hk'.2 hg
theorem RowAt.agree (h : RowAt e2 e base lo hi n c g0 m i g cap cur row w) (ha : Agree lo hi w w1) : RowAt e2 e base lo hi n c g0 m i g cap cur row w1 := by
  obtain ⟨h1, h2, h3, h4, h5, h6, h7⟩ := h
  exact ⟨h1, (ha g h1.1 h1.2).trans h2, h3, h4, h5, h6, fun w2 cur' row' hk => h7 w2 cur' row' (fun k hl hh hn => (hk k hl hh hn).trans (ha k hl hh))⟩
theorem RowAt.write (h : RowAt e2 e base lo hi n c g0 m i g cap cur row w) {cur' : Array Value} {row' : List Int} (hk : ∀ k, k ≠ g → w1.heap[k]? = w.heap[k]?) (hh : w1.heap[g]? = some (.cells cur' e2 (0, 0))) (hs : cur'.size = cur.size) (hl : row'.length = row.length) (ht : cur'.toList.take row.length = row'.map (fun x => Value.int .u8 x)) :
    RowAt e2 e base lo hi n c g0 m i g cap cur' row' w1 := by
  obtain ⟨h1, h2, h3, h4, h5, h6, h7⟩ := h
  refine ⟨h1, hh, by omega, h4, by omega, by rw [hl]; exact ht, fun w2 cur2 row2 hk2 hh2 hs2 hl2 ht2 => h7 w2 cur2 row2 (fun k hlo hhi hn => (hk2 k hlo hhi hn).trans (hk k hn)) hh2 hs2 (by omega) (by rw [← hl]; exact ht2)⟩
theorem RowAt.put (h : RowAt e2 e base lo hi n c g0 m i g cap cur row w) (j : Nat) (b : Int) : RowAt e2 e base lo hi n c g0 m i g cap (cur.setIfInBounds j (.int .u8 b)) (row.set j b) (w.setCell ⟨g, j, none⟩ (.int .u8 b)) := by
  refine h.write (fun k hn => Below.heap_setCell w ⟨g, j, none⟩ _ k hn) (blk_set h.2.1 j _) (by simp) (by simp) ?_
  rw [Array.toList_setIfInBounds]
  exact row_take_set h.2.2.2.2.2.1 j b
theorem RowAt.cell (h : RowAt e2 e base lo hi n c g0 m i g cap cur row w) (j : Nat) (hj : j < row.length) : w.cell? ⟨g, j, none⟩ = some (.int .u8 (row.getD j 0)) := row_cell h.2.1 h.2.2.2.2.2.1 j hj
end
end Go.Proofs.YtoomjghabiojkaaW.Mine


-- written by wip/gen_fun.py
namespace Go.Proofs.Ytoomjghabiojkaa.P
open Go.RowKit Go.Proofs.YtoomjghabiojkaaW.PrintWords Go.Proofs.YtoomjghabiojkaaW.PrintLast Go.Proofs.YtoomjghabiojkaaW.PrintMore Go.Proofs.YtoomjghabiojkaaW.Mine
open List (setIfInBounds_toArray set_cons_zero set_cons_succ)
attribute [local go_sem] max2_int min2_int max_two min_two max_three min_three max_four min_four
set_option linter.unusedVariables false
set_option linter.unusedSimpArgs false
set_option maxHeartbeats 8000000 in
set_option maxRecDepth 100000 in
theorem laws_eqWindow_w0 (a0_0 : Int) (a0_1 : Int) (a0_2 : Int) (a0_3 : Int) (a1_0 : Int) (a1_1 : Int) (a1_2 : Int) (a1_3 : Int) (w : World) (T0 : (a0_0 != a1_0) = false) (T1 : (a0_1 != a1_1) = false) (T2 : (a0_2 != a1_2) = false) (T3 : (a0_3 != a1_3) = false) :
    Calls Try.prog 43 #[.agg #[.int .i64 a0_0, .int .i64 a0_1, .int .i64 a0_2, .int .i64 a0_3], .agg #[.int .i64 a1_0, .int .i64 a1_1, .int .i64 a1_2, .int .i64 a1_3]] w fun e w' => e = .returned (.bool true) ∧ Below w.heap.size w w' := by
  have HS0 : Aside0 (Stk w [] w) := ⟨Stk.nil w⟩
  go_enter Try.func43, Try.ntmps43
  go_wp2_with (first | ((with_reducible refine gate_dst (N := 2) rfl ?_); refine box_event ?hg (N := 2) ?hd (cs := #[.int .i64 a0_0, .int .i64 a0_1, .int .i64 a0_2, .int .i64 a0_3]) (t := 48) ?hr ?_; (case hd => rfl); (case hg => rfl); (case hr => first | (go_simp; done) | (go_simp; rfl)); intro g1 hg w1 hbox hb; have HS1 := Aside0.mk (HS0.out.box hb hg hbox); clear hb hbox hg HS0) | ((with_reducible refine gate_dst (N := 3) rfl ?_); refine box_event ?hg (N := 3) ?hd (cs := #[.int .i64 a1_0, .int .i64 a1_1, .int .i64 a1_2, .int .i64 a1_3]) (t := 48) ?hr ?_; (case hd => rfl); (case hg => rfl); (case hr => first | (go_simp; done) | (go_simp; rfl)); intro g2 hg w2 hbox hb; have HS2 := Aside0.mk (HS1.out.box hb hg hbox); clear hb hbox hg HS1; have B2_g1 : bx g1 #[.int .i64 a0_0, .int .i64 a0_1, .int .i64 a0_2, .int .i64 a0_3] 48 w2 := HS2.out.get 1 rfl; have hcz2_g1_0 : (w2).cell? ⟨g1, 0, none⟩ = some (.int .i64 a0_0) := (blk_cell B2_g1 0).trans rfl; have hfz2_g1_0 := blk_frozen B2_g1 0; have hcz2_g1_1 : (w2).cell? ⟨g1, 1, none⟩ = some (.int .i64 a0_1) := (blk_cell B2_g1 1).trans rfl; have hfz2_g1_1 := blk_frozen B2_g1 1; have hcz2_g1_2 : (w2).cell? ⟨g1, 2, none⟩ = some (.int .i64 a0_2) := (blk_cell B2_g1 2).trans rfl; have hfz2_g1_2 := blk_frozen B2_g1 2; have hcz2_g1_3 : (w2).cell? ⟨g1, 3, none⟩ = some (.int .i64 a0_3) := (blk_cell B2_g1 3).trans rfl; have hfz2_g1_3 := blk_frozen B2_g1 3; clear B2_g1; have B2_g2 : bx g2 #[.int .i64 a1_0, .int .i64 a1_1, .int .i64 a1_2, .int .i64 a1_3] 48 w2 := HS2.out.get 0 rfl; have hcz2_g2_0 : (w2).cell? ⟨g2, 0, none⟩ = some (.int .i64 a1_0) := (blk_cell B2_g2 0).trans rfl; have hfz2_g2_0 := blk_frozen B2_g2 0; have hcz2_g2_1 : (w2).cell? ⟨g2, 1, none⟩ = some (.int .i64 a1_1) := (blk_cell B2_g2 1).trans rfl; have hfz2_g2_1 := blk_frozen B2_g2 1; have hcz2_g2_2 : (w2).cell? ⟨g2, 2, none⟩ = some (.int .i64 a1_2) := (blk_cell B2_g2 2).trans rfl; have hfz2_g2_2 := blk_frozen B2_g2 2; have hcz2_g2_3 : (w2).cell? ⟨g2, 3, none⟩ = some (.int .i64 a1_3) := (blk_cell B2_g2 3).trans rfl; have hfz2_g2_3 := blk_frozen B2_g2 3; clear B2_g2))
  go_ret
  exact ⟨by first | rfl | simp, HS2.out.hb⟩
end Go.Proofs.Ytoomjghabiojkaa.P


/- eqWindow, as far as the laws need it: equal Windows are equal. -/
namespace Go.Proofs.Ytoomjghabiojkaa.P
open Go.RowKit Go.Proofs.YtoomjghabiojkaaW.PrintWords
set_option linter.unusedVariables false
def laws_eqWindow.f (a0_0 a0_1 a0_2 a0_3 a1_0 a1_1 a1_2 a1_3 : Int) : Option Bool := if a0_0 = a1_0 ∧ a0_1 = a1_1 ∧ a0_2 = a1_2 ∧ a0_3 = a1_3 then some true else none
theorem laws_eqWindow.calls (a0_0 : Int) (a0_1 : Int) (a0_2 : Int) (a0_3 : Int) (a1_0 : Int) (a1_1 : Int) (a1_2 : Int) (a1_3 : Int) (r : Bool) (w : World) (h : laws_eqWindow.f a0_0 a0_1 a0_2 a0_3 a1_0 a1_1 a1_2 a1_3 = some r) :
    Calls Try.prog 43 #[.agg #[.int .i64 a0_0, .int .i64 a0_1, .int .i64 a0_2, .int .i64 a0_3], .agg #[.int .i64 a1_0, .int .i64 a1_1, .int .i64 a1_2, .int .i64 a1_3]] w fun e w' => e = .returned (.bool r) ∧ Below w.heap.size w w' := by
  unfold laws_eqWindow.f at h
  split at h
  next hh =>
    obtain rfl := Option.some.inj h
    obtain ⟨rfl, rfl, rfl, rfl⟩ := hh
    exact laws_eqWindow_w0 _ _ _ _ _ _ _ _ w (by simp) (by simp) (by simp) (by simp)
  next => cases h
end Go.Proofs.Ytoomjghabiojkaa.P


/- The contract of slices.Clone at []Byte: the same elements in new memory. -/
namespace Go.Proofs.Ytoomjghabiojkaa.P
open Go.RowKit Go.Proofs.YtoomjghabiojkaaW.PrintWords Go.Proofs.YtoomjghabiojkaaW.PrintLast Go.Proofs.YtoomjghabiojkaaW.PrintMore
set_option linter.unusedVariables false
set_option linter.unusedSimpArgs false
def slices_Clone_byte_byte.f (l0 : List Int) : Option (List Int) := if l0.length < 140737488355328 then some l0 else none
theorem infoCByte : (Try.prog.info? 5).map (fun i => (i.zero, i.size, i.bytes)) = some (some (.int .u8 0), 1, 1) := by kernel_rfl
set_option maxHeartbeats 1000000 in
set_option maxRecDepth 100000 in
theorem slices_Clone_byte_byte.calls (A0 : Option Addr) (c0 : Nat) (l0 : List Int) (r : List Int) (w : World) (hr0 : Kd.C (Kd.int .u8) w A0 l0.length l0) (hc0 : l0.length ≤ c0) (h : slices_Clone_byte_byte.f l0 = some r) :
    Calls Try.prog 136 #[.slice A0 l0.length c0] w fun e w' => ∃ v0_ : Value, e = .returned (v0_) ∧ Kd.R (Kd.int .u8) 5 w' w.heap.size (fun _ => True) v0_ r ∧ Below w.heap.size w w' := by
  have HR0 := Aside0.mk hr0
  have HC0 := Aside0.mk hc0
  clear hr0 hc0
  unfold slices_Clone_byte_byte.f at h
  split at h
  next hlim =>
    obtain rfl := Option.some.inj h
    have HL := Aside0.mk hlim
    clear hlim h
    rcases A0 with _ | ad
    · have hnil : l0 = [] := by
        rcases Nat.eq_zero_or_pos l0.length with h0 | h0
        · exact List.eq_nil_of_length_eq_zero h0
        · obtain ⟨_, h1, _⟩ := HR0.out.2.2 h0
          cases h1
      subst hnil
      have hq2 := fun w => Lib.run_eql_slice_nil (P := Try.prog) w 119 5 none 0 c0 0 0 Try.underlying119
      go_enter Try.func136, Try.ntmps136
      go_wp2
      go_ret
      exact ⟨_, rfl, Kd.R_nil _ _ _ _ _, Below.refl _ _⟩
    · have hq := fun w => Lib.run_eql_slice_nil (P := Try.prog) w 119 5 (some ad) l0.length c0 0 0 Try.underlying119
      go_enter Try.func136, Try.ntmps136
      go_wp2_with (first | ((with_reducible refine gate_dst (N := 5) rfl ?_); refine Kd.R_lit (Kd.int .u8) (w0 := w) w.heap.size 5 (by rfl) (N := 5) rfl (xs := []) (inner := []) (ok := fun _ => True) (okp := fun _ => False) ?r1 ?r2 (fun _ _ => trivial) trivial (Below.refl _ _) (Nat.le_refl _) (by decide) ?_; (case r1 => go_simp; try rfl); (case r2 => exact ⟨rfl, fun j p hj => by cases hj⟩); intro v1 w1 ho hb hg hat; have HO := Aside0.mk ho; have HB := Aside0.mk hb; clear ho hb hg hat) | ((with_reducible refine gate_dst (N := 7) rfl ?_); refine Kd.R_append_rows (Kd.int .u8) (Rr := (Kd.int .u8).K w) (w0 := w) w.heap.size (by rfl) (.tmp 5) (.tmp 6) 119 5 (.int .u8 0) 1 (by rfl) Try.underlying119 infoCByte rfl (by decide) (by decide) _ [] l0 (some ad) l0.length c0 (fun _ => True) (fun _ => False) (by rfl) (by rfl) ?c1 ?c2 ?c3 ?c4 ?c5 ?c6 ?c7 ?c8 ?_; (case c1 => exact HO.out); (case c2 => exact Kd.C_below HR0.out HB.out); (case c3 => exact (fun _ _ h => h)); (case c4 => exact fun _ h => h.elim); (case c5 => exact fun _ _ => trivial); (case c6 => exact HB.out); (case c7 => exact HB.out.size); (case c8 => have := HL.out; simp only [List.length_nil]; omega); intro v2 w2 ho hb hg hat; clear HB; have HB := Aside0.mk hb; have HO2 := Aside0.mk ho; clear ho hb hg hat))
      go_ret
      exact ⟨_, rfl, HO2.out, HB.out⟩
  next => cases h
end Go.Proofs.Ytoomjghabiojkaa.P


namespace Go.Proofs.Ytoomjghabiojkaa.P
open Go.RowKit Go.Proofs.YtoomjghabiojkaaW.PrintWords Go.Proofs.YtoomjghabiojkaaW.PrintLast Go.Proofs.YtoomjghabiojkaaW.PrintMore
attribute [local go_sem] max2_int min2_int max_two min_two max_three min_three max_four min_four   -- for this text's walks alone
set_option linter.unusedVariables false
set_option linter.unusedSimpArgs false

def impl_Memory_own.l0 : Nat → List (List Int) → Int → Int → List (List Int) → Option ((List (List Int)))
  | 0, _, _, _, _ => none
  | k + 1, x8, x9, x10, x162000 => if x10 < x9 then (if 0 ≤ x10 then (if x10 < (x8.length : Int) then ((slices_Clone_byte_byte.f (rd_Lsu8 x8 x10)).bind fun t163 => (if x162000.length < 5864062014805 then (impl_Memory_own.l0 k x8 x9 (wrap64 (x10 + 1)) (x162000 ++ [t163])) else (none))) else (none)) else (none)) else (some x162000)
def impl_Memory_own.f (k : Nat) (l0_0 : List (List Int)) : Option ((List (List Int))) := impl_Memory_own.l0 k l0_0 (l0_0.length : Int) 0 ([] : List (List Int))
def impl_Memory_own.T5 : Bool × List (List Nat × List Nat) := (true, [([], []), ([0], [0]), ([], []), ([2], [2]), ([3], [3]), ([1, 4, 3], [1, 4]), ([0, 1, 2, 3, 4, 5], []), ([6, 5, 5, 0, 1, 2, 3, 4, 5], [5, 6])])
def impl_Memory_own.B5 : List Nat := [0, 1, 0, 4, 12, 31, 63, 127]
theorem impl_Memory_own.tab5 : rtab .any (opsOf Try.f76 5) = impl_Memory_own.T5 := by kernel_rfl
theorem impl_Memory_own.bits5 : waitsOk impl_Memory_own.T5.2 impl_Memory_own.B5 = true := by kernel_rfl
set_option maxHeartbeats 8000000 in
set_option maxRecDepth 100000 in
theorem impl_Memory_own.calls (k : Nat) (A0_0 : Option Addr) (c0_0 : Nat) (l0_0 : List (List Int)) (r : List (List Int)) (w : World) (hr0_0 : Kd.C (Kd.slice 5 (Kd.int .u8)) w A0_0 l0_0.length l0_0) (hc0_0 : l0_0.length ≤ c0_0) (h : impl_Memory_own.f k l0_0 = some r) :
    Calls Try.prog 76 #[.agg #[.slice A0_0 l0_0.length c0_0]] w fun e w' => ∃ v0_ : Value, e = .returned (.agg #[v0_]) ∧ Kd.S (Kd.slice 5 (Kd.int .u8)) 119 w' w.heap.size (fun _ => True) v0_ r ∧ Below w.heap.size w w' := by
  have hu26 := Try.underlying26
  have HR0_0 := Aside0.mk hr0_0
  have HC0_0 := Aside0.mk hc0_0
  clear hr0_0 hc0_0
  have HB := Aside0.mk (Below.refl w.heap.size w)
  have H : (impl_Memory_own.l0 k l0_0 (l0_0.length : Int) 0 ([] : List (List Int))) = some r := h
  clear h
  have H' := Aside0.mk H
  clear H
  go_enter Try.func76, Try.ntmps76
  go_wp2_with (first | ((with_reducible refine gate_dst (N := 1) rfl ?_); refine box_event ?hg (N := 1) ?hd (cs := #[.slice A0_0 l0_0.length c0_0]) (t := 26) ?hr ?_; (case hd => rfl); (case hg => rfl); (case hr => first | (go_simp; done) | (go_simp; rfl)); intro gb159 hg w2 hbox hb; have n0_ := Aside0.mk (below_step (by repeat (first | (with_reducible first | exact HB.out | apply below_alloc | apply pw_below_drewN | apply below_drew1) | exact HB.out)) hb); have n1_ := Aside0.mk (hbox); have n2_ := Aside0.mk ((by rw [hg]; exact (below_size (by repeat (first | (with_reducible first | exact HB.out | apply below_alloc | apply pw_below_drewN | apply below_drew1) | exact HB.out))) : w.heap.size ≤ gb159)); have n3_ := Aside0.mk ((by rw [hg]; exact (below_size (by repeat (first | (with_reducible first | exact HB.out | apply below_alloc | apply pw_below_drewN | apply below_drew1) | exact HB.out))) : w.heap.size ≤ gb159)); clear HB; have HB := n0_; have BK159 := n1_; have GW159 := n2_; have GE159 := n3_; clear n0_ n1_ n2_ n3_; clear hb hbox hg) | ((with_reducible refine gate_dst (N := 2) rfl ?_); refine box_event ?hg (N := 2) ?hd (cs := #[.slice none 0 0]) (t := 26) ?hr ?_; (case hd => rfl); (case hg => rfl); (case hr => first | (go_simp; done) | (go_simp; rfl)); intro gb160 hg w3 hbox hb; have n0_ := Aside0.mk (blk_below (g := gb159) (o := .cells #[.slice A0_0 l0_0.length c0_0] 26 (0, 0)) (by (with_reducible repeat (first | refine blk_drewN ?_ _ | refine blk_drew ?_ | refine blk_alloc ?_ _)); exact BK159.out) hb); have n1_ := Aside0.mk (below_step (by repeat (first | (with_reducible first | exact HB.out | apply below_alloc | apply pw_below_drewN | apply below_drew1 | refine below_set ?_ GE159.out) | exact HB.out)) hb); have n2_ := Aside0.mk (hbox); have n3_ := Aside0.mk ((by rw [hg]; exact (below_size (by repeat (first | (with_reducible first | exact HB.out | apply below_alloc | apply pw_below_drewN | apply below_drew1 | refine below_set ?_ GE159.out) | exact HB.out))) : w.heap.size ≤ gb160)); have n4_ := Aside0.mk ((by rw [hg]; exact (below_size (by repeat (first | (with_reducible first | exact HB.out | apply below_alloc | apply pw_below_drewN | apply below_drew1 | refine below_set ?_ GE159.out) | exact HB.out))) : w.heap.size ≤ gb160)); have n5_ := Aside0.mk ((by rw [hg]; exact Nat.ne_of_lt (blk_lt (g := gb159) (o := .cells #[.slice A0_0 l0_0.length c0_0] 26 (0, 0)) (by (with_reducible repeat (first | refine blk_drewN ?_ _ | refine blk_drew ?_ | refine blk_alloc ?_ _)); exact BK159.out)) : gb159 ≠ gb160)); have n6_ := Aside0.mk ((by rw [hg]; exact Nat.ne_of_gt (blk_lt (g := gb159) (o := .cells #[.slice A0_0 l0_0.length c0_0] 26 (0, 0)) (by (with_reducible repeat (first | refine blk_drewN ?_ _ | refine blk_drew ?_ | refine blk_alloc ?_ _)); exact BK159.out)) : gb160 ≠ gb159)); clear BK159; clear HB; have BK159 := n0_; have HB := n1_; have BK160 := n2_; have GW160 := n3_; have GE160 := n4_; have NB159_160 := n5_; have NB160_159 := n6_; clear n0_ n1_ n2_ n3_ n4_ n5_ n6_; clear hb hbox hg) | ((with_reducible refine gate_dst (N := 3) rfl ?_); refine box_event ?hg (N := 3) ?hd (cs := #[.slice none 0 0]) (t := 26) ?hr ?_; (case hd => rfl); (case hg => rfl); (case hr => first | (go_simp; done) | (go_simp; rfl)); intro gb161 hg w4 hbox hb; have n0_ := Aside0.mk (blk_below (g := gb159) (o := .cells #[.slice A0_0 l0_0.length c0_0] 26 (0, 0)) (by (with_reducible repeat (first | refine blk_drewN ?_ _ | refine blk_drew ?_ | refine blk_alloc ?_ _)); exact BK159.out) hb); have n1_ := Aside0.mk (blk_below (g := gb160) (o := .cells #[.slice none 0 0] 26 (0, 0)) (by (with_reducible repeat (first | refine blk_drewN ?_ _ | refine blk_drew ?_ | refine blk_alloc ?_ _)); exact BK160.out) hb); have n2_ := Aside0.mk (below_step (by repeat (first | (with_reducible first | exact HB.out | apply below_alloc | apply pw_below_drewN | apply below_drew1 | refine below_set ?_ GE159.out | refine below_set ?_ GE160.out) | exact HB.out)) hb); have n3_ := Aside0.mk (hbox); have n4_ := Aside0.mk ((by rw [hg]; exact (below_size (by repeat (first | (with_reducible first | exact HB.out | apply below_alloc | apply pw_below_drewN | apply below_drew1 | refine below_set ?_ GE159.out | refine below_set ?_ GE160.out) | exact HB.out))) : w.heap.size ≤ gb161)); have n5_ := Aside0.mk ((by rw [hg]; exact (below_size (by repeat (first | (with_reducible first | exact HB.out | apply below_alloc | apply pw_below_drewN | apply below_drew1 | refine below_set ?_ GE159.out | refine below_set ?_ GE160.out) | exact HB.out))) : w.heap.size ≤ gb161)); have n6_ := Aside0.mk ((by rw [hg]; exact Nat.ne_of_lt (blk_lt (g := gb159) (o := .cells #[.slice A0_0 l0_0.length c0_0] 26 (0, 0)) (by (with_reducible repeat (first | refine blk_drewN ?_ _ | refine blk_drew ?_ | refine blk_alloc ?_ _)); exact BK159.out)) : gb159 ≠ gb161)); have n7_ := Aside0.mk ((by rw [hg]; exact Nat.ne_of_gt (blk_lt (g := gb159) (o := .cells #[.slice A0_0 l0_0.length c0_0] 26 (0, 0)) (by (with_reducible repeat (first | refine blk_drewN ?_ _ | refine blk_drew ?_ | refine blk_alloc ?_ _)); exact BK159.out)) : gb161 ≠ gb159)); have n8_ := Aside0.mk ((by rw [hg]; exact Nat.ne_of_lt (blk_lt (g := gb160) (o := .cells #[.slice none 0 0] 26 (0, 0)) (by (with_reducible repeat (first | refine blk_drewN ?_ _ | refine blk_drew ?_ | refine blk_alloc ?_ _)); exact BK160.out)) : gb160 ≠ gb161)); have n9_ := Aside0.mk ((by rw [hg]; exact Nat.ne_of_gt (blk_lt (g := gb160) (o := .cells #[.slice none 0 0] 26 (0, 0)) (by (with_reducible repeat (first | refine blk_drewN ?_ _ | refine blk_drew ?_ | refine blk_alloc ?_ _)); exact BK160.out)) : gb161 ≠ gb160)); clear BK159; clear BK160; clear HB; have BK159 := n0_; have BK160 := n1_; have HB := n2_; have BK161 := n3_; have GW161 := n4_; have GE161 := n5_; have NB159_161 := n6_; have NB161_159 := n7_; have NB160_161 := n8_; have NB161_160 := n9_; clear n0_ n1_ n2_ n3_ n4_ n5_ n6_ n7_ n8_ n9_; clear hb hbox hg; have hnb5 := NB161_159.out; have hnc5 := NB159_161.out; have hnb6 := NB161_160.out; have hnc6 := NB160_161.out; have hcz7_0 : w4.cell? ⟨gb161, 0, none⟩ = some (.slice none 0 0) := (blk_cell BK161.out 0).trans rfl; have hfz7_0 := blk_frozen BK161.out 0; have hnb8 := NB159_160.out; have hnc8 := NB160_159.out; have hcz9_0 : w4.cell? ⟨gb159, 0, none⟩ = some (.slice A0_0 l0_0.length c0_0) := (blk_cell BK159.out 0).trans rfl; have hfz9_0 := blk_frozen BK159.out 0))
  go_loopg [10] k (fun kq v10 w' => ∃ (x10_1 : Int) (x162000_1 : List (List Int)) (u162000 : Value), v10 = .int .i64 x10_1 ∧ Aside0 (impl_Memory_own.l0 kq l0_0 (l0_0.length : Int) x10_1 x162000_1 = some r) ∧ Aside0 (kq ≤ k) ∧ Aside0 (Kd.S (Kd.slice 5 (Kd.int .u8)) 119 w' w.heap.size (fun _ => True) u162000 x162000_1) ∧ Aside0 (w'.heap[gb159]? = some (.cells #[(.slice A0_0 l0_0.length c0_0)] 26 (0, 0))) ∧ Aside0 (w'.heap[gb160]? = some (.cells #[(.slice none 0 0)] 26 (0, 0))) ∧ Aside0 (w'.heap[gb161]? = some (.cells #[u162000] 26 (0, 0))) ∧ Aside0 (Below w.heap.size w w'))
  case atStart => exact ⟨(0), (([] : List (List Int))), (.slice none 0 0), (by first | rfl | (simp; done) | (simp [*]; done)), H', ⟨Nat.le_refl _⟩, ⟨by first | exact Kd.S_nil _ _ _ _ _ | exact Kd.N_nil _ _ _ _ _ | exact Kd.V_nil _ _ _ _ _ | exact Kd.Q_nil _ _ _ _ _ | exact Kd.R_nil _ _ _ _ _⟩, ⟨by (with_reducible repeat (first | refine blk_drewN ?_ _ | refine blk_drew ?_ | refine blk_alloc ?_ _)); refine blk_far ?_ NB159_161.out _; (with_reducible repeat (first | refine blk_drewN ?_ _ | refine blk_drew ?_ | refine blk_alloc ?_ _)); exact BK159.out⟩, ⟨by (with_reducible repeat (first | refine blk_drewN ?_ _ | refine blk_drew ?_ | refine blk_alloc ?_ _)); refine blk_far ?_ NB160_161.out _; (with_reducible repeat (first | refine blk_drewN ?_ _ | refine blk_drew ?_ | refine blk_alloc ?_ _)); exact BK160.out⟩, ⟨by (with_reducible repeat (first | refine blk_drewN ?_ _ | refine blk_drew ?_ | refine blk_alloc ?_ _)); refine blk_put (cs := #[.slice none 0 0]) ?_ 0 _ rfl; (with_reducible repeat (first | refine blk_drewN ?_ _ | refine blk_drew ?_ | refine blk_alloc ?_ _)); exact BK161.out⟩, ⟨by repeat (first | (with_reducible first | exact HB.out | apply below_alloc | apply pw_below_drewN | apply below_drew1 | refine below_set ?_ GE159.out | refine below_set ?_ GE160.out | refine below_set ?_ GE161.out) | exact HB.out)⟩⟩
  case round =>
    clear H'
    try clear p2
    try clear c5
    try clear c6
    try clear c7
    try clear c8
    try clear hcz7_0
    try clear hcz9_0
    try clear hfz7_0
    try clear hfz9_0
    obtain ⟨x10_1, x162000_1, u162000, rfl, HA, HK1, HO_162000, BK159, BK160, BK161, HB⟩ := hrel
    cases gk with
    | zero => exact absurd HA.out (by simp [impl_Memory_own.l0])
    | succ k1 =>
      have H := HA.out
      clear HA
      simp only [impl_Memory_own.l0] at H
      by_cases c10 : x10_1 < (l0_0.length : Int)
      · rw [if_pos c10] at H
        have c10b0 : decide (x10_1 < (l0_0.length : Int)) = true := decide_eq_true c10
        clear c10
        by_cases c11 : 0 ≤ x10_1
        · rw [if_pos c11] at H
          have c11b0 : decide (0 ≤ x10_1) = true := decide_eq_true c11
          clear c11
          by_cases c12 : x10_1 < (l0_0.length : Int)
          · rw [if_pos c12] at H
            have c12b0 : decide (x10_1 < (l0_0.length : Int)) = true := decide_eq_true c12
            clear c12
            replace H := Option.bind_eq_some_iff.mp H
            obtain ⟨t163, A130, H⟩ := H
            replace H : (if x162000_1.length < 5864062014805 then (impl_Memory_own.l0 k1 l0_0 (l0_0.length : Int) (wrap64 (x10_1 + 1)) (x162000_1 ++ [t163])) else (none)) = some r := H
            have A13 := Aside0.mk A130
            clear A130
            by_cases c14 : x162000_1.length < 5864062014805
            · rw [if_pos c14] at H
              have LMc14 := Aside0.mk c14
              clear c14
              obtain ⟨y166, hy166⟩ : ∃ y_ : List (List Int), y_ = (x162000_1 ++ [t163]) := ⟨_, rfl⟩
              replace H : (impl_Memory_own.l0 k1 l0_0 (l0_0.length : Int) (wrap64 (x10_1 + 1)) y166) = some r := by first | (rw [hy166]; with_reducible exact H) | (have H2_ := (Option.bind_some _ _).symm.trans H; rw [hy166]; with_reducible exact H2_) | (have H2_ := (Option.bind_some _ _).symm.trans H; with_reducible exact H2_) | with_reducible exact H | (rw [hy166]; exact H) | exact H
              have Ny166 := Aside0.mk hy166
              clear hy166
              have H' := Aside0.mk H
              clear H
              have p162 : 0 ≤ (x10_1 : Int) := of_decide_eq_true (by first | (with_reducible assumption) | assumption)
              have q162 : x10_1 < (l0_0.length : Int) := of_decide_eq_true (by first | (with_reducible assumption) | assumption)
              obtain ⟨ad162, A162_0, c162_0, e162, hx162_0, hl162_0, hi162_0⟩ := at_Lsu8 HR0_0.out x10_1 p162 q162
              cases e162
              replace hx162_0 := (HB.out.cell (World.block_lt_of_cell? w _ hx162_0)).trans hx162_0
              have HR162_0 := Aside0.mk hi162_0
              have HC162_0 := Aside0.mk hl162_0
              clear hi162_0 hl162_0
              replace p162 := eq_true p162
              replace q162 := eq_true q162
              try go_wp2
              have n0_ := Aside0.mk (Kd.S_drew HO_162000.out)
              have n1_ := Aside0.mk (blk_drew BK159.out)
              have n2_ := Aside0.mk (blk_drew BK160.out)
              have n3_ := Aside0.mk (blk_drew BK161.out)
              have n4_ := Aside0.mk (below_drew1 HB.out)
              clear HO_162000
              clear BK159
              clear BK160
              clear BK161
              clear HB
              have HO_162000 := n0_
              have BK159 := n1_
              have BK160 := n2_
              have BK161 := n3_
              have HB := n4_
              clear n0_ n1_ n2_ n3_ n4_
              refine start_ (n := 8) (S := fun w' => w'.cell? ⟨gb161, 0, none⟩ = some (u162000)) (ds := [7]) #[false, false, false, false, false, false, false, false] (by kernel_rfl) rfl rfl ((blk_cell BK161.out 0).trans rfl) (fun hHeld => ?_); refine with_tabW impl_Memory_own.tab5 impl_Memory_own.bits5 (fun HT_ HW_ => ?_)
              generalize wr.drew = w15 at HO_162000 BK159 BK160 BK161 HB hHeld ⊢
              refine pure_ (i := 0) (N := some 14) (v := ?_) (a' := ?_) #[true, false, false, false, false, false, false, false] rfl rfl (any_of HT_.out (by kernel_rfl)) (fun _ _ _ h => h) (Or.inl ⟨by rfl, ?_⟩) ?_ ?_
              rotate_left
              · intro w'
                go_simp
                with_reducible rfl
              rotate_left
              · simp only [Act.put, List.setIfInBounds_toArray, List.set_cons_zero, List.set_cons_succ, i64_w, i32_w]
                rfl
              refine pure_ (i := 2) (N := some 16) (v := ?_) (a' := ?_) #[true, false, true, false, false, false, false, false] rfl rfl (any_of HT_.out (by kernel_rfl)) (fun _ _ _ h => h) (Or.inl ⟨by rfl, ?_⟩) ?_ ?_
              rotate_left
              · intro w'
                go_simp
                with_reducible rfl
              rotate_left
              · simp only [Act.put, List.setIfInBounds_toArray, List.set_cons_zero, List.set_cons_succ, i64_w, i32_w]
                rfl
              refine take_ (i := 1) (N := some 15) (v := ?_) (a' := ?_) #[true, true, true, false, false, false, false, false] rfl rfl (take_ofW HT_.out HW_.out (by kernel_rfl)) (fun _ _ _ h => h) (Or.inl ⟨by rfl, ?_⟩) hHeld ?_ ?_
              rotate_left
              · intro w' s0
                go_simp
                with_reducible rfl
              rotate_left
              · simp only [Act.put, List.setIfInBounds_toArray, List.set_cons_zero, List.set_cons_succ, i64_w, i32_w]
                rfl
              refine one_ (i := 3) (N := some 17) #[true, true, true, true, false, false, false, false] rfl rfl (one_of HT_.out (by kernel_rfl)) (by decide) (fun K hK => ?_)
              refine goes_ Try.func136 (by kernel_rfl) rfl #[.slice A162_0 (rd_Lsu8 l0_0 x10_1).length c162_0] (by rfl) rfl rfl (by (try simp only [List.map_toArray, List.map_cons, List.map_nil]); first | done | rfl | (simp only [List.length_drop, List.length_take]; rfl)) ?_
              with_reducible refine (slices_Clone_byte_byte.calls _ _ (rd_Lsu8 l0_0 x10_1) t163 _ ?side1 ?side2 A13.out).mono ?_
              (case side1 => repeat (first | exact (Kd.C_below HR162_0.out HB.out) | (with_reducible refine Kd.C_alloc ?_ _) | (with_reducible refine Kd.C_drewN ?_ _) | (with_reducible refine Kd.C_drew ?_)))
              (case side2 => exact HC162_0.out)
              rintro e w16 ⟨v164, rfl, ho0, hb⟩
              refine ⟨_, rfl, ?_⟩
              have n0_ := Aside0.mk (Kd.S_elder' (by (with_reducible repeat (first | apply Kd.S_alloc | apply Kd.S_drewN | apply Kd.S_drew)); exact HO_162000.out) (Kd.R_base ho0) hb)
              have n1_ := Aside0.mk (Kd.R_lower ho0 (below_size (by repeat (first | (with_reducible first | exact HB.out | apply below_alloc | apply pw_below_drewN | apply below_drew1 | refine below_set ?_ GE159.out | refine below_set ?_ GE160.out | refine below_set ?_ GE161.out) | exact HB.out))))
              have n2_ := Aside0.mk (blk_below (g := gb159) (o := .cells #[.slice (some ad162) l0_0.length c0_0] 26 (0, 0)) (by (with_reducible repeat (first | refine blk_drewN ?_ _ | refine blk_drew ?_ | refine blk_alloc ?_ _)); exact BK159.out) hb)
              have n3_ := Aside0.mk (blk_below (g := gb160) (o := .cells #[.slice none 0 0] 26 (0, 0)) (by (with_reducible repeat (first | refine blk_drewN ?_ _ | refine blk_drew ?_ | refine blk_alloc ?_ _)); exact BK160.out) hb)
              have n4_ := Aside0.mk (blk_below (g := gb161) (o := .cells #[u162000] 26 (0, 0)) (by (with_reducible repeat (first | refine blk_drewN ?_ _ | refine blk_drew ?_ | refine blk_alloc ?_ _)); exact BK161.out) hb)
              have n5_ := Aside0.mk (below_step (by repeat (first | (with_reducible first | exact HB.out | apply below_alloc | apply pw_below_drewN | apply below_drew1 | refine below_set ?_ GE159.out | refine below_set ?_ GE160.out | refine below_set ?_ GE161.out) | exact HB.out)) hb)
              clear HO_162000
              clear BK159
              clear BK160
              clear BK161
              clear HB
              have HO_162000 := n0_
              have HO165 := n1_
              have BK159 := n2_
              have BK160 := n3_
              have BK161 := n4_
              have HB := n5_
              clear n0_ n1_ n2_ n3_ n4_ n5_
              (try clear hb)
              (try clear hb2)
              (try clear hk)
              (try clear hi)
              (try clear ho0)
              obtain ⟨Ao18, co18, eo18⟩ := Kd.R_slice HO165.out
              (first | subst eo18 | (injection eo18 with f1_ f2_ f3_; have f4_ := f1_.symm; have f5_ := f3_.symm; clear f1_ f2_ f3_; subst f4_; subst f5_))
              refine hK.out _ _ ((blk_cell BK161.out 0).trans rfl) (fun hHeld => ?_)
              clear hK K
              refine norm_ (a' := ?_) ?_ ?_
              rotate_left
              · show Act.put _ (some 17) _ = _
                simp only [Act.put, List.setIfInBounds_toArray, List.set_cons_zero, List.set_cons_succ, i64_w, i32_w]
                rfl
              refine one_ (i := 4) (N := some 18) #[true, true, true, true, true, false, false, false] rfl rfl (one_of HT_.out (by kernel_rfl)) (by decide) (fun K hK => ?_)
              refine value_ (w1 := ?_) (v := ?_) (by rfl) rfl ?_ ?_
              rotate_left 2
              · go_simp
                constructor
                · rfl
                · rfl
              refine hK.out _ _ ((blk_cell (blk_alloc BK161.out _) 0).trans rfl) (fun hHeld => ?_)
              clear hK K
              refine norm_ (a' := ?_) ?_ ?_
              rotate_left
              · show Act.put _ (some 18) _ = _
                simp only [Act.put, List.setIfInBounds_toArray, List.set_cons_zero, List.set_cons_succ, i64_w, i32_w]
                rfl
              refine one_ (i := 5) (N := some 19) #[true, true, true, true, true, true, false, false] rfl rfl (one_of HT_.out (by kernel_rfl)) (by decide) (fun K hK => ?_)
              refine Kd.S_append_step (Kd.slice 5 (Kd.int .u8)) (w0 := w) w.heap.size (by rfl) (.tmp 15) (.tmp 18) 22 119 (.slice none 0 0) 24 rfl Try.underlying22 info119 rfl (by decide) (by omega) u162000 x162000_1 t163 [.slice Ao18 t163.length co18] (fun _ => True) (fun k_ => some k_ = (.slice Ao18 t163.length co18 : Value).ownBlock) rfl rfl ?aP (fun k_ hk_ => ((Kd.R_mono (ok' := fun k_ => ((fun _ => True)) k_ ∧ some k_ ≠ (u162000 : Value).ownBlock) (Kd.R_apart' (HO165.out) (Kd.S_typed HO_162000.out) (by decide)) (fun k_ hk => ⟨trivial, hk.2⟩))).1 k_ hk_.symm) ?aF ?aO ?aB ?aS ?aL ?_
              (case aP => exact Kd.M_row (Kd.R_mono (Kd.R_tight rfl (Kd.R_mono (ok' := fun k_ => ((fun _ => True)) k_ ∧ some k_ ≠ (u162000 : Value).ownBlock) (Kd.R_apart' (HO165.out) (Kd.S_typed HO_162000.out) (by decide)) (fun k_ hk => ⟨trivial, hk.2⟩))) (fun _ h_ => h_)))
              (case aB => exact (by repeat (first | (with_reducible first | exact HB.out | apply below_alloc | apply pw_below_drewN | apply below_drew1 | refine below_set ?_ GE159.out | refine below_set ?_ GE160.out | refine below_set ?_ GE161.out) | exact HB.out)))
              (case aF => exact (fun _ _ => trivial))
              (case aO => exact (by (with_reducible repeat (first | apply Kd.S_alloc | apply Kd.S_drewN | apply Kd.S_drew)); exact Kd.S_mono HO_162000.out (fun k_ hk => ⟨trivial, fun e_ => hk.2 e_⟩)))
              (case aS => exact (below_size (by repeat (first | (with_reducible first | exact HB.out | apply below_alloc | apply pw_below_drewN | apply below_drew1 | refine below_set ?_ GE159.out | refine below_set ?_ GE160.out | refine below_set ?_ GE161.out) | exact HB.out))))
              (case aL => have := LMc14.out; omega)
              intro v167 w17 ho hb hg hat
              rw [← Ny166.out] at ho
              have n0_ := Aside0.mk (blk_grown (g := gb159) (o := .cells #[.slice (some ad162) l0_0.length c0_0] 26 (0, 0)) (by (with_reducible repeat (first | refine blk_drewN ?_ _ | refine blk_drew ?_ | refine blk_alloc ?_ _)); exact BK159.out) hg (Kd.S_ne HO_162000.out BK159.out (by decide)))
              have n1_ := Aside0.mk (blk_grown (g := gb160) (o := .cells #[.slice none 0 0] 26 (0, 0)) (by (with_reducible repeat (first | refine blk_drewN ?_ _ | refine blk_drew ?_ | refine blk_alloc ?_ _)); exact BK160.out) hg (Kd.S_ne HO_162000.out BK160.out (by decide)))
              have n2_ := Aside0.mk (blk_grown (g := gb161) (o := .cells #[u162000] 26 (0, 0)) (by (with_reducible repeat (first | refine blk_drewN ?_ _ | refine blk_drew ?_ | refine blk_alloc ?_ _)); exact BK161.out) hg (Kd.S_ne HO_162000.out BK161.out (by decide)))
              have n3_ := Aside0.mk (hb)
              have n4_ := Aside0.mk (ho)
              clear BK159
              clear BK160
              clear BK161
              clear HB
              clear HO_162000
              clear HO165
              have BK159 := n0_
              have BK160 := n1_
              have BK161 := n2_
              have HB := n3_
              have HO168 := n4_
              clear n0_ n1_ n2_ n3_ n4_
              clear ho hb hg hat
              obtain ⟨Ao19, co19, eo19⟩ := Kd.S_slice HO168.out
              (first | subst eo19 | (injection eo19 with f1_ f2_ f3_; have f4_ := f1_.symm; have f5_ := f3_.symm; clear f1_ f2_ f3_; subst f4_; subst f5_))
              refine hK.out _ _ ((blk_cell BK161.out 0).trans rfl) (fun hHeld => ?_)
              clear hK K
              refine norm_ (a' := ?_) ?_ ?_
              rotate_left
              · show Act.put _ (some 19) _ = _
                simp only [Act.put, List.setIfInBounds_toArray, List.set_cons_zero, List.set_cons_succ, i64_w, i32_w]
                rfl
              refine pure_ (i := 6) (N := some 20) (v := ?_) (a' := ?_) #[true, true, true, true, true, true, true, false] rfl rfl (any_of HT_.out (by kernel_rfl)) (fun _ _ _ h => h) (Or.inl ⟨by rfl, ?_⟩) ?_ ?_
              rotate_left
              · intro w'
                go_simp
                with_reducible rfl
              rotate_left
              · simp only [Act.put, List.setIfInBounds_toArray, List.set_cons_zero, List.set_cons_succ, i64_w, i32_w]
                rfl
              refine last_ (i := 7) (N := none) #[true, true, true, true, true, true, true, true] rfl rfl (one_of HT_.out (by kernel_rfl)) (by decide) (fun K hK => ?_)
              have hs20 : w17.cell? ⟨gb161, 0, none⟩ = some (u162000) := (blk_cell BK161.out 0).trans rfl
              have hfs20 := blk_frozen BK161.out 0
              have hns20_0 := NB159_161.out
              have hns20_1 := NB160_161.out
              have hms20_0 := NB161_159.out
              have hms20_1 := NB161_160.out
              refine skip_ (w1 := ?_) (by rfl) rfl ?_ ?_
              rotate_left
              · go_simp
                rfl
              refine hK.out _ _ ?_
              clear hK K
              refine done_ (done_of HT_.out (by kernel_rfl)) ?_
              try go_wp2
              go_roundg k1
              case measure => have := HK1.out; omega
              case rel => exact ⟨(wrap64 (x10_1 + 1)), (y166), (.slice Ao19 y166.length co19), (by first | rfl | (simp; done) | (simp [*]; done)), H', ⟨by have := HK1.out; omega⟩, ⟨by (with_reducible repeat (first | apply Kd.S_alloc | apply Kd.S_drewN | apply Kd.S_drew)); exact Kd.S_mono (Kd.S_far (p := ⟨gb161, 0, none⟩) (Kd.S_types HO168.out BK161.out (by decide)) (fun _ hk => hk.2) (.slice Ao19 y166.length co19)) (fun _ hk => trivial)⟩, ⟨by (with_reducible repeat (first | refine blk_drewN ?_ _ | refine blk_drew ?_ | refine blk_alloc ?_ _)); refine blk_far ?_ NB159_161.out _; (with_reducible repeat (first | refine blk_drewN ?_ _ | refine blk_drew ?_ | refine blk_alloc ?_ _)); exact BK159.out⟩, ⟨by (with_reducible repeat (first | refine blk_drewN ?_ _ | refine blk_drew ?_ | refine blk_alloc ?_ _)); refine blk_far ?_ NB160_161.out _; (with_reducible repeat (first | refine blk_drewN ?_ _ | refine blk_drew ?_ | refine blk_alloc ?_ _)); exact BK160.out⟩, ⟨by (with_reducible repeat (first | refine blk_drewN ?_ _ | refine blk_drew ?_ | refine blk_alloc ?_ _)); refine blk_put (cs := #[u162000]) ?_ 0 _ rfl; (with_reducible repeat (first | refine blk_drewN ?_ _ | refine blk_drew ?_ | refine blk_alloc ?_ _)); exact BK161.out⟩, ⟨by repeat (first | (with_reducible first | exact HB.out | apply below_alloc | apply pw_below_drewN | apply below_drew1 | refine below_set ?_ GE159.out | refine below_set ?_ GE160.out | refine below_set ?_ GE161.out) | exact HB.out)⟩⟩
            · rw [if_neg c14] at H
              exact absurd H (by simp)
          · rw [if_neg c12] at H
            exact absurd H (by simp)
        · rw [if_neg c11] at H
          exact absurd H (by simp)
      · rw [if_neg c10] at H
        have c10b0 : decide (x10_1 < (l0_0.length : Int)) = false := decide_eq_false c10
        clear c10
        obtain rfl := Option.some.inj H
        have hnb21 := NB161_159.out
        have hnc21 := NB159_161.out
        have hnb22 := NB161_160.out
        have hnc22 := NB160_161.out
        have hcz23_0 : wr.cell? ⟨gb161, 0, none⟩ = some (u162000) := (blk_cell BK161.out 0).trans rfl
        have hfz23_0 := blk_frozen BK161.out 0
        obtain ⟨Ao24, co24, eo24⟩ := Kd.S_slice HO_162000.out
        subst eo24
        have hnb25 := NB160_159.out
        have hnc25 := NB159_160.out
        have hcz26_0 : wr.cell? ⟨gb160, 0, none⟩ = some (.slice none 0 0) := (blk_cell BK160.out 0).trans rfl
        have hfz26_0 := blk_frozen BK160.out 0
        go_wp2
        refine bodyPost_ret (results_cell_row rfl _ _ gb160 26 #[.slice Ao24 x162000_1.length co24] (0, 0) _ rfl (by (with_reducible repeat (first | refine blk_drewN ?_ _ | refine blk_drew ?_ | refine blk_alloc ?_ _)); refine blk_put (cs := #[.slice none 0 0]) ?_ 0 _ rfl; (with_reducible repeat (first | refine blk_drewN ?_ _ | refine blk_drew ?_ | refine blk_alloc ?_ _)); exact BK160.out) Try.underlying26 rfl (by kernel_rfl)) rfl ?_
        exact ⟨_, by first | rfl | (simp [errW_none, errW_some] <;> rfl) | (simp [*, errW_none, errW_some] <;> rfl), by (with_reducible repeat (first | apply Kd.S_alloc | apply Kd.S_drewN | apply Kd.S_drew)); exact Kd.S_mono (Kd.S_far (p := ⟨gb160, 0, none⟩) (Kd.S_types HO_162000.out BK160.out (by decide)) (fun _ hk => hk.2) (.slice Ao24 x162000_1.length co24)) (fun _ hk => trivial), by repeat (first | (with_reducible first | exact HB.out | apply below_alloc | apply pw_below_drewN | apply below_drew1 | refine below_set ?_ GE159.out | refine below_set ?_ GE160.out | refine below_set ?_ GE161.out) | exact HB.out)⟩

end Go.Proofs.Ytoomjghabiojkaa.P


namespace Go.Proofs.Ytoomjghabiojkaa.P
open Go.RowKit Go.Proofs.YtoomjghabiojkaaW.PrintWords Go.Proofs.YtoomjghabiojkaaW.PrintLast Go.Proofs.YtoomjghabiojkaaW.PrintMore
attribute [local go_sem] max2_int min2_int max_two min_two max_three min_three max_four min_four   -- for this text's walks alone
set_option linter.unusedVariables false
set_option linter.unusedSimpArgs false

def spec_l2Own.l0 : Nat → Int → List (List Int) → List (List Int) → Option ((List (List Int)))
  | 0, _, _, _ => none
  | k + 1, x4, x109000, x114000 => if x4 < (x109000.length : Int) then ((some (([] : List Int) : List Int)).bind fun y114 => (if 0 ≤ x4 then (if y114.length + (rd_Lsu8 x109000 x4).length < 140737488355328 then (if x114000.length < 5864062014805 then (spec_l2Own.l0 k (wrap64 (x4 + 1)) x109000 (x114000 ++ [(y114 ++ (rd_Lsu8 x109000 x4))])) else (none)) else (none)) else (none))) else (some x114000)
def spec_l2Own.f (k : Nat) (l0_0 : List (List Int)) : Option ((List (List Int))) := spec_l2Own.l0 k 0 l0_0 (([] : List (List Int)))
def spec_l2Own.T5 : Bool × List (List Nat × List Nat) := (true, [([], []), ([0], [0]), ([], []), ([], []), ([3], [3]), ([], []), ([4, 5], [4, 5]), ([6], [6]), ([2, 7], [2, 7]), ([8], [8]), ([1, 9, 8], [1, 9]), ([0, 1, 2, 3, 4, 5, 6, 7, 8, 9, 10], []), ([11, 10, 10, 0, 1, 2, 3, 4, 5, 6, 7, 8, 9, 10], [10, 11])])
def spec_l2Own.B5 : List Nat := [0, 1, 0, 0, 8, 0, 56, 120, 252, 508, 1023, 2047, 4095]
theorem spec_l2Own.tab5 : rtab .any (opsOf Try.f89 5) = spec_l2Own.T5 := by kernel_rfl
theorem spec_l2Own.bits5 : waitsOk spec_l2Own.T5.2 spec_l2Own.B5 = true := by kernel_rfl
set_option maxHeartbeats 8000000 in
set_option maxRecDepth 100000 in
theorem spec_l2Own.calls (k : Nat) (A0_0 : Option Addr) (c0_0 : Nat) (l0_0 : List (List Int)) (r : List (List Int)) (w : World) (hr0_0 : Kd.C (Kd.slice 5 (Kd.int .u8)) w A0_0 l0_0.length l0_0) (hc0_0 : l0_0.length ≤ c0_0) (h : spec_l2Own.f k l0_0 = some r) :
    Calls Try.prog 89 #[.agg #[.slice A0_0 l0_0.length c0_0]] w fun e w' => ∃ v0_ : Value, e = .returned (.agg #[v0_]) ∧ Kd.S (Kd.slice 5 (Kd.int .u8)) 119 w' w.heap.size (fun _ => True) v0_ r ∧ Below w.heap.size w w' := by
  have hu26 := Try.underlying26
  have HR0_0 := Aside0.mk hr0_0
  have HC0_0 := Aside0.mk hc0_0
  clear hr0_0 hc0_0
  have HB := Aside0.mk (Below.refl w.heap.size w)
  have H : (spec_l2Own.l0 k 0 l0_0 (([] : List (List Int)))) = some r := h
  clear h
  obtain ⟨y110, hy110⟩ : ∃ y_ : List (List Int), y_ = (([] : List (List Int))) := ⟨_, rfl⟩
  replace H : (spec_l2Own.l0 k 0 l0_0 y110) = some r := by first | (rw [hy110]; with_reducible exact H) | (have H2_ := (Option.bind_some _ _).symm.trans H; rw [hy110]; with_reducible exact H2_) | (have H2_ := (Option.bind_some _ _).symm.trans H; with_reducible exact H2_) | with_reducible exact H | (rw [hy110]; exact H) | exact H
  have Ny110 := Aside0.mk hy110
  clear hy110
  have H' := Aside0.mk H
  clear H
  go_enter Try.func89, Try.ntmps89
  go_wp2_with (first | ((with_reducible refine gate_dst (N := 1) rfl ?_); refine box_event ?hg (N := 1) ?hd (cs := #[.slice A0_0 l0_0.length c0_0]) (t := 26) ?hr ?_; (case hd => rfl); (case hg => rfl); (case hr => first | (go_simp; done) | (go_simp; rfl)); intro gb108 hg w2 hbox hb; have n0_ := Aside0.mk (below_step (by repeat (first | (with_reducible first | exact HB.out | apply below_alloc | apply pw_below_drewN | apply below_drew1) | exact HB.out)) hb); have n1_ := Aside0.mk (hbox); have n2_ := Aside0.mk ((by rw [hg]; exact (below_size (by repeat (first | (with_reducible first | exact HB.out | apply below_alloc | apply pw_below_drewN | apply below_drew1) | exact HB.out))) : w.heap.size ≤ gb108)); have n3_ := Aside0.mk ((by rw [hg]; exact (below_size (by repeat (first | (with_reducible first | exact HB.out | apply below_alloc | apply pw_below_drewN | apply below_drew1) | exact HB.out))) : w.heap.size ≤ gb108)); clear HB; have HB := n0_; have BK108 := n1_; have GW108 := n2_; have GE108 := n3_; clear n0_ n1_ n2_ n3_; clear hb hbox hg) | ((with_reducible refine gate_dst (N := 2) rfl ?_); refine box_event ?hg (N := 2) ?hd (cs := #[.slice none 0 0]) (t := 26) ?hr ?_; (case hd => rfl); (case hg => rfl); (case hr => first | (go_simp; done) | (go_simp; rfl)); intro gb109 hg w3 hbox hb; have n0_ := Aside0.mk (blk_below (g := gb108) (o := .cells #[.slice A0_0 l0_0.length c0_0] 26 (0, 0)) (by (with_reducible repeat (first | refine blk_drewN ?_ _ | refine blk_drew ?_ | refine blk_alloc ?_ _)); exact BK108.out) hb); have n1_ := Aside0.mk (below_step (by repeat (first | (with_reducible first | exact HB.out | apply below_alloc | apply pw_below_drewN | apply below_drew1 | refine below_set ?_ GE108.out) | exact HB.out)) hb); have n2_ := Aside0.mk (hbox); have n3_ := Aside0.mk ((by rw [hg]; exact (below_size (by repeat (first | (with_reducible first | exact HB.out | apply below_alloc | apply pw_below_drewN | apply below_drew1 | refine below_set ?_ GE108.out) | exact HB.out))) : w.heap.size ≤ gb109)); have n4_ := Aside0.mk ((by rw [hg]; exact (below_size (by repeat (first | (with_reducible first | exact HB.out | apply below_alloc | apply pw_below_drewN | apply below_drew1 | refine below_set ?_ GE108.out) | exact HB.out))) : w.heap.size ≤ gb109)); have n5_ := Aside0.mk ((by rw [hg]; exact Nat.ne_of_lt (blk_lt (g := gb108) (o := .cells #[.slice A0_0 l0_0.length c0_0] 26 (0, 0)) (by (with_reducible repeat (first | refine blk_drewN ?_ _ | refine blk_drew ?_ | refine blk_alloc ?_ _)); exact BK108.out)) : gb108 ≠ gb109)); have n6_ := Aside0.mk ((by rw [hg]; exact Nat.ne_of_gt (blk_lt (g := gb108) (o := .cells #[.slice A0_0 l0_0.length c0_0] 26 (0, 0)) (by (with_reducible repeat (first | refine blk_drewN ?_ _ | refine blk_drew ?_ | refine blk_alloc ?_ _)); exact BK108.out)) : gb109 ≠ gb108)); clear BK108; clear HB; have BK108 := n0_; have HB := n1_; have BK109 := n2_; have GW109 := n3_; have GE109 := n4_; have NB108_109 := n5_; have NB109_108 := n6_; clear n0_ n1_ n2_ n3_ n4_ n5_ n6_; clear hb hbox hg) | ((with_reducible refine gate_dst (N := 5) rfl ?_); refine Kd.S_lit (Kd.slice 5 (Kd.int .u8)) _ 119 ?hg (N := 5) ?hd (xs := ([] : List (List Int))) (inner := []) (ok := fun _ => True) (okp := fun _ => True) ?hr ?hp (fun _ hk => hk) trivial (Below.refl _ _) (Nat.le_refl _) (by simp) ?_; (case hd => rfl); (case hg => rfl); (case hr => first | (go_simp; done) | (go_simp; rfl)); (case hp => exact (Reps.none _ _)); intro v111 w4 ho5 hb hg_ hnew_; clear hg_ hnew_; (first | rw [← Ny110.out] at ho5 | (simp only [Int.reduceToNat] at ho5; rw [← Ny110.out] at ho5)); have n0_ := Aside0.mk (Kd.S_lower ho5 (below_size (by repeat (first | (with_reducible first | exact HB.out | apply below_alloc | apply pw_below_drewN | apply below_drew1 | refine below_set ?_ GE108.out | refine below_set ?_ GE109.out) | exact HB.out)))); have n1_ := Aside0.mk (blk_below (g := gb108) (o := .cells #[.slice A0_0 l0_0.length c0_0] 26 (0, 0)) (by (with_reducible repeat (first | refine blk_drewN ?_ _ | refine blk_drew ?_ | refine blk_alloc ?_ _)); exact BK108.out) hb); have n2_ := Aside0.mk (blk_below (g := gb109) (o := .cells #[.slice none 0 0] 26 (0, 0)) (by (with_reducible repeat (first | refine blk_drewN ?_ _ | refine blk_drew ?_ | refine blk_alloc ?_ _)); exact BK109.out) hb); have n3_ := Aside0.mk (below_step (by repeat (first | (with_reducible first | exact HB.out | apply below_alloc | apply pw_below_drewN | apply below_drew1 | refine below_set ?_ GE108.out | refine below_set ?_ GE109.out) | exact HB.out)) hb); clear BK108; clear BK109; clear HB; have HO112 := n0_; have BK108 := n1_; have BK109 := n2_; have HB := n3_; clear n0_ n1_ n2_ n3_; clear hb ho5; obtain ⟨Ao6, co6, eo6⟩ := Kd.S_slice HO112.out; subst eo6) | ((with_reducible refine gate_dst (N := 3) rfl ?_); refine box_event ?hg (N := 3) ?hd (cs := #[.slice none 0 0]) (t := 26) ?hr ?_; (case hd => rfl); (case hg => rfl); (case hr => first | (go_simp; done) | (go_simp; rfl)); intro gb113 hg w7 hbox hb; have n0_ := Aside0.mk (Kd.S_below (by (with_reducible repeat (first | apply Kd.S_alloc | apply Kd.S_drewN | apply Kd.S_drew)); exact HO112.out) hb); have n1_ := Aside0.mk (blk_below (g := gb108) (o := .cells #[.slice A0_0 l0_0.length c0_0] 26 (0, 0)) (by (with_reducible repeat (first | refine blk_drewN ?_ _ | refine blk_drew ?_ | refine blk_alloc ?_ _)); exact BK108.out) hb); have n2_ := Aside0.mk (blk_below (g := gb109) (o := .cells #[.slice none 0 0] 26 (0, 0)) (by (with_reducible repeat (first | refine blk_drewN ?_ _ | refine blk_drew ?_ | refine blk_alloc ?_ _)); exact BK109.out) hb); have n3_ := Aside0.mk (below_step (by repeat (first | (with_reducible first | exact HB.out | apply below_alloc | apply pw_below_drewN | apply below_drew1 | refine below_set ?_ GE108.out | refine below_set ?_ GE109.out) | exact HB.out)) hb); have n4_ := Aside0.mk (hbox); have n5_ := Aside0.mk ((by rw [hg]; exact (below_size (by repeat (first | (with_reducible first | exact HB.out | apply below_alloc | apply pw_below_drewN | apply below_drew1 | refine below_set ?_ GE108.out | refine below_set ?_ GE109.out) | exact HB.out))) : w.heap.size ≤ gb113)); have n6_ := Aside0.mk ((by rw [hg]; exact (below_size (by repeat (first | (with_reducible first | exact HB.out | apply below_alloc | apply pw_below_drewN | apply below_drew1 | refine below_set ?_ GE108.out | refine below_set ?_ GE109.out) | exact HB.out))) : w.heap.size ≤ gb113)); have n7_ := Aside0.mk ((by rw [hg]; exact Nat.ne_of_lt (blk_lt (g := gb108) (o := .cells #[.slice A0_0 l0_0.length c0_0] 26 (0, 0)) (by (with_reducible repeat (first | refine blk_drewN ?_ _ | refine blk_drew ?_ | refine blk_alloc ?_ _)); exact BK108.out)) : gb108 ≠ gb113)); have n8_ := Aside0.mk ((by rw [hg]; exact Nat.ne_of_gt (blk_lt (g := gb108) (o := .cells #[.slice A0_0 l0_0.length c0_0] 26 (0, 0)) (by (with_reducible repeat (first | refine blk_drewN ?_ _ | refine blk_drew ?_ | refine blk_alloc ?_ _)); exact BK108.out)) : gb113 ≠ gb108)); have n9_ := Aside0.mk ((by rw [hg]; exact Nat.ne_of_lt (blk_lt (g := gb109) (o := .cells #[.slice none 0 0] 26 (0, 0)) (by (with_reducible repeat (first | refine blk_drewN ?_ _ | refine blk_drew ?_ | refine blk_alloc ?_ _)); exact BK109.out)) : gb109 ≠ gb113)); have n10_ := Aside0.mk ((by rw [hg]; exact Nat.ne_of_gt (blk_lt (g := gb109) (o := .cells #[.slice none 0 0] 26 (0, 0)) (by (with_reducible repeat (first | refine blk_drewN ?_ _ | refine blk_drew ?_ | refine blk_alloc ?_ _)); exact BK109.out)) : gb113 ≠ gb109)); clear HO112; clear BK108; clear BK109; clear HB; have HO112 := n0_; have BK108 := n1_; have BK109 := n2_; have HB := n3_; have BK113 := n4_; have GW113 := n5_; have GE113 := n6_; have NB108_113 := n7_; have NB113_108 := n8_; have NB109_113 := n9_; have NB113_109 := n10_; clear n0_ n1_ n2_ n3_ n4_ n5_ n6_ n7_ n8_ n9_ n10_; clear hb hbox hg; have hnb8 := NB113_108.out; have hnc8 := NB108_113.out; have hnb9 := NB113_109.out; have hnc9 := NB109_113.out; have hcz10_0 : w7.cell? ⟨gb113, 0, none⟩ = some (.slice none 0 0) := (blk_cell BK113.out 0).trans rfl; have hfz10_0 := blk_frozen BK113.out 0))
  go_loopg [4] k (fun kq v4 w' => ∃ (x4_1 : Int) (x114000_1 : List (List Int)) (u114000 : Value), v4 = .int .i64 x4_1 ∧ Aside0 (spec_l2Own.l0 kq x4_1 l0_0 x114000_1 = some r) ∧ Aside0 (kq ≤ k) ∧ Aside0 (Kd.S (Kd.slice 5 (Kd.int .u8)) 119 w' w.heap.size (fun _ => True) u114000 x114000_1) ∧ Aside0 (w'.heap[gb108]? = some (.cells #[(.slice A0_0 l0_0.length c0_0)] 26 (0, 0))) ∧ Aside0 (w'.heap[gb109]? = some (.cells #[(.slice none 0 0)] 26 (0, 0))) ∧ Aside0 (w'.heap[gb113]? = some (.cells #[u114000] 26 (0, 0))) ∧ Aside0 (Below w.heap.size w w'))
  case atStart => exact ⟨(0), (y110), (.slice Ao6 y110.length co6), (by first | rfl | (simp; done) | (simp [*]; done)), H', ⟨Nat.le_refl _⟩, ⟨by (with_reducible repeat (first | apply Kd.S_alloc | apply Kd.S_drewN | apply Kd.S_drew)); exact Kd.S_mono (Kd.S_far (p := ⟨gb113, 0, none⟩) (Kd.S_types HO112.out BK113.out (by decide)) (fun _ hk => hk.2) (.slice Ao6 y110.length co6)) (fun _ hk => trivial)⟩, ⟨by (with_reducible repeat (first | refine blk_drewN ?_ _ | refine blk_drew ?_ | refine blk_alloc ?_ _)); refine blk_far ?_ NB108_113.out _; (with_reducible repeat (first | refine blk_drewN ?_ _ | refine blk_drew ?_ | refine blk_alloc ?_ _)); exact BK108.out⟩, ⟨by (with_reducible repeat (first | refine blk_drewN ?_ _ | refine blk_drew ?_ | refine blk_alloc ?_ _)); refine blk_far ?_ NB109_113.out _; (with_reducible repeat (first | refine blk_drewN ?_ _ | refine blk_drew ?_ | refine blk_alloc ?_ _)); exact BK109.out⟩, ⟨by (with_reducible repeat (first | refine blk_drewN ?_ _ | refine blk_drew ?_ | refine blk_alloc ?_ _)); refine blk_put (cs := #[.slice none 0 0]) ?_ 0 _ rfl; (with_reducible repeat (first | refine blk_drewN ?_ _ | refine blk_drew ?_ | refine blk_alloc ?_ _)); exact BK113.out⟩, ⟨by repeat (first | (with_reducible first | exact HB.out | apply below_alloc | apply pw_below_drewN | apply below_drew1 | refine below_set ?_ GE108.out | refine below_set ?_ GE109.out | refine below_set ?_ GE113.out) | exact HB.out)⟩⟩
  case round =>
    clear H'
    try clear p2
    try clear c8
    try clear c9
    try clear hcz10_0
    try clear hfz10_0
    obtain ⟨x4_1, x114000_1, u114000, rfl, HA, HK1, HO_114000, BK108, BK109, BK113, HB⟩ := hrel
    cases gk with
    | zero => exact absurd HA.out (by simp [spec_l2Own.l0])
    | succ k1 =>
      have H := HA.out
      clear HA
      simp only [spec_l2Own.l0] at H
      by_cases c11 : x4_1 < (l0_0.length : Int)
      · rw [if_pos c11] at H
        have c11b0 : decide (x4_1 < (l0_0.length : Int)) = true := decide_eq_true c11
        clear c11
        obtain ⟨y114, hy114⟩ : ∃ y_ : List Int, y_ = (([] : List Int)) := ⟨_, rfl⟩
        replace H : (if 0 ≤ x4_1 then (if y114.length + (rd_Lsu8 l0_0 x4_1).length < 140737488355328 then (if x114000_1.length < 5864062014805 then (spec_l2Own.l0 k1 (wrap64 (x4_1 + 1)) l0_0 (x114000_1 ++ [(y114 ++ (rd_Lsu8 l0_0 x4_1))])) else (none)) else (none)) else (none)) = some r := by first | (rw [hy114]; with_reducible exact H) | (have H2_ := (Option.bind_some _ _).symm.trans H; rw [hy114]; with_reducible exact H2_) | (have H2_ := (Option.bind_some _ _).symm.trans H; with_reducible exact H2_) | with_reducible exact H | (rw [hy114]; exact H) | exact H
        have Ny114 := Aside0.mk hy114
        clear hy114
        by_cases c12 : 0 ≤ x4_1
        · rw [if_pos c12] at H
          have c12b0 : decide (0 ≤ x4_1) = true := decide_eq_true c12
          clear c12
          by_cases c13 : y114.length + (rd_Lsu8 l0_0 x4_1).length < 140737488355328
          · rw [if_pos c13] at H
            have LMc13 := Aside0.mk c13
            clear c13
            obtain ⟨y118, hy118⟩ : ∃ y_ : List Int, y_ = (y114 ++ (rd_Lsu8 l0_0 x4_1)) := ⟨_, rfl⟩
            replace H : (if x114000_1.length < 5864062014805 then (spec_l2Own.l0 k1 (wrap64 (x4_1 + 1)) l0_0 (x114000_1 ++ [y118])) else (none)) = some r := by first | (rw [hy118]; with_reducible exact H) | (have H2_ := (Option.bind_some _ _).symm.trans H; rw [hy118]; with_reducible exact H2_) | (have H2_ := (Option.bind_some _ _).symm.trans H; with_reducible exact H2_) | with_reducible exact H | (rw [hy118]; exact H) | exact H
            have Ny118 := Aside0.mk hy118
            clear hy118
            by_cases c14 : x114000_1.length < 5864062014805
            · rw [if_pos c14] at H
              have LMc14 := Aside0.mk c14
              clear c14
              obtain ⟨y121, hy121⟩ : ∃ y_ : List (List Int), y_ = (x114000_1 ++ [y118]) := ⟨_, rfl⟩
              replace H : (spec_l2Own.l0 k1 (wrap64 (x4_1 + 1)) l0_0 y121) = some r := by first | (rw [hy121]; with_reducible exact H) | (have H2_ := (Option.bind_some _ _).symm.trans H; rw [hy121]; with_reducible exact H2_) | (have H2_ := (Option.bind_some _ _).symm.trans H; with_reducible exact H2_) | with_reducible exact H | (rw [hy121]; exact H) | exact H
              have Ny121 := Aside0.mk hy121
              clear hy121
              have H' := Aside0.mk H
              clear H
              have hnb15 := NB108_109.out
              have hnc15 := NB109_108.out
              have hnb16 := NB108_113.out
              have hnc16 := NB113_108.out
              have hcz17_0 : wr.cell? ⟨gb108, 0, none⟩ = some (.slice A0_0 l0_0.length c0_0) := (blk_cell BK108.out 0).trans rfl
              have hfz17_0 := blk_frozen BK108.out 0
              try go_wp2
              have n0_ := Aside0.mk (Kd.S_drew HO_114000.out)
              have n1_ := Aside0.mk (blk_drew BK108.out)
              have n2_ := Aside0.mk (blk_drew BK109.out)
              have n3_ := Aside0.mk (blk_drew BK113.out)
              have n4_ := Aside0.mk (below_drew1 HB.out)
              clear HO_114000
              clear BK108
              clear BK109
              clear BK113
              clear HB
              have HO_114000 := n0_
              have BK108 := n1_
              have BK109 := n2_
              have BK113 := n3_
              have HB := n4_
              clear n0_ n1_ n2_ n3_ n4_
              have p117 : 0 ≤ (x4_1 : Int) := of_decide_eq_true (by first | (with_reducible assumption) | assumption)
              have q117 : x4_1 < (l0_0.length : Int) := of_decide_eq_true (by first | (with_reducible assumption) | assumption)
              obtain ⟨ad117, A117_0, c117_0, e117, hx117_0, hl117_0, hi117_0⟩ := at_Lsu8 HR0_0.out x4_1 p117 q117
              have hw117_0 := hx117_0
              cases e117
              replace hx117_0 := (HB.out.cell (World.block_lt_of_cell? w _ hx117_0)).trans hx117_0
              have HR117_0 := Aside0.mk hi117_0
              have HC117_0 := Aside0.mk hl117_0
              clear hi117_0 hl117_0
              replace p117 := eq_true p117
              replace q117 := eq_true q117
              refine start_ (n := 13) (S := fun w' => w'.cell? ⟨gb113, 0, none⟩ = some (u114000) ∧ w'.cell? ⟨gb108, 0, none⟩ = some (.slice (some ad117) l0_0.length c0_0) ∧ w'.cell? (ad117.add (x4_1).toNat) = some (.slice A117_0 (rd_Lsu8 l0_0 x4_1).length c117_0)) (ds := [12]) #[false, false, false, false, false, false, false, false, false, false, false, false, false] (by kernel_rfl) rfl rfl ⟨(blk_cell BK113.out 0).trans rfl, (blk_cell BK108.out 0).trans rfl, (by have h_ := ((HB.out.cell (World.block_lt_of_cell? w _ hw117_0)).trans hw117_0); first | exact h_ | (simp only [*] at h_; exact h_) | simpa [*] using h_)⟩ (fun hHeld => ?_); refine with_tabW spec_l2Own.tab5 spec_l2Own.bits5 (fun HT_ HW_ => ?_)
              generalize wr.drew = w18 at HO_114000 BK108 BK109 BK113 HB HR117_0 hx117_0 hHeld ⊢
              refine pure_ (i := 0) (N := some 14) (v := ?_) (a' := ?_) #[true, false, false, false, false, false, false, false, false, false, false, false, false] rfl rfl (any_of HT_.out (by kernel_rfl)) (fun _ _ _ h => h) (Or.inl ⟨by rfl, ?_⟩) ?_ ?_
              rotate_left
              · intro w'
                go_simp
                with_reducible rfl
              rotate_left
              · simp only [Act.put, List.setIfInBounds_toArray, List.set_cons_zero, List.set_cons_succ, i64_w, i32_w]
                rfl
              refine pure_ (i := 3) (N := some 17) (v := ?_) (a' := ?_) #[true, false, false, true, false, false, false, false, false, false, false, false, false] rfl rfl (any_of HT_.out (by kernel_rfl)) (fun _ _ _ h => h) (Or.inl ⟨by rfl, ?_⟩) ?_ ?_
              rotate_left
              · intro w'
                go_simp
                with_reducible rfl
              rotate_left
              · simp only [Act.put, List.setIfInBounds_toArray, List.set_cons_zero, List.set_cons_succ, i64_w, i32_w]
                rfl
              refine pure_ (i := 5) (N := some 19) (v := ?_) (a' := ?_) #[true, false, false, true, false, true, false, false, false, false, false, false, false] rfl rfl (any_of HT_.out (by kernel_rfl)) (fun _ _ _ h => h) (Or.inl ⟨by rfl, ?_⟩) ?_ ?_
              rotate_left
              · intro w'
                go_simp
                with_reducible rfl
              rotate_left
              · simp only [Act.put, List.setIfInBounds_toArray, List.set_cons_zero, List.set_cons_succ, i64_w, i32_w]
                rfl
              refine take_ (i := 1) (N := some 15) (v := ?_) (a' := ?_) #[true, true, false, true, false, true, false, false, false, false, false, false, false] rfl rfl (take_ofW HT_.out HW_.out (by kernel_rfl)) (fun _ _ _ h => h) (Or.inl ⟨by rfl, ?_⟩) hHeld ?_ ?_
              rotate_left
              · rintro w' ⟨s0, s1, s2⟩
                go_simp
                with_reducible rfl
              rotate_left
              · simp only [Act.put, List.setIfInBounds_toArray, List.set_cons_zero, List.set_cons_succ, i64_w, i32_w]
                rfl
              refine take_ (i := 4) (N := some 18) (v := ?_) (a' := ?_) #[true, true, false, true, true, true, false, false, false, false, false, false, false] rfl rfl (take_ofW HT_.out HW_.out (by kernel_rfl)) (fun _ _ _ h => h) (Or.inl ⟨by rfl, ?_⟩) hHeld ?_ ?_
              rotate_left
              · rintro w' ⟨s0, s1, s2⟩
                go_simp
                with_reducible rfl
              rotate_left
              · simp only [Act.put, List.setIfInBounds_toArray, List.set_cons_zero, List.set_cons_succ, i64_w, i32_w]
                rfl
              refine pure_ (i := 6) (N := some 20) (v := ?_) (a' := ?_) #[true, true, false, true, true, true, true, false, false, false, false, false, false] rfl rfl (any_of HT_.out (by kernel_rfl)) (fun _ _ _ h => h) (Or.inl ⟨by rfl, ?_⟩) ?_ ?_
              rotate_left
              · intro w'
                go_simp
                with_reducible rfl
              rotate_left
              · simp only [Act.put, List.setIfInBounds_toArray, List.set_cons_zero, List.set_cons_succ, i64_w, i32_w]
                rfl
              refine take_ (i := 7) (N := some 21) (v := ?_) (a' := ?_) #[true, true, false, true, true, true, true, true, false, false, false, false, false] rfl rfl (take_ofW HT_.out HW_.out (by kernel_rfl)) (fun _ _ _ h => h) (Or.inl ⟨by rfl, ?_⟩) hHeld ?_ ?_
              rotate_left
              · rintro w' ⟨s0, s1, s2⟩
                go_simp
                with_reducible rfl
              rotate_left
              · simp only [Act.put, List.setIfInBounds_toArray, List.set_cons_zero, List.set_cons_succ, i64_w, i32_w]
                rfl
              refine one_ (i := 2) (N := some 16) #[true, true, true, true, true, true, true, true, false, false, false, false, false] rfl rfl (one_of HT_.out (by kernel_rfl)) (by decide) (fun K hK => ?_)
              refine Kd.R_lit_step (Kd.int .u8) _ 5 ?hg (N := 16) ?hd (xs := ([] : List Int)) (inner := []) (ok := fun _ => True) (okp := fun _ => True) ?hr ?hp (fun _ hk => hk) trivial (Below.refl _ _) (Nat.le_refl _) (by simp) ?_; (case hd => rfl); (case hg => rfl); (case hr => first | (go_simp; done) | (go_simp; rfl)); (case hp => exact (Reps.none _ _))
              intro v115 w19 ho20 hb hg_ hnew_
              clear hg_ hnew_
              (first | rw [← Ny114.out] at ho20 | (simp only [Int.reduceToNat] at ho20; rw [← Ny114.out] at ho20))
              have n0_ := Aside0.mk (Kd.S_elder' (by (with_reducible repeat (first | apply Kd.S_alloc | apply Kd.S_drewN | apply Kd.S_drew)); exact HO_114000.out) (Kd.R_base ho20) hb)
              have n1_ := Aside0.mk (Kd.R_lower ho20 (below_size (by repeat (first | (with_reducible first | exact HB.out | apply below_alloc | apply pw_below_drewN | apply below_drew1 | refine below_set ?_ GE108.out | refine below_set ?_ GE109.out | refine below_set ?_ GE113.out) | exact HB.out))))
              have n2_ := Aside0.mk (blk_below (g := gb108) (o := .cells #[.slice (some ad117) l0_0.length c0_0] 26 (0, 0)) (by (with_reducible repeat (first | refine blk_drewN ?_ _ | refine blk_drew ?_ | refine blk_alloc ?_ _)); exact BK108.out) hb)
              have n3_ := Aside0.mk (blk_below (g := gb109) (o := .cells #[.slice none 0 0] 26 (0, 0)) (by (with_reducible repeat (first | refine blk_drewN ?_ _ | refine blk_drew ?_ | refine blk_alloc ?_ _)); exact BK109.out) hb)
              have n4_ := Aside0.mk (blk_below (g := gb113) (o := .cells #[u114000] 26 (0, 0)) (by (with_reducible repeat (first | refine blk_drewN ?_ _ | refine blk_drew ?_ | refine blk_alloc ?_ _)); exact BK113.out) hb)
              have n5_ := Aside0.mk (below_step (by repeat (first | (with_reducible first | exact HB.out | apply below_alloc | apply pw_below_drewN | apply below_drew1 | refine below_set ?_ GE108.out | refine below_set ?_ GE109.out | refine below_set ?_ GE113.out) | exact HB.out)) hb)
              clear HO_114000
              clear BK108
              clear BK109
              clear BK113
              clear HB
              have HO_114000 := n0_
              have HO116 := n1_
              have BK108 := n2_
              have BK109 := n3_
              have BK113 := n4_
              have HB := n5_
              clear n0_ n1_ n2_ n3_ n4_ n5_
              clear hb ho20
              refine hK.out _ _ ⟨(blk_cell BK113.out 0).trans rfl, (blk_cell BK108.out 0).trans rfl, (by have h_ := ((HB.out.cell (World.block_lt_of_cell? w _ hw117_0)).trans hw117_0); first | exact h_ | (simp only [*] at h_; exact h_) | simpa [*] using h_)⟩ (fun hHeld => ?_)
              clear hK K
              refine norm_ (a' := ?_) ?_ ?_
              rotate_left
              · show Act.put _ (some 16) _ = _
                simp only [Act.put, List.setIfInBounds_toArray, List.set_cons_zero, List.set_cons_succ, i64_w, i32_w]
                rfl
              refine one_ (i := 8) (N := some 22) #[true, true, true, true, true, true, true, true, true, false, false, false, false] rfl rfl (one_of HT_.out (by kernel_rfl)) (by decide) (fun K hK => ?_)
              refine Kd.R_append_rows_step (Kd.int .u8) (w0 := w) w.heap.size (by rfl) (.tmp 16) (.tmp 21) 119 5 (.int .u8 0) 1 rfl Try.underlying119 info5 rfl (by decide) (by omega) v115 y114 (rd_Lsu8 l0_0 x4_1) _ _ _ (fun _ => True) (fun _ => False) rfl rfl ?aO ?aR (fun _ _ h => h) (fun _ h => h.elim) ?aF ?aB ?aS ?aL ?_
              (case aR => repeat (first | exact (Kd.C_below HR117_0.out HB.out) | (with_reducible refine Kd.C_alloc ?_ _) | (with_reducible refine Kd.C_drewN ?_ _) | (with_reducible refine Kd.C_drew ?_)))
              (case aB => exact (by repeat (first | (with_reducible first | exact HB.out | apply below_alloc | apply pw_below_drewN | apply below_drew1 | refine below_set ?_ GE108.out | refine below_set ?_ GE109.out | refine below_set ?_ GE113.out) | exact HB.out)))
              (case aF => exact (fun _ _ => trivial))
              (case aO => exact (by (with_reducible repeat (first | apply Kd.R_alloc | apply Kd.R_drewN | apply Kd.R_drew)); exact HO116.out))
              (case aS => exact (below_size (by repeat (first | (with_reducible first | exact HB.out | apply below_alloc | apply pw_below_drewN | apply below_drew1 | refine below_set ?_ GE108.out | refine below_set ?_ GE109.out | refine below_set ?_ GE113.out) | exact HB.out))))
              (case aL => have := LMc13.out; omega)
              intro v119 w21 ho hb hg hat
              rw [← Ny118.out] at ho
              have n0_ := Aside0.mk (Kd.S_after (ok := (fun _ => True)) (by (with_reducible repeat (first | apply Kd.S_alloc | apply Kd.S_drewN | apply Kd.S_drew)); exact HO_114000.out) hg hat)
              have n1_ := Aside0.mk (blk_grown (g := gb108) (o := .cells #[.slice (some ad117) l0_0.length c0_0] 26 (0, 0)) (by (with_reducible repeat (first | refine blk_drewN ?_ _ | refine blk_drew ?_ | refine blk_alloc ?_ _)); exact BK108.out) hg (Kd.R_ne HO116.out BK108.out (by decide)))
              have n2_ := Aside0.mk (blk_grown (g := gb109) (o := .cells #[.slice none 0 0] 26 (0, 0)) (by (with_reducible repeat (first | refine blk_drewN ?_ _ | refine blk_drew ?_ | refine blk_alloc ?_ _)); exact BK109.out) hg (Kd.R_ne HO116.out BK109.out (by decide)))
              have n3_ := Aside0.mk (blk_grown (g := gb113) (o := .cells #[u114000] 26 (0, 0)) (by (with_reducible repeat (first | refine blk_drewN ?_ _ | refine blk_drew ?_ | refine blk_alloc ?_ _)); exact BK113.out) hg (Kd.R_ne HO116.out BK113.out (by decide)))
              have n4_ := Aside0.mk (hb)
              have n5_ := Aside0.mk (ho)
              clear HO_114000
              clear BK108
              clear BK109
              clear BK113
              clear HB
              clear HO116
              have HO_114000 := n0_
              have BK108 := n1_
              have BK109 := n2_
              have BK113 := n3_
              have HB := n4_
              have HO120 := n5_
              clear n0_ n1_ n2_ n3_ n4_ n5_
              clear ho hb hg hat
              obtain ⟨Ao23, co23, eo23⟩ := Kd.R_slice HO120.out
              (first | subst eo23 | (injection eo23 with f1_ f2_ f3_; have f4_ := f1_.symm; have f5_ := f3_.symm; clear f1_ f2_ f3_; subst f4_; subst f5_))
              refine hK.out _ _ ⟨(blk_cell BK113.out 0).trans rfl, (blk_cell BK108.out 0).trans rfl, (by have h_ := ((HB.out.cell (World.block_lt_of_cell? w _ hw117_0)).trans hw117_0); first | exact h_ | (simp only [*] at h_; exact h_) | simpa [*] using h_)⟩ (fun hHeld => ?_)
              clear hK K
              refine norm_ (a' := ?_) ?_ ?_
              rotate_left
              · show Act.put _ (some 22) _ = _
                simp only [Act.put, List.setIfInBounds_toArray, List.set_cons_zero, List.set_cons_succ, i64_w, i32_w]
                rfl
              refine one_ (i := 9) (N := some 23) #[true, true, true, true, true, true, true, true, true, true, false, false, false] rfl rfl (one_of HT_.out (by kernel_rfl)) (by decide) (fun K hK => ?_)
              refine value_ (w1 := ?_) (v := ?_) (by rfl) rfl ?_ ?_
              rotate_left 2
              · go_simp
                constructor
                · rfl
                · rfl
              refine hK.out _ _ ⟨(blk_cell (blk_alloc BK113.out _) 0).trans rfl, (blk_cell (blk_alloc BK108.out _) 0).trans rfl, (World.cell?_alloc_lt _ _ _ (World.block_lt_of_cell? _ _ ((by have h_ := ((HB.out.cell (World.block_lt_of_cell? w _ hw117_0)).trans hw117_0); first | exact h_ | (simp only [*] at h_; exact h_) | simpa [*] using h_)))).trans ((by have h_ := ((HB.out.cell (World.block_lt_of_cell? w _ hw117_0)).trans hw117_0); first | exact h_ | (simp only [*] at h_; exact h_) | simpa [*] using h_))⟩ (fun hHeld => ?_)
              clear hK K
              refine norm_ (a' := ?_) ?_ ?_
              rotate_left
              · show Act.put _ (some 23) _ = _
                simp only [Act.put, List.setIfInBounds_toArray, List.set_cons_zero, List.set_cons_succ, i64_w, i32_w]
                rfl
              refine one_ (i := 10) (N := some 24) #[true, true, true, true, true, true, true, true, true, true, true, false, false] rfl rfl (one_of HT_.out (by kernel_rfl)) (by decide) (fun K hK => ?_)
              refine Kd.S_append_step (Kd.slice 5 (Kd.int .u8)) (w0 := w) w.heap.size (by rfl) (.tmp 15) (.tmp 23) 22 119 (.slice none 0 0) 24 rfl Try.underlying22 info119 rfl (by decide) (by omega) u114000 x114000_1 y118 [.slice Ao23 y118.length co23] (fun _ => True) (fun k_ => some k_ = (.slice Ao23 y118.length co23 : Value).ownBlock) rfl rfl ?aP (fun k_ hk_ => ((Kd.R_mono (ok' := fun k_ => ((fun _ => True)) k_ ∧ some k_ ≠ (u114000 : Value).ownBlock) (Kd.R_apart' (HO120.out) (Kd.S_typed HO_114000.out) (by decide)) (fun k_ hk => ⟨trivial, hk.2⟩))).1 k_ hk_.symm) ?aF ?aO ?aB ?aS ?aL ?_
              (case aP => exact Kd.M_row (Kd.R_mono (Kd.R_tight rfl (Kd.R_mono (ok' := fun k_ => ((fun _ => True)) k_ ∧ some k_ ≠ (u114000 : Value).ownBlock) (Kd.R_apart' (HO120.out) (Kd.S_typed HO_114000.out) (by decide)) (fun k_ hk => ⟨trivial, hk.2⟩))) (fun _ h_ => h_)))
              (case aB => exact (by repeat (first | (with_reducible first | exact HB.out | apply below_alloc | apply pw_below_drewN | apply below_drew1 | refine below_set ?_ GE108.out | refine below_set ?_ GE109.out | refine below_set ?_ GE113.out) | exact HB.out)))
              (case aF => exact (fun _ _ => trivial))
              (case aO => exact (by (with_reducible repeat (first | apply Kd.S_alloc | apply Kd.S_drewN | apply Kd.S_drew)); exact Kd.S_mono HO_114000.out (fun k_ hk => ⟨trivial, fun e_ => hk.2 e_⟩)))
              (case aS => exact (below_size (by repeat (first | (with_reducible first | exact HB.out | apply below_alloc | apply pw_below_drewN | apply below_drew1 | refine below_set ?_ GE108.out | refine below_set ?_ GE109.out | refine below_set ?_ GE113.out) | exact HB.out))))
              (case aL => have := LMc14.out; omega)
              intro v122 w22 ho hb hg hat
              rw [← Ny121.out] at ho
              have n0_ := Aside0.mk (blk_grown (g := gb108) (o := .cells #[.slice (some ad117) l0_0.length c0_0] 26 (0, 0)) (by (with_reducible repeat (first | refine blk_drewN ?_ _ | refine blk_drew ?_ | refine blk_alloc ?_ _)); exact BK108.out) hg (Kd.S_ne HO_114000.out BK108.out (by decide)))
              have n1_ := Aside0.mk (blk_grown (g := gb109) (o := .cells #[.slice none 0 0] 26 (0, 0)) (by (with_reducible repeat (first | refine blk_drewN ?_ _ | refine blk_drew ?_ | refine blk_alloc ?_ _)); exact BK109.out) hg (Kd.S_ne HO_114000.out BK109.out (by decide)))
              have n2_ := Aside0.mk (blk_grown (g := gb113) (o := .cells #[u114000] 26 (0, 0)) (by (with_reducible repeat (first | refine blk_drewN ?_ _ | refine blk_drew ?_ | refine blk_alloc ?_ _)); exact BK113.out) hg (Kd.S_ne HO_114000.out BK113.out (by decide)))
              have n3_ := Aside0.mk (hb)
              have n4_ := Aside0.mk (ho)
              clear BK108
              clear BK109
              clear BK113
              clear HB
              clear HO_114000
              clear HO120
              have BK108 := n0_
              have BK109 := n1_
              have BK113 := n2_
              have HB := n3_
              have HO123 := n4_
              clear n0_ n1_ n2_ n3_ n4_
              clear ho hb hg hat
              obtain ⟨Ao24, co24, eo24⟩ := Kd.S_slice HO123.out
              (first | subst eo24 | (injection eo24 with f1_ f2_ f3_; have f4_ := f1_.symm; have f5_ := f3_.symm; clear f1_ f2_ f3_; subst f4_; subst f5_))
              refine hK.out _ _ ⟨(blk_cell BK113.out 0).trans rfl, (blk_cell BK108.out 0).trans rfl, (by have h_ := ((HB.out.cell (World.block_lt_of_cell? w _ hw117_0)).trans hw117_0); first | exact h_ | (simp only [*] at h_; exact h_) | simpa [*] using h_)⟩ (fun hHeld => ?_)
              clear hK K
              refine norm_ (a' := ?_) ?_ ?_
              rotate_left
              · show Act.put _ (some 24) _ = _
                simp only [Act.put, List.setIfInBounds_toArray, List.set_cons_zero, List.set_cons_succ, i64_w, i32_w]
                rfl
              refine pure_ (i := 11) (N := some 25) (v := ?_) (a' := ?_) #[true, true, true, true, true, true, true, true, true, true, true, true, false] rfl rfl (any_of HT_.out (by kernel_rfl)) (fun _ _ _ h => h) (Or.inl ⟨by rfl, ?_⟩) ?_ ?_
              rotate_left
              · intro w'
                go_simp
                with_reducible rfl
              rotate_left
              · simp only [Act.put, List.setIfInBounds_toArray, List.set_cons_zero, List.set_cons_succ, i64_w, i32_w]
                rfl
              refine last_ (i := 12) (N := none) #[true, true, true, true, true, true, true, true, true, true, true, true, true] rfl rfl (one_of HT_.out (by kernel_rfl)) (by decide) (fun K hK => ?_)
              have hs25 : w22.cell? ⟨gb113, 0, none⟩ = some (u114000) := (blk_cell BK113.out 0).trans rfl
              have hfs25 := blk_frozen BK113.out 0
              have hns25_0 := NB108_113.out
              have hns25_1 := NB109_113.out
              have hms25_0 := NB113_108.out
              have hms25_1 := NB113_109.out
              refine skip_ (w1 := ?_) (by rfl) rfl ?_ ?_
              rotate_left
              · go_simp
                rfl
              refine hK.out _ _ ?_
              clear hK K
              refine done_ (done_of HT_.out (by kernel_rfl)) ?_
              try go_wp2
              go_roundg k1
              case measure => have := HK1.out; omega
              case rel => exact ⟨(wrap64 (x4_1 + 1)), (y121), (.slice Ao24 y121.length co24), (by first | rfl | (simp; done) | (simp [*]; done)), H', ⟨by have := HK1.out; omega⟩, ⟨by (with_reducible repeat (first | apply Kd.S_alloc | apply Kd.S_drewN | apply Kd.S_drew)); exact Kd.S_mono (Kd.S_far (p := ⟨gb113, 0, none⟩) (Kd.S_types HO123.out BK113.out (by decide)) (fun _ hk => hk.2) (.slice Ao24 y121.length co24)) (fun _ hk => trivial)⟩, ⟨by (with_reducible repeat (first | refine blk_drewN ?_ _ | refine blk_drew ?_ | refine blk_alloc ?_ _)); refine blk_far ?_ NB108_113.out _; (with_reducible repeat (first | refine blk_drewN ?_ _ | refine blk_drew ?_ | refine blk_alloc ?_ _)); exact BK108.out⟩, ⟨by (with_reducible repeat (first | refine blk_drewN ?_ _ | refine blk_drew ?_ | refine blk_alloc ?_ _)); refine blk_far ?_ NB109_113.out _; (with_reducible repeat (first | refine blk_drewN ?_ _ | refine blk_drew ?_ | refine blk_alloc ?_ _)); exact BK109.out⟩, ⟨by (with_reducible repeat (first | refine blk_drewN ?_ _ | refine blk_drew ?_ | refine blk_alloc ?_ _)); refine blk_put (cs := #[u114000]) ?_ 0 _ rfl; (with_reducible repeat (first | refine blk_drewN ?_ _ | refine blk_drew ?_ | refine blk_alloc ?_ _)); exact BK113.out⟩, ⟨by repeat (first | (with_reducible first | exact HB.out | apply below_alloc | apply pw_below_drewN | apply below_drew1 | refine below_set ?_ GE108.out | refine below_set ?_ GE109.out | refine below_set ?_ GE113.out) | exact HB.out)⟩⟩
            · rw [if_neg c14] at H
              exact absurd H (by simp)
          · rw [if_neg c13] at H
            exact absurd H (by simp)
        · rw [if_neg c12] at H
          exact absurd H (by simp)
      · rw [if_neg c11] at H
        have c11b0 : decide (x4_1 < (l0_0.length : Int)) = false := decide_eq_false c11
        clear c11
        obtain rfl := Option.some.inj H
        have hnb26 := NB108_109.out
        have hnc26 := NB109_108.out
        have hnb27 := NB108_113.out
        have hnc27 := NB113_108.out
        have hcz28_0 : wr.cell? ⟨gb108, 0, none⟩ = some (.slice A0_0 l0_0.length c0_0) := (blk_cell BK108.out 0).trans rfl
        have hfz28_0 := blk_frozen BK108.out 0
        have hnb29 := NB113_109.out
        have hnc29 := NB109_113.out
        have hcz30_0 : wr.cell? ⟨gb113, 0, none⟩ = some (u114000) := (blk_cell BK113.out 0).trans rfl
        have hfz30_0 := blk_frozen BK113.out 0
        obtain ⟨Ao31, co31, eo31⟩ := Kd.S_slice HO_114000.out
        subst eo31
        have hcz32_0 : wr.cell? ⟨gb109, 0, none⟩ = some (.slice none 0 0) := (blk_cell BK109.out 0).trans rfl
        have hfz32_0 := blk_frozen BK109.out 0
        go_wp2
        refine bodyPost_ret (results_cell_row rfl _ _ gb109 26 #[.slice Ao31 x114000_1.length co31] (0, 0) _ rfl (by (with_reducible repeat (first | refine blk_drewN ?_ _ | refine blk_drew ?_ | refine blk_alloc ?_ _)); refine blk_put (cs := #[.slice none 0 0]) ?_ 0 _ rfl; (with_reducible repeat (first | refine blk_drewN ?_ _ | refine blk_drew ?_ | refine blk_alloc ?_ _)); exact BK109.out) Try.underlying26 rfl (by kernel_rfl)) rfl ?_
        exact ⟨_, by first | rfl | (simp [errW_none, errW_some] <;> rfl) | (simp [*, errW_none, errW_some] <;> rfl), by (with_reducible repeat (first | apply Kd.S_alloc | apply Kd.S_drewN | apply Kd.S_drew)); exact Kd.S_mono (Kd.S_far (p := ⟨gb109, 0, none⟩) (Kd.S_types HO_114000.out BK109.out (by decide)) (fun _ hk => hk.2) (.slice Ao31 x114000_1.length co31)) (fun _ hk => trivial), by repeat (first | (with_reducible first | exact HB.out | apply below_alloc | apply pw_below_drewN | apply below_drew1 | refine below_set ?_ GE108.out | refine below_set ?_ GE109.out | refine below_set ?_ GE113.out) | exact HB.out)⟩

end Go.Proofs.Ytoomjghabiojkaa.P


/- Copies of a memory; what is written into it. -/
namespace Go.Proofs.Ytoomjghabiojkaa.P
open Go.RowKit Go.Proofs.YtoomjghabiojkaaW.PrintWords
set_option linter.unusedVariables false
theorem own_ev (suf : List (List Int)) : ∀ (pre : List (List Int)), pre.length + suf.length ≤ 1048576 → (∀ x ∈ suf, x.length ≤ 1048576) →
    Ev (fun k => impl_Memory_own.l0 k (pre ++ suf) ((pre ++ suf).length : Int) (pre.length : Int) pre) (pre ++ suf) := by
  induction suf with
  | nil =>
    intro pre h1 h2
    refine Ev.step (fun k => ?_) (Ev.now _)
    simp [impl_Memory_own.l0]
  | cons x suf ih =>
    intro pre h1 h2
    simp only [List.length_cons] at h1
    refine Ev.step (f := fun k => impl_Memory_own.l0 k ((pre ++ [x]) ++ suf) (((pre ++ [x]) ++ suf).length : Int) ((pre ++ [x]).length : Int) (pre ++ [x])) (fun k => ?_) ?_
    · simp only [impl_Memory_own.l0]
      have hx := h2 x (by simp)
      rw [if_pos (by simp; omega), if_pos (by omega), if_pos (by simp; omega), rdB_mid, slices_Clone_byte_byte.f, if_pos (by omega), Option.bind_some, if_pos (by omega), wrap_len (by omega)]
      simp
    · have := ih (pre ++ [x]) (by simp; omega) (fun y hy => h2 y (by simp [hy]))
      simpa using this
theorem own_f (m : List (List Int)) (h : okM m) : Ev (fun k => impl_Memory_own.f k m) m := by
  have := own_ev m [] (by simpa using h.1) h.2.1
  simpa [impl_Memory_own.f] using this
theorem l2Own_ev (suf : List (List Int)) : ∀ (pre : List (List Int)), pre.length + suf.length ≤ 1048576 → (∀ x ∈ suf, x.length ≤ 1048576) →
    Ev (fun k => spec_l2Own.l0 k (pre.length : Int) (pre ++ suf) pre) (pre ++ suf) := by
  induction suf with
  | nil =>
    intro pre h1 h2
    refine Ev.step (fun k => ?_) (Ev.now _)
    simp [spec_l2Own.l0]
  | cons x suf ih =>
    intro pre h1 h2
    simp only [List.length_cons] at h1
    refine Ev.step (f := fun k => spec_l2Own.l0 k ((pre ++ [x]).length : Int) ((pre ++ [x]) ++ suf) (pre ++ [x])) (fun k => ?_) ?_
    · simp only [spec_l2Own.l0]
      have hx := h2 x (by simp)
      rw [if_pos (by simp; omega), Option.bind_some, if_pos (by omega), rdB_mid, if_pos (by simp; omega), if_pos (by omega), wrap_len (by omega)]
      simp
    · have := ih (pre ++ [x]) (by simp; omega) (fun y hy => h2 y (by simp [hy]))
      simpa using this
theorem l2Own_f (m : List (List Int)) (h : okM m) : Ev (fun k => spec_l2Own.f k m) m := by
  have := l2Own_ev m [] (by simpa using h.1) h.2.1
  simpa [spec_l2Own.f] using this
theorem okM_nil : okM [] := ⟨by simp, by simp, by simp [sizeBB]⟩
theorem heldMemory_f (m : List (List Int)) (h : okM m) : Ev (fun k => laws_heldMemory.f k (marksBB 1 m) 1) ((1 : Int) + (sizeBB m : Int)) := by
  refine Ev.bind (heldByteSS_f m 1 (by omega) (by have := h.2.2; omega) (by have := h.1; omega)) ?_
  rw [if_neg (by omega)]
  exact Ev.now _
theorem eqWindow_same (a b c d : Int) : laws_eqWindow.f a b c d a b c d = some true := by simp [laws_eqWindow.f]
end Go.Proofs.Ytoomjghabiojkaa.P


/- Windows on a memory: plain facts, and what writing comes to. -/
namespace Go.Proofs.Ytoomjghabiojkaa.P
open Go.RowKit Go.Proofs.YtoomjghabiojkaaW.PrintWords
set_option linter.unusedVariables false
def rowB (m : List (List Int)) (a : Int) : List Int := m.getD a.toNat []
structure WinOk (m : List (List Int)) (a s n c : Int) : Prop where
  a0 : 0 ≤ a
  a1 : a < m.length
  c0 : 0 ≤ c
  c1 : c ≤ 64
  n0 : 0 ≤ n
  n1 : n ≤ c
  s0 : 0 ≤ s
  s1 : s + c ≤ ((rowB m a).length : Int)
  r0 : 0 < (rowB m a).length
  r1 : (rowB m a).length ≤ 64
theorem WinOk.of {m : List (List Int)} {a s n c : Int} (hm : memB m = true) (h : winB m a s n c = true) : WinOk m a s n c := by
  unfold winB at h
  have h := of_decide_eq_true h
  have hi : a.toNat < m.length := by omega
  have hr : rowB m a = m[a.toNat] := by unfold rowB; rw [List.getD_eq_getElem?_getD, List.getElem?_eq_getElem hi]; rfl
  have hl := memB_rows hm (rowB m a) (by rw [hr]; exact List.getElem_mem hi)
  have he : rd_Lsu8 m a = rowB m a := rfl
  rw [he] at h
  exact ⟨by omega, by omega, by omega, by omega, by omega, by omega, by omega, by omega, by omega, by omega⟩
end Go.Proofs.Ytoomjghabiojkaa.P


/- Rows of flat elements written in place: what a loop of marks does to the cells. -/
namespace Go.Proofs.YtoomjghabiojkaaW.Mine
open Go.RowKit Go.Proofs.YtoomjghabiojkaaW.PrintWords
set_option linter.unusedVariables false
set_option linter.unusedSimpArgs false
section
variable {P : Program} {ops : Array Oper} {Q : Exit → Act → World → Prop} {w w2 : World} {a : Act} {r : List Nat} {i g : Nat} {o : Oper}
theorem mRun (ho : ops.toList[i]? = some o) (hw : Region.wanted o (yielded ops a.tmps) = true) (h : Oper.wp P o a w (wpOps P ops Q r) Q) : wpOps P ops Q (i :: r) a w := by
  rw [Array.getElem?_toList] at ho
  rw [wpOps_cons]
  unfold wpOp
  rw [ho]
  simp only
  rw [if_pos hw]
  exact .inl h
theorem mSkip (ho : ops.toList[i]? = some o) (hr : (execOp a.eval o).run P w = .ok .skip w2) (h : wpOps P ops Q r a w2) (hd : o.dst = none := by rfl) (hw : Region.wanted o (yielded ops a.tmps) = true := by rfl) : wpOps P ops Q (i :: r) a w := by
  refine mRun ho hw ?_
  unfold Oper.wp
  rw [hr]
  show wpOps P ops Q r (a.put o.dst undef) _
  rw [hd]
  exact h
theorem mReg {id n : Nat} (l : List Nat) (hn : ops.size = n) (hl : List.range n = l) (h : wpOps P ops Q l a w) : (Code.region id ops false).wp P Q a w := by
  subst hl hn
  exact wp_region h
theorem mSet {cs : Array Value} {j : Nat} {u : Value} : (w.setRow g cs).setCell ⟨g, j, none⟩ u = w.setRow g (cs.setIfInBounds j u) := by
  unfold World.setRow World.setCell
  congr 1
  apply Array.ext_getElem?
  intro k
  simp only [Array.getElem?_modify]
  by_cases e : g = k
  · subst e
    simp only [if_true]
    cases h : w.heap[g]? with
    | none => rfl
    | some x => cases x <;> rfl
  · simp only [if_neg e]
theorem mCell {c0 cs : Array Value} {t j : Nat} (h : w.heap[g]? = some (.cells c0 t (0, 0))) (hj : j < cs.size) : (w.setRow g cs).cell? ⟨g, j, none⟩ = some (cs.getD j undef) := by
  rw [blk_cell (setRow_heap w g c0 cs t _ h) j]
  simp [hj]
theorem mFrozen {c0 cs : Array Value} {t : Nat} (h : w.heap[g]? = some (.cells c0 t (0, 0))) (j : Nat) : (w.setRow g cs).frozen? ⟨g, j, none⟩ = false := blk_frozen (setRow_heap w g c0 cs t _ h) j
end
theorem setAll_toList : ∀ (us : List Value) (off : Nat) (cs : Array Value), off + us.length ≤ cs.size → (setAll cs off us).toList = cs.toList.take off ++ (us ++ cs.toList.drop (off + us.length))
  | [], off, cs, h => by simp [setAll]
  | u :: r, off, cs, h => by
    simp only [List.length_cons] at h
    have hl : off < cs.toList.length := by simp; omega
    show (setAll (cs.setIfInBounds off u) (off + 1) r).toList = _
    rw [setAll_toList r (off + 1) _ (by simp; omega), Array.toList_setIfInBounds, List.drop_set_of_lt (by omega), List.take_succ_eq_append_getElem (by simpa using hl), List.take_set_of_le (Nat.le_refl _), List.getElem_set_self]
    simp [show off + 1 + r.length = off + (r.length + 1) by omega]
section
variable {α : Type} {cells : α → List Value} {q : Nat}
theorem flat_length (hlen : ∀ x, (cells x).length = q) (l : List α) : (l.flatMap cells).length = l.length * q := by
  induction l with
  | nil => simp
  | cons x l ih => rw [List.flatMap_cons, List.length_append, ih, hlen, List.length_cons, Nat.add_mul, Nat.one_mul, Nat.add_comm]
theorem flat_step (hlen : ∀ x, (cells x).length = q) (L : List Value) (M D : List α) (x y : α) (n : Nat) (hn : n = M.length + 1 + D.length) (h : L.take (n * q) = (M ++ x :: D).flatMap cells) :
    (L.take (M.length * q) ++ (cells y ++ L.drop (M.length * q + q))).take (n * q) = (M ++ y :: D).flatMap cells := by
  have e1 : n * q = M.length * q + (q + D.length * q) := by rw [hn, Nat.add_mul, Nat.add_mul, Nat.one_mul, Nat.add_assoc]
  have hM := flat_length hlen M
  have hD := flat_length hlen D
  have h1 : L.take (M.length * q) = M.flatMap cells := by
    have := congrArg (List.take (M.length * q)) h
    rw [List.take_take, Nat.min_eq_left (by omega), List.flatMap_append, List.take_left' hM] at this
    exact this
  have h2 : (L.drop (M.length * q + q)).take (D.length * q) = D.flatMap cells := by
    have := congrArg (List.drop (M.length * q + q)) h
    rw [List.drop_take, show n * q - (M.length * q + q) = D.length * q by omega, List.flatMap_append, List.flatMap_cons] at this
    rw [this, ← List.drop_drop, List.drop_left' hM, List.drop_left' (hlen x)]
  rw [h1, e1, List.flatMap_append, List.flatMap_cons]
  have e2 : (M.flatMap cells).length + ((cells y).length + D.length * q) = M.length * q + (q + D.length * q) := by rw [hM, hlen]
  rw [← e2, List.take_length_add_append, List.take_length_add_append, h2]
def marksG (mk : Int → α) (q : Nat) : Int → Nat → List α
  | _, 0 => []
  | a, n + 1 => mk a :: marksG mk q (a + q) n
theorem marksG_length (mk : Int → α) : ∀ (n : Nat) (a : Int), (marksG mk q a n).length = n
  | 0, _ => rfl
  | n + 1, a => by simp [marksG, marksG_length mk n]
theorem marksG_snoc (mk : Int → α) : ∀ (n : Nat) (a : Int), marksG mk q a (n + 1) = marksG mk q a n ++ [mk (a + q * n)]
  | 0, a => by simp [marksG]
  | n + 1, a => by
    rw [marksG, marksG_snoc mk n (a + q), marksG, List.cons_append]
    rw [show a + (q : Int) + (q : Int) * (n : Int) = a + (q : Int) * ((n + 1 : Nat) : Int) by push_cast; rw [Int.mul_add, Int.mul_one]; omega]
theorem marks_round (hlen : ∀ x, (cells x).length = q) (mk : Int → α) (a : Int) (l : List α) (i : Nat) (hi : i < l.length) {c c' : Array Value} (h : c.toList.take (l.length * q) = (marksG mk q a i ++ l.drop i).flatMap cells) (hs : l.length * q ≤ c.size) (hc : c' = setAll c (i * q) (cells (mk (a + q * i)))) :
    c'.toList.take (l.length * q) = (marksG mk q a (i + 1) ++ l.drop (i + 1)).flatMap cells := by
  have hb : i * q + q ≤ l.length * q := by
    have := Nat.mul_le_mul_right q hi
    rw [Nat.succ_mul] at this
    exact this
  subst hc
  rw [setAll_toList _ _ _ (by rw [hlen]; omega), hlen, marksG_snoc, List.append_assoc, List.singleton_append]
  rw [List.drop_eq_getElem_cons hi] at h
  have := flat_step hlen c.toList (marksG mk q a i) (l.drop (i + 1)) l[i] (mk (a + q * i)) l.length (by rw [marksG_length, List.length_drop]; omega) h
  rw [marksG_length] at this
  exact this
variable {d : Kd α}
structure FlatK (d : Kd α) (cells : α → List Value) (q : Nat) : Prop where
  sz : d.sz = q
  len : ∀ x, (cells x).length = q
  opn : ∀ {w : World} {x : α} {cs : List Value}, d.K w x cs → cs = cells x
  mak : ∀ (w : World) (base : Nat) (ok : Nat → Prop) (x : α), d.M w base ok x (cells x)
theorem reps_flat (hlen : ∀ x, (cells x).length = q) : ∀ (l : List α) (cs : List Value), Reps (fun (x : α) c => c = cells x) q l cs → cs = l.flatMap cells
  | [], cs, h => List.eq_nil_of_length_eq_zero (by have := h.1; simpa using this)
  | x :: l, cs, h => by
    have h0 : cs.take q = cells x := by
      have := h.2 0 x rfl
      simpa using this
    have h1 := reps_flat hlen l (cs.drop q) ⟨by rw [List.length_drop, h.1, List.length_cons, Nat.add_mul, Nat.one_mul, Nat.add_sub_cancel], fun j p hp => by
      have := h.2 (j + 1) p (by simpa using hp)
      rw [List.drop_drop, show q + j * q = (j + 1) * q by rw [Nat.add_mul, Nat.one_mul, Nat.add_comm]]
      exact this⟩
    rw [List.flatMap_cons, ← h0, ← h1, List.take_append_drop]
theorem flat_reps (hlen : ∀ x, (cells x).length = q) : ∀ (l : List α), Reps (fun (x : α) c => c = cells x) q l (l.flatMap cells)
  | [] => ⟨by simp, fun j p h => by cases h⟩
  | x :: l => by
    refine ⟨flat_length hlen _, fun j p hp => ?_⟩
    cases j with
    | zero =>
      cases hp
      rw [List.flatMap_cons, Nat.zero_mul, List.drop_zero, List.take_left' (hlen _)]
    | succ j =>
      have := (flat_reps hlen l).2 j p (by simpa using hp)
      rw [List.flatMap_cons, show (j + 1) * q = q + j * q by rw [Nat.add_mul, Nat.one_mul, Nat.add_comm], ← List.drop_drop, List.drop_left' (hlen _)]
      exact this
variable {w w1 : World} {e base : Nat} {ok : Nat → Prop} {v : Value} {l : List α}
theorem cells_of_R (F : FlatK d cells q) (h : Kd.R d e w base ok v l) : w.ownsRow base e q v l.length (l.flatMap cells) := by
  obtain ⟨_, inner, ho, hr⟩ := h
  rw [F.sz] at ho hr
  have : inner = l.flatMap cells := reps_flat F.len l inner ⟨hr.1, fun j p hp => F.opn (d.K_of_M (hr.2 j p hp))⟩
  rw [← this]
  exact ho
theorem R_of_cells (F : FlatK d cells q) (ho : w.ownsRow base e q v l.length (l.flatMap cells)) (hok : ∀ k, v.ownBlock = some k → ok k) : Kd.R d e w base ok v l := by
  refine ⟨hok, l.flatMap cells, by rw [F.sz]; exact ho, ?_⟩
  rw [F.sz]
  exact ⟨(flat_reps F.len l).1, fun j p hp => by rw [(flat_reps F.len l).2 j p hp]; exact F.mak _ _ _ _⟩
theorem R_blk (F : FlatK d cells q) (h : Kd.R d e w base ok v l) (hl : 0 < l.length) :
    ∃ g cap cur, v = .slice (some ⟨g, 0, none⟩) l.length cap ∧ ok g ∧ w.heap[g]? = some (.cells cur e (0, 0)) ∧ l.length * q ≤ cur.size ∧ cur.toList.take (l.length * q) = l.flatMap cells ∧ base ≤ g ∧
      ∀ (w1 : World) (cur' : Array Value) (l' : List α), w1.heap[g]? = some (.cells cur' e (0, 0)) → cur'.size = cur.size → l'.length = l.length → cur'.toList.take (l.length * q) = l'.flatMap cells → Kd.R d e w1 base ok v l' := by
  have ho := cells_of_R F h
  rcases ho.2 with ⟨_, h0⟩ | ⟨g, cap, cur, rfl, hb, hh, hle, hmax, hsz, htk⟩
  · omega
  · refine ⟨g, cap, cur, rfl, h.1 g rfl, hh, by rw [hsz]; exact Nat.mul_le_mul_right _ hle, htk, hb, ?_⟩
    intro w1 cur' l' hh' hs hl' ht
    refine R_of_cells F ⟨by rw [flat_length F.len], .inr ⟨g, cap, cur', by rw [hl'], hb, hh', by rw [hl']; exact hle, hmax, by rw [hs, hsz], by rw [hl', ht]⟩⟩ (fun k hk => h.1 k hk)
theorem marks_fin (F : FlatK d cells q) {w0 w' : World} {P_ : Nat → Prop} {mk : Int → α} {a : Int} (hB : Below w0.heap.size w0 w) (ho : Kd.R d e w w0.heap.size P_ v l) {g cap : Nat} {cur cur' : Array Value} (hv : v = .slice (some ⟨g, 0, none⟩) l.length cap) (hg : w.heap[g]? = some (.cells cur e (0, 0))) (hP : P_ g) (hge : w0.heap.size ≤ g)
    (hback : ∀ (w1 : World) (cur' : Array Value) (l' : List α), w1.heap[g]? = some (.cells cur' e (0, 0)) → cur'.size = cur.size → l'.length = l.length → cur'.toList.take (l.length * q) = l'.flatMap cells → Kd.R d e w1 w0.heap.size P_ v l')
    (hs : cur'.size = cur.size) (ht : cur'.toList.take (l.length * q) = (marksG mk q a l.length).flatMap cells) (hw : w' = w.setRow g cur') :
    Kd.R d e w' w0.heap.size P_ v (marksG mk q a l.length) ∧ Below w0.heap.size w0 w' ∧ Kept w w' P_ := by
  subst hw
  refine ⟨hback _ cur' _ (setRow_heap w g _ _ _ _ hg) hs (marksG_length _ _ _) ht, below_setRow hB hge _, ⟨by simp, fun k _ hn => setRow_other w g k cur' (fun e_ => hn (by rw [e_]; exact hP))⟩⟩
end
def Ty (w : World) (es : List Nat) (k : Nat) : Prop := ∃ q, q ∈ es ∧ ∃ cells, w.heap[k]? = some (.cells cells q (0, 0))
theorem Ty.ne {w : World} {es es2 : List Nat} {k : Nat} (h : Ty w es k) (h2 : Ty w es2 k) (hd : ∀ q ∈ es, q ∉ es2) : False := by
  obtain ⟨q, hq, c, hc⟩ := h
  obtain ⟨q2, hq2, c2, hc2⟩ := h2
  rw [hc] at hc2
  injection hc2 with hc2
  injection hc2 with _ h3
  subst h3
  exact hd _ hq hq2
section
variable {α : Type} {d : Kd α} {w w' : World} {e base : Nat} {ok ok2 : Nat → Prop} {es : List Nat} {v : Value} {xs : List α}
theorem S_ty (h : Kd.S d e w base ok v xs) : Kd.S d e w base (fun k => (ok k ∧ k < w.heap.size) ∧ Ty w (e :: d.E) k) v xs := Kd.S_mono (Kd.S_bound h) (fun k hk => ⟨⟨hk.1, hk.2.2.1⟩, hk.2.2.2⟩)
theorem R_ty (h : Kd.R d e w base ok v xs) : Kd.R d e w base (fun k => (ok k ∧ k < w.heap.size) ∧ Ty w (e :: d.E) k) v xs := Kd.R_mono (Kd.R_bound h) (fun k hk => ⟨⟨hk.1, hk.2.2.1⟩, hk.2.2.2⟩)
theorem S_tyKept (h : Kd.S d e w base ok v xs) (hK : Kept w w' (fun k => ok2 k ∧ Ty w es k)) (hd : ∀ q ∈ e :: d.E, q ∉ es) : Kd.S d e w' base ok v xs :=
  Kd.S_mono (Kd.S_step (S_ty h) (fun k hk hlt => hK.2 k hlt (fun h2 => hk.2.ne h2.2 hd))) (fun _ hk => hk.1.1)
theorem R_tyKept (h : Kd.R d e w base ok v xs) (hK : Kept w w' (fun k => ok2 k ∧ Ty w es k)) (hd : ∀ q ∈ e :: d.E, q ∉ es) : Kd.R d e w' base ok v xs :=
  Kd.R_mono (Kd.R_step (R_ty h) (fun k hk hlt => hK.2 k hlt (fun h2 => hk.2.ne h2.2 hd))) (fun _ hk => hk.1.1)
end
end Go.Proofs.YtoomjghabiojkaaW.Mine


/- markIntS: a slice of flat elements written in place. -/
namespace Go.Proofs.Ytoomjghabiojkaa.P
open Go.RowKit Go.Proofs.YtoomjghabiojkaaW.PrintWords Go.Proofs.YtoomjghabiojkaaW.PrintMore Go.Proofs.YtoomjghabiojkaaW.Mine
open List (setIfInBounds_toArray set_cons_zero set_cons_succ)
set_option linter.unusedVariables false
set_option linter.unusedSimpArgs false
def cellsI (x : Int) : List Value := [.int .i64 x]
theorem flat_markIntS : FlatK (Kd.int .i64) cellsI 1 := ⟨rfl, fun _ => rfl, fun h => h, fun _ _ _ _ => rfl⟩
set_option maxHeartbeats 8000000 in
set_option maxRecDepth 100000 in
theorem laws_markIntS_loop (g c : Nat) (l : List Int) (a : Int) (cur : Array Value) (w : World) (hg : w.heap[g]? = some (.cells cur 3 (0, 0))) (ht : cur.toList.take (l.length * 1) = l.flatMap cellsI) (hsz : l.length * 1 ≤ cur.size) (ha : 0 ≤ a) (hb : a + 1 * l.length ≤ 4611686018427387904) :
    Calls Try.prog 92 #[.slice (some ⟨g, 0, none⟩) l.length c, .int .i64 a] w fun e w' => e = .returned (.int .i64 (a + 1 * l.length)) ∧ ∃ cur' : Array Value, cur'.size = cur.size ∧ cur'.toList.take (l.length * 1) = (marksG (fun k => k) 1 a l.length).flatMap cellsI ∧ w' = w.setRow g cur' := by
  have HG := Aside0.mk hg; have HT := Aside0.mk ht; clear hg ht
  go_enter Try.func92, Try.ntmps92
  go_wp2
  go_loopg [1, 5] (l.length + 1) (fun kq v1 v5 w' => ∃ (i : Nat) (ci : Array Value), v1 = .int .i64 (a + 1 * i) ∧ v5 = .int .i64 (i : Int) ∧ Aside0 (kq + i = l.length + 1 ∧ i ≤ l.length) ∧ Aside0 (ci.size = cur.size) ∧ Aside0 (ci.toList.take (l.length * 1) = (marksG (fun k => k) 1 a i ++ l.drop i).flatMap cellsI) ∧ Aside0 (w' = w.setRow g ci))
  case atStart => exact ⟨0, cur, by simp, rfl, ⟨rfl, Nat.zero_le _⟩, ⟨rfl⟩, ⟨by simpa [marksG] using HT.out⟩, ⟨(setRow_self w g cur _ _ HG.out).symm⟩⟩
  case round =>
    obtain ⟨i, ci, rfl, rfl, HK, HZ, HC, HW⟩ := hrel
    by_cases hi : i < l.length
    · obtain ⟨k1, rfl⟩ : ∃ q, gk = q + 1 := ⟨gk - 1, by have := HK.out; omega⟩
      have hi1 : decide ((i : Int) < (l.length : Int)) = true := decide_eq_true (by omega)
      have p5 := eq_true (show (0 : Int) ≤ (i : Int) by omega); have q5 := eq_true (show (i : Int) < (l.length : Int) by omega)
      obtain ⟨b, hbb⟩ : ∃ b : Int, b = a + 1 * i := ⟨_, rfl⟩
      have hb0 : 0 ≤ b ∧ b + 1 ≤ 4611686018427387904 := by omega
      rw [← hbb]; have HBB := Aside0.mk hbb; clear hbb
      obtain ⟨c0_, hc0_⟩ : ∃ x, x = ci := ⟨_, rfl⟩
      have hz0_ : c0_.size = cur.size := by rw [hc0_]; exact HZ.out
      rw [← hc0_] at HC; have HW2 := HW.out; subst HW2; rw [← hc0_]
      clear hc0_ HZ HW
      refine wp_seq ?_
      refine wp_seq ?_
      refine mReg [0, 1, 2, 3] rfl rfl ?_
      refine tlP (v := .int .i64 ((i : Int))) 6 rfl ?_
      simp only [Act.put, setIfInBounds_toArray, set_cons_zero, set_cons_succ]
      refine tlP (v := .slice (some ⟨g, 0, none⟩) l.length c) 7 rfl ?_
      simp only [Act.put, setIfInBounds_toArray, set_cons_zero, set_cons_succ]
      refine tlP (v := .int .i64 (l.length : Int)) 8 (hr := by go_simp; try rfl) rfl ?_
      simp only [Act.put, setIfInBounds_toArray, set_cons_zero, set_cons_succ]
      refine tlP (v := .bool true) 9 rfl ?_ (hr := by go_simp; try simp [hi])
      simp only [Act.put, setIfInBounds_toArray, set_cons_zero, set_cons_succ]
      refine tl0 ?_
      refine wp_cond_true rfl ?_
      refine wp_skip ?_
      refine thN ?_
      refine wp_seq ?_
      refine wp_block ?_
      refine wp_seq ?_
      refine mReg [0, 1, 2, 3, 4] rfl rfl ?_
      refine tlP (v := .slice (some ⟨g, 0, none⟩) l.length c) 12 rfl ?_
      simp only [Act.put, setIfInBounds_toArray, set_cons_zero, set_cons_succ]
      refine tlP (v := .int .i64 ((i : Int))) 13 rfl ?_
      simp only [Act.put, setIfInBounds_toArray, set_cons_zero, set_cons_succ]
      refine tlP (v := .int .i64 (b)) 14 rfl ?_
      simp only [Act.put, setIfInBounds_toArray, set_cons_zero, set_cons_succ]
      refine tlP (v := .pointer (some ⟨g, i, none⟩)) 15 (hr := by go_simp; try rfl) rfl ?_
      simp only [Act.put, setIfInBounds_toArray, set_cons_zero, set_cons_succ]
      have hc_ : (w.setRow g c0_).cell? ⟨g, i, none⟩ = some (c0_.getD (i) undef) := mCell HG.out (by simp only [hz0_]; omega)
      have hf_ : (w.setRow g c0_).frozen? ⟨g, i, none⟩ = false := mFrozen HG.out _
      refine mSkip (w2 := w.setRow g (c0_.setIfInBounds (i) (.int .i64 (b)))) rfl (by rw [← mSet]; go_simp; try rfl) ?_
      clear hc_ hf_
      obtain ⟨c1_, hc1_⟩ : ∃ x, x = c0_.setIfInBounds (i) (.int .i64 (b)) := ⟨_, rfl⟩
      have hz1_ : c1_.size = cur.size := by rw [hc1_, Array.size_setIfInBounds, hz0_]
      rw [← hc1_]; have HC1_ := Aside0.mk hc1_; clear hc1_
      refine tl0 ?_
      refine mReg [0, 1, 2] rfl rfl ?_
      refine tlP (v := .int .i64 (b)) 16 rfl ?_
      simp only [Act.put, setIfInBounds_toArray, set_cons_zero, set_cons_succ]
      refine tlP (v := .int .i64 (b + 1)) 17 rfl ?_ (hr := run_arith (q := .add) (k := .i64) (m := b) (n := 1) (r := b + 1) rfl rfl rfl (.inl ⟨rfl, by rw [show (b : Int) + 1 = b + 1 by omega]; exact i64_ok (n := b + 1) (by omega) (by omega)⟩))
      simp only [Act.put, setIfInBounds_toArray, set_cons_zero, set_cons_succ]
      refine tlP (v := .int .i64 (b + 1)) 1 rfl ?_
      simp only [Act.put, setIfInBounds_toArray, set_cons_zero, set_cons_succ]
      refine tlE ?_
      show Exit.inBlock _ _ _ _ _
      simp only [Exit.inBlock]
      refine thN ?_
      refine mReg [0, 1, 2] rfl rfl ?_
      refine tlP (v := .int .i64 ((i : Int))) 10 rfl ?_
      simp only [Act.put, setIfInBounds_toArray, set_cons_zero, set_cons_succ]
      refine tlP (v := .int .i64 ((i : Int) + 1)) 11 rfl ?_ (hr := run_arith (q := .add) (k := .i64) (m := (i : Int)) (n := 1) (r := (i : Int) + 1) rfl rfl rfl (.inl ⟨rfl, i64_ok (n := (i : Int) + 1) (by omega) (by omega)⟩))
      simp only [Act.put, setIfInBounds_toArray, set_cons_zero, set_cons_succ]
      refine tlP (v := .int .i64 ((i : Int) + 1)) 5 rfl ?_
      simp only [Act.put, setIfInBounds_toArray, set_cons_zero, set_cons_succ]
      refine tlE ?_
      go_wp2
      go_roundg k1
      case measure => have := HK.out; omega
      case rel => exact ⟨i + 1, c1_, by rw [HBB.out]; congr 1; push_cast; omega, by congr 1, ⟨by have := HK.out; omega, by omega⟩, ⟨hz1_⟩, ⟨marks_round flat_markIntS.len (fun k => k) a l i hi HC.out (by rw [hz0_]; exact hsz) (by rw [HC1_.out, HBB.out, Nat.mul_one]; rfl)⟩, ⟨rfl⟩⟩
    · have hkk := HK.out
      by_cases hge : i = l.length
      · subst hge
        have HW2 := HW.out; subst HW2
        go_wp2
        go_ret
        exact ⟨by first | rfl | simp, ci, HZ.out, by simpa using HC.out, rfl⟩
      · exfalso; omega
set_option maxHeartbeats 1600000 in
set_option maxRecDepth 100000 in
theorem laws_markIntS_nil (A : Option Addr) (c : Nat) (a : Int) (w : World) : Calls Try.prog 92 #[.slice A 0 c, .int .i64 a] w fun e w' => e = .returned (.int .i64 a) ∧ w' = w := by
  go_enter Try.func92, Try.ntmps92
  go_wp2
  go_loopg [1, 5] 1 (fun kq v1 v5 w' => v1 = .int .i64 a ∧ v5 = .int .i64 (0 : Int) ∧ w' = w)
  case atStart => exact ⟨rfl, rfl, rfl⟩
  case round =>
    obtain ⟨rfl, rfl, rfl⟩ := hrel
    go_wp2
    go_ret
    exact ⟨rfl, rfl⟩
def laws_markIntS.f (l : List Int) (a : Int) : Option (Int × List Int) := if 0 ≤ a ∧ a + 1 * l.length ≤ 4611686018427387904 then some (a + 1 * l.length, marksG (fun k => k) 1 a l.length) else none
theorem laws_markIntS.calls (P_ : Nat → Prop) (u : Value) (l : List Int) (a : Int) (r1 : Int) (r2 : List Int) (w0 w : World) (hB : Below w0.heap.size w0 w) (ho : Kd.R (Kd.int .i64) 3 w w0.heap.size P_ u l) (h : laws_markIntS.f l a = some (r1, r2)) :
    Calls Try.prog 92 #[u, .int .i64 a] w fun e w' => e = .returned (.int .i64 r1) ∧ Kd.R (Kd.int .i64) 3 w' w0.heap.size P_ u r2 ∧ Below w0.heap.size w0 w' ∧ Kept w w' P_ := by
  unfold laws_markIntS.f at h
  split at h
  next hh =>
    obtain ⟨rfl, rfl⟩ : a + 1 * l.length = r1 ∧ marksG (fun k => k) 1 a l.length = r2 := by simpa using h
    by_cases hl : 0 < l.length
    · obtain ⟨g, cap, cur, hv, hP, hg, hsz, htk, hge, hback⟩ := R_blk flat_markIntS ho hl
      subst hv
      refine (laws_markIntS_loop g cap l a cur w hg htk hsz hh.1 hh.2).mono ?_
      rintro e w' ⟨rfl, cur', hs', ht', hw'⟩
      exact ⟨rfl, marks_fin flat_markIntS hB ho rfl hg hP hge hback hs' ht' hw'⟩
    · obtain rfl : l = [] := List.eq_nil_of_length_eq_zero (by omega)
      obtain ⟨A, c, rfl⟩ := Kd.R_slice ho
      refine (laws_markIntS_nil A c a w).mono ?_
      rintro e w' ⟨rfl, rfl⟩
      exact ⟨by simp, ho, hB, Kept.refl _ _⟩
  next => cases h
end Go.Proofs.Ytoomjghabiojkaa.P


namespace Go.Proofs.Ytoomjghabiojkaa.P
open Go.RowKit Go.Proofs.YtoomjghabiojkaaW.PrintWords Go.Proofs.YtoomjghabiojkaaW.PrintLast Go.Proofs.YtoomjghabiojkaaW.PrintMore
attribute [local go_sem] max2_int min2_int max_two min_two max_three min_three max_four min_four   -- for this text's walks alone
set_option linter.unusedVariables false
set_option linter.unusedSimpArgs false

def laws_heldIntS.l0 : Nat → List Int → Int → Int → Option (Int)
  | 0, _, _, _ => none
  | k + 1, x0, x1, x5 => if x5 < (x0.length : Int) then (if 0 ≤ x5 then (if (rd x0 x5) = x1 then (laws_heldIntS.l0 k x0 (wrap64 (x1 + 1)) (wrap64 (x5 + 1))) else (some (-1))) else (none)) else (some x1)
def laws_heldIntS.f (k : Nat) (l0 : List Int) (a1 : Int) : Option (Int) := laws_heldIntS.l0 k l0 a1 0
set_option maxHeartbeats 8000000 in
set_option maxRecDepth 100000 in
theorem laws_heldIntS.calls (k : Nat) (A0 : Option Addr) (c0 : Nat) (l0 : List Int) (a1 : Int) (r : Int) (w : World) (hr0 : Kd.C (Kd.int .i64) w A0 l0.length l0) (hc0 : l0.length ≤ c0) (h : laws_heldIntS.f k l0 a1 = some r) :
    Calls Try.prog 93 #[.slice A0 l0.length c0, .int .i64 a1] w fun e w' => e = .returned (.int .i64 r) ∧ Drawn0 w w' := by
  have HR0 := Aside0.mk hr0
  have HC0 := Aside0.mk hc0
  clear hr0 hc0
  have H : (laws_heldIntS.l0 k l0 a1 0) = some r := h
  clear h
  have H' := Aside0.mk H
  clear H
  go_enter Try.func93, Try.ntmps93
  go_wp2
  go_loopg [1, 5] k (fun kq v1 v5 w' => ∃ (x1_1 : Int) (x5_1 : Int), v1 = .int .i64 x1_1 ∧ v5 = .int .i64 x5_1 ∧ Aside0 (laws_heldIntS.l0 kq l0 x1_1 x5_1 = some r) ∧ Aside0 (kq ≤ k) ∧ Drawn0 w w')
  case atStart => exact ⟨(a1), (0), (by first | rfl | (simp; done) | (simp [*]; done)), (by first | rfl | (simp; done) | (simp [*]; done)), H', ⟨Nat.le_refl _⟩, by repeat (first | exact Drawn0.refl _ | apply Drawn0.step)⟩
  case round =>
    clear H'
    try clear p2
    obtain ⟨x1_1, x5_1, rfl, rfl, HA, HK1, ⟨m1, rfl⟩⟩ := hrel
    cases gk with
    | zero => exact absurd HA.out (by simp [laws_heldIntS.l0])
    | succ k1 =>
      have H := HA.out
      clear HA
      simp only [laws_heldIntS.l0] at H
      by_cases c3 : x5_1 < (l0.length : Int)
      · rw [if_pos c3] at H
        have c3b0 : decide (x5_1 < (l0.length : Int)) = true := decide_eq_true c3
        clear c3
        by_cases c4 : 0 ≤ x5_1
        · rw [if_pos c4] at H
          have c4b0 : decide (0 ≤ x5_1) = true := decide_eq_true c4
          clear c4
          by_cases c5 : (rd l0 x5_1) = x1_1
          · rw [if_pos c5] at H
            have c5b0 : ((rd l0 x5_1) == x1_1) = true := beq_iff_eq.mpr c5
            have c5b1 : ((rd l0 x5_1) != x1_1) = false := bne_eq_false_iff_eq.mpr c5
            clear c5
            have H' := Aside0.mk H
            clear H
            have p361 : 0 ≤ (x5_1 : Int) := of_decide_eq_true (by first | (with_reducible assumption) | assumption)
            have q361 : x5_1 < (l0.length : Int) := of_decide_eq_true (by first | (with_reducible assumption) | assumption)
            obtain ⟨ad361, e361, hx361_0⟩ := Kd.at_int HR0.out x5_1 p361 q361
            cases e361
            replace p361 := eq_true p361
            replace q361 := eq_true q361
            go_wp2
            go_roundg k1
            case measure => have := HK1.out; omega
            case rel => exact ⟨(wrap64 (x1_1 + 1)), (wrap64 (x5_1 + 1)), (by first | rfl | (simp; done) | (simp [*]; done)), (by first | rfl | (simp; done) | (simp [*]; done)), H', ⟨by have := HK1.out; omega⟩, by repeat (first | exact Drawn0.refl _ | apply Drawn0.step)⟩
          · rw [if_neg c5] at H
            have c5b0 : ((rd l0 x5_1) == x1_1) = false := beq_eq_false_iff_ne.mpr c5
            have c5b1 : ((rd l0 x5_1) != x1_1) = true := bne_iff_ne.mpr c5
            obtain rfl := Option.some.inj H
            have p361 : 0 ≤ (x5_1 : Int) := of_decide_eq_true (by first | (with_reducible assumption) | assumption)
            have q361 : x5_1 < (l0.length : Int) := of_decide_eq_true (by first | (with_reducible assumption) | assumption)
            obtain ⟨ad361, e361, hx361_0⟩ := Kd.at_int HR0.out x5_1 p361 q361
            cases e361
            replace p361 := eq_true p361
            replace q361 := eq_true q361
            go_wp2
            go_ret
            exact ⟨by first | rfl | (simp; done) | (simp [*]; done), by repeat (first | exact Drawn0.refl _ | apply Drawn0.step)⟩
        · rw [if_neg c4] at H
          exact absurd H (by simp)
      · rw [if_neg c3] at H
        have c3b0 : decide (x5_1 < (l0.length : Int)) = false := decide_eq_false c3
        clear c3
        obtain rfl := Option.some.inj H
        go_wp2
        go_ret
        exact ⟨by first | rfl | (simp; done) | (simp [*]; done), by repeat (first | exact Drawn0.refl _ | apply Drawn0.step)⟩

end Go.Proofs.Ytoomjghabiojkaa.P


namespace Go.Proofs.Ytoomjghabiojkaa.P
open Go.RowKit Go.Proofs.YtoomjghabiojkaaW.PrintWords Go.Proofs.YtoomjghabiojkaaW.PrintLast Go.Proofs.YtoomjghabiojkaaW.PrintMore
attribute [local go_sem] max2_int min2_int max_two min_two max_three min_three max_four min_four   -- for this text's walks alone
set_option linter.unusedVariables false
set_option linter.unusedSimpArgs false

def laws_eqIntS.l0 : Nat → List Int → List Int → Int → Option (Bool)
  | 0, _, _, _ => none
  | k + 1, x0, x1, x5 => if x5 < (x0.length : Int) then (if 0 ≤ x5 then (if x5 < (x1.length : Int) then (if (rd x0 x5) = (rd x1 x5) then (laws_eqIntS.l0 k x0 x1 (wrap64 (x5 + 1))) else (some false)) else (none)) else (none)) else (some true)
def laws_eqIntS.f (k : Nat) (l0 : List Int) (l1 : List Int) : Option (Bool) := if (l0.length : Int) = (l1.length : Int) then (laws_eqIntS.l0 k l0 l1 0) else (some false)
set_option maxHeartbeats 8000000 in
set_option maxRecDepth 100000 in
theorem laws_eqIntS.calls (k : Nat) (A0 : Option Addr) (c0 : Nat) (l0 : List Int) (A1 : Option Addr) (c1 : Nat) (l1 : List Int) (r : Bool) (w : World) (hr0 : Kd.C (Kd.int .i64) w A0 l0.length l0) (hc0 : l0.length ≤ c0) (hr1 : Kd.C (Kd.int .i64) w A1 l1.length l1) (hc1 : l1.length ≤ c1) (h : laws_eqIntS.f k l0 l1 = some r) :
    Calls Try.prog 91 #[.slice A0 l0.length c0, .slice A1 l1.length c1] w fun e w' => e = .returned (.bool r) ∧ Drawn0 w w' := by
  have HR0 := Aside0.mk hr0
  have HC0 := Aside0.mk hc0
  clear hr0 hc0
  have HR1 := Aside0.mk hr1
  have HC1 := Aside0.mk hc1
  clear hr1 hc1
  have H : (if (l0.length : Int) = (l1.length : Int) then (laws_eqIntS.l0 k l0 l1 0) else (some false)) = some r := h
  clear h
  by_cases c3 : (l0.length : Int) = (l1.length : Int)
  · rw [if_pos c3] at H
    have c3b0 : ((l0.length : Int) == (l1.length : Int)) = true := beq_iff_eq.mpr c3
    have c3b1 : ((l0.length : Int) != (l1.length : Int)) = false := bne_eq_false_iff_eq.mpr c3
    have c3b2 : (l0.length == l1.length) = true := by first | simpa using c3 | (simp at c3 ⊢; omega)
    clear c3
    have H' := Aside0.mk H
    clear H
    go_enter Try.func91, Try.ntmps91
    go_wp2
    repeat (go_quiet (fail); try go_wp2)
    go_loopg [5] k (fun kq v5 w' => ∃ (x5_1 : Int), v5 = .int .i64 x5_1 ∧ Aside0 (laws_eqIntS.l0 kq l0 l1 x5_1 = some r) ∧ Aside0 (kq ≤ k) ∧ Drawn0 w w')
    case atStart => exact ⟨(0), (by first | rfl | (simp; done) | (simp [*]; done)), H', ⟨Nat.le_refl _⟩, by repeat (first | exact Drawn0.refl _ | apply Drawn0.step)⟩
    case round =>
      clear H'
      try clear c1
      try clear p2
      try clear c3
      try clear c3b0
      try clear c3b1
      try clear c3b2
      obtain ⟨x5_1, rfl, HA, HK1, ⟨m1, rfl⟩⟩ := hrel
      cases gk with
      | zero => exact absurd HA.out (by simp [laws_eqIntS.l0])
      | succ k1 =>
        have H := HA.out
        clear HA
        simp only [laws_eqIntS.l0] at H
        by_cases c4 : x5_1 < (l0.length : Int)
        · rw [if_pos c4] at H
          have c4b0 : decide (x5_1 < (l0.length : Int)) = true := decide_eq_true c4
          clear c4
          by_cases c5 : 0 ≤ x5_1
          · rw [if_pos c5] at H
            have c5b0 : decide (0 ≤ x5_1) = true := decide_eq_true c5
            clear c5
            by_cases c6 : x5_1 < (l1.length : Int)
            · rw [if_pos c6] at H
              have c6b0 : decide (x5_1 < (l1.length : Int)) = true := decide_eq_true c6
              clear c6
              by_cases c7 : (rd l0 x5_1) = (rd l1 x5_1)
              · rw [if_pos c7] at H
                have c7b0 : ((rd l0 x5_1) == (rd l1 x5_1)) = true := beq_iff_eq.mpr c7
                have c7b1 : ((rd l0 x5_1) != (rd l1 x5_1)) = false := bne_eq_false_iff_eq.mpr c7
                clear c7
                have H' := Aside0.mk H
                clear H
                have p354 : 0 ≤ (x5_1 : Int) := of_decide_eq_true (by first | (with_reducible assumption) | assumption)
                have q354 : x5_1 < (l0.length : Int) := of_decide_eq_true (by first | (with_reducible assumption) | assumption)
                obtain ⟨ad354, e354, hx354_0⟩ := Kd.at_int HR0.out x5_1 p354 q354
                cases e354
                replace p354 := eq_true p354
                replace q354 := eq_true q354
                have p355 : 0 ≤ (x5_1 : Int) := of_decide_eq_true (by first | (with_reducible assumption) | assumption)
                have q355 : x5_1 < (l1.length : Int) := of_decide_eq_true (by first | (with_reducible assumption) | assumption)
                obtain ⟨ad355, e355, hx355_0⟩ := Kd.at_int HR1.out x5_1 p355 q355
                cases e355
                replace p355 := eq_true p355
                replace q355 := eq_true q355
                go_wp2
                repeat (go_quiet (fail); try go_wp2)
                go_roundg k1
                case measure => have := HK1.out; omega
                case rel => exact ⟨(wrap64 (x5_1 + 1)), (by first | rfl | (simp; done) | (simp [*]; done)), H', ⟨by have := HK1.out; omega⟩, by repeat (first | exact Drawn0.refl _ | apply Drawn0.step)⟩
              · rw [if_neg c7] at H
                have c7b0 : ((rd l0 x5_1) == (rd l1 x5_1)) = false := beq_eq_false_iff_ne.mpr c7
                have c7b1 : ((rd l0 x5_1) != (rd l1 x5_1)) = true := bne_iff_ne.mpr c7
                obtain rfl := Option.some.inj H
                have p354 : 0 ≤ (x5_1 : Int) := of_decide_eq_true (by first | (with_reducible assumption) | assumption)
                have q354 : x5_1 < (l0.length : Int) := of_decide_eq_true (by first | (with_reducible assumption) | assumption)
                obtain ⟨ad354, e354, hx354_0⟩ := Kd.at_int HR0.out x5_1 p354 q354
                cases e354
                replace p354 := eq_true p354
                replace q354 := eq_true q354
                have p355 : 0 ≤ (x5_1 : Int) := of_decide_eq_true (by first | (with_reducible assumption) | assumption)
                have q355 : x5_1 < (l1.length : Int) := of_decide_eq_true (by first | (with_reducible assumption) | assumption)
                obtain ⟨ad355, e355, hx355_0⟩ := Kd.at_int HR1.out x5_1 p355 q355
                cases e355
                replace p355 := eq_true p355
                replace q355 := eq_true q355
                go_wp2
                repeat (go_quiet (fail); try go_wp2)
                go_ret
                exact ⟨by first | rfl | (simp; done) | (simp [*]; done), by repeat (first | exact Drawn0.refl _ | apply Drawn0.step)⟩
            · rw [if_neg c6] at H
              exact absurd H (by simp)
          · rw [if_neg c5] at H
            exact absurd H (by simp)
        · rw [if_neg c4] at H
          have c4b0 : decide (x5_1 < (l0.length : Int)) = false := decide_eq_false c4
          clear c4
          obtain rfl := Option.some.inj H
          go_wp2
          repeat (go_quiet (fail); try go_wp2)
          go_ret
          exact ⟨by first | rfl | (simp; done) | (simp [*]; done), by repeat (first | exact Drawn0.refl _ | apply Drawn0.step)⟩
  · rw [if_neg c3] at H
    have c3b0 : ((l0.length : Int) == (l1.length : Int)) = false := beq_eq_false_iff_ne.mpr c3
    have c3b1 : ((l0.length : Int) != (l1.length : Int)) = true := bne_iff_ne.mpr c3
    have c3b2 : (l0.length == l1.length) = false := by first | simpa using c3 | (simp at c3 ⊢; omega)
    obtain rfl := Option.some.inj H
    go_enter Try.func91, Try.ntmps91
    go_wp2
    repeat (go_quiet (fail); try go_wp2)
    go_ret
    exact ⟨by first | rfl | (simp; done) | (simp [*]; done), by repeat (first | exact Drawn0.refl _ | apply Drawn0.step)⟩

end Go.Proofs.Ytoomjghabiojkaa.P


/- What the laws ask of a list of numbers: equality, marks, marks held. -/
namespace Go.Proofs.Ytoomjghabiojkaa.P
open Go.RowKit Go.Proofs.YtoomjghabiojkaaW.PrintWords Go.Proofs.YtoomjghabiojkaaW.Mine
set_option linter.unusedVariables false
theorem heldIntS_ev (n : Nat) : ∀ (pre : List Int) (a : Int), 0 ≤ a → a + n ≤ 4611686018427387904 → pre.length + n ≤ 4611686018427387904 → Ev (fun k => laws_heldIntS.l0 k (pre ++ marksG (fun k => k) 1 a n) a (pre.length : Int)) (a + 1 * n) := by
  induction n with
  | zero =>
    intro pre a h0 h1 h2
    refine Ev.step (fun k => ?_) (Ev.now _)
    simp [laws_heldIntS.l0, marksG]
  | succ n ih =>
    intro pre a h0 h1 h2
    rw [show marksG (fun k => k) 1 a (n + 1) = a :: marksG (fun k => k) 1 (a + 1) n from rfl]
    refine Ev.step (f := fun k => laws_heldIntS.l0 k ((pre ++ [a]) ++ marksG (fun k => k) 1 (a + 1) n) (a + 1) ((pre ++ [a]).length : Int)) (fun k => ?_) ?_
    · simp only [laws_heldIntS.l0]
      rw [if_pos (by simp; omega), if_pos (by omega), rd_mid, if_pos rfl, wrap_ok (by omega) (by omega), wrap_len (by omega)]
      simp
    · have := ih (pre ++ [a]) (a + 1) (by omega) (by omega) (by simp; omega)
      rw [show a + 1 * ((n + 1 : Nat) : Int) = a + 1 + 1 * (n : Int) by omega]
      exact this
theorem heldIntS_f (n : Nat) (a : Int) (h0 : 0 ≤ a) (h1 : a + n ≤ 4611686018427387904) : Ev (fun k => laws_heldIntS.f k (marksG (fun k => k) 1 a n) a) (a + 1 * n) := by
  have := heldIntS_ev n [] a h0 h1 (by simp; omega)
  simpa [laws_heldIntS.f] using this
theorem eqIntS_ev (suf : List Int) : ∀ (pre : List Int), pre.length + suf.length ≤ 9223372036854775807 → Ev (fun k => laws_eqIntS.l0 k (pre ++ suf) (pre ++ suf) (pre.length : Int)) true := by
  induction suf with
  | nil =>
    intro pre h2
    refine Ev.step (fun k => ?_) (Ev.now _)
    simp [laws_eqIntS.l0]
  | cons x suf ih =>
    intro pre h2
    simp only [List.length_cons] at h2
    refine Ev.step (f := fun k => laws_eqIntS.l0 k ((pre ++ [x]) ++ suf) ((pre ++ [x]) ++ suf) ((pre ++ [x]).length : Int)) (fun k => ?_) (ih (pre ++ [x]) (by simp; omega))
    simp only [laws_eqIntS.l0]
    rw [if_pos (by simp; omega), if_pos (by omega), if_pos (by simp; omega), if_pos trivial, wrap_len (by omega)]
    simp
theorem eqIntS_f (l : List Int) (h : l.length ≤ 9223372036854775807) : Ev (fun k => laws_eqIntS.f k l l) true := by
  refine Ev.congr (fun k => ?_) (eqIntS_ev l [] (by simpa using h))
  unfold laws_eqIntS.f
  rw [if_pos rfl]
  rfl
end Go.Proofs.Ytoomjghabiojkaa.P


/- markArena: its rows written in place. -/
namespace Go.Proofs.Ytoomjghabiojkaa.P
open Go.RowKit Go.Proofs.YtoomjghabiojkaaW.PrintWords Go.Proofs.YtoomjghabiojkaaW.PrintLast Go.Proofs.YtoomjghabiojkaaW.PrintMore Go.Proofs.YtoomjghabiojkaaW.Mine
set_option linter.unusedVariables false
set_option linter.unusedSimpArgs false
def laws_markArena.f (l0 : List (List Int)) (l1 : List Int) (a : Int) : Option (Int × List (List Int) × List Int) :=
  if 0 ≤ a ∧ a + sizeBB l0 + 1 * l1.length ≤ 4611686018427387904 ∧ l0.length ≤ 4611686018427387904 then some (a + sizeBB l0 + 1 * l1.length, marksBB (a) l0, marksG (fun k => k) 1 (a + sizeBB l0) l1.length) else none
set_option maxHeartbeats 1600000 in
set_option maxRecDepth 100000 in
theorem laws_markArena.calls (P_ : Nat → Prop) (u0 u1 : Value) (l0 : List (List Int)) (l1 : List Int) (b1 b2 b3 b4 b5 : Int) (a : Int) (r1 : Int) (r2 : List (List Int)) (r3 : List Int) (w0 w : World) (hB : Below w0.heap.size w0 w) (ho0 : Kd.S (Kd.slice 5 (Kd.int .u8)) 119 w w0.heap.size P_ u0 l0) (ho1 : Kd.R (Kd.int .i64) 3 w w0.heap.size P_ u1 l1)
    (h : laws_markArena.f l0 l1 a = some (r1, r2, r3)) :
    Calls Try.prog 31 #[.agg #[u0, .int .i64 b1, .int .i64 b2, .int .i64 b3, .int .i64 b4, .int .i64 b5, u1], .int .i64 a] w fun e w' => e = .returned (.int .i64 r1) ∧ Kd.S (Kd.slice 5 (Kd.int .u8)) 119 w' w0.heap.size P_ u0 r2 ∧ Kd.R (Kd.int .i64) 3 w' w0.heap.size P_ u1 r3 ∧ Below w0.heap.size w0 w' ∧ Kept w w' P_ := by
  unfold laws_markArena.f at h
  split at h
  next hh =>
    obtain ⟨rfl, rfl, rfl⟩ : a + sizeBB l0 + 1 * l1.length = r1 ∧ marksBB (a) l0 = r2 ∧ marksG (fun k => k) 1 (a + sizeBB l0) l1.length = r3 := by simpa using h
    obtain ⟨hh0, hh1, hh2⟩ := hh
    clear h
    obtain ⟨A0, c0, rfl⟩ := Kd.S_slice ho0
    have HO0 := Aside0.mk (show Kd.S (Kd.slice 5 (Kd.int .u8)) 119 w w0.heap.size (fun k => P_ k ∧ k < w.heap.size) (.slice A0 l0.length c0) l0 from Kd.S_mono (Kd.S_bound ho0) (fun k hk => ⟨hk.1, hk.2.2.1⟩))
    obtain ⟨A1, c1, rfl⟩ := Kd.R_slice ho1
    have HO1 := Aside0.mk (show Kd.R (Kd.int .i64) 3 w w0.heap.size (fun k => P_ k ∧ k < w.heap.size) (.slice A1 l1.length c1) l1 from Kd.R_mono (Kd.R_bound ho1) (fun k hk => ⟨hk.1, hk.2.2.1⟩))
    have HB0 := Aside0.mk hB; clear hB ho0 ho1
    have HH0 := Aside0.mk hh0
    have HH1 := Aside0.mk hh1
    have HH2 := Aside0.mk hh2
    go_enter Try.func31, Try.ntmps31
    go_wp2_with (first | ((with_reducible refine gate_dst (N := 2) rfl ?_); refine box_event ?hg (N := 2) ?hd (cs := #[.slice A0 l0.length c0, .int .i64 b1, .int .i64 b2, .int .i64 b3, .int .i64 b4, .int .i64 b5, .slice A1 l1.length c1]) (t := 51) ?hr ?_; (case hd => rfl); (case hg => rfl); (case hr => first | (go_simp; done) | (go_simp; rfl)); intro g hg w1 hbox hb; have hgw : g ≥ w.heap.size := (by rw [hg]; exact Nat.le_refl _); have HO0_0 := Aside0.mk (Kd.S_below HO0.out hb); have HO1_0 := Aside0.mk (Kd.R_below HO1.out hb); have HB_0 := Aside0.mk (below_step HB0.out hb); have HK_0 := Aside0.mk (Kept.of_below hb P_); have HX_0 := Aside0.mk hbox; have HG := Aside0.mk hgw; have hcz0 : w1.cell? ⟨g, 0, none⟩ = some (.slice A0 l0.length c0) := (blk_cell hbox 0).trans rfl; clear hg hb hbox hgw) | (go_at_call 20; (refine (laws_markMemory.calls (fun k => ((P_ k ∧ k < w.heap.size) ∧ k < w1.heap.size) ∧ Ty w1 (119 :: (Kd.slice 5 (Kd.int .u8)).E) k) (.slice A0 l0.length c0) l0 (a) (a + sizeBB l0) (marksBB (a) l0) w0 _ HB_0.out (S_ty HO0_0.out) (if_pos ⟨by have := HH0.out; have := HH1.out; omega, by have := HH0.out; have := HH1.out; omega, HH2.out⟩)).mono ?_); rintro e w2 ⟨rfl, hr2, hb2, hk2⟩; have HB_1 := Aside0.mk hb2; have HK_1 := Aside0.mk (HK_0.out.then_ hk2 (fun k hk => .inl hk.1.1.1)); have HO0_1 := Aside0.mk (Kd.S_mono hr2 (fun k hk => hk.1.1)); have HO1_1 := Aside0.mk (R_tyKept HO1_0.out hk2 (by intro z hz hz2; revert hz hz2; simp [Kd.slice, Kd.int, Kd.bool, Kd.scalar, kimplWindow, Kd.iso, Kd.pair]; try omega)); have HX_1 := Aside0.mk (blk_kept HX_0.out hk2 (fun hk => absurd hk.1.1.2 (by have := HG.out; omega))); have hcz1 : w2.cell? ⟨g, 6, none⟩ = some (.slice A1 l1.length c1) := (blk_cell HX_1.out 6).trans rfl; clear hr2 hb2 hk2 hcz0) | (go_at_call 92; (refine (laws_markIntS.calls (fun k => ((P_ k ∧ k < w.heap.size) ∧ k < w2.heap.size) ∧ Ty w2 (3 :: (Kd.int .i64).E) k) (.slice A1 l1.length c1) l1 (a + sizeBB l0) (a + sizeBB l0 + 1 * l1.length) (marksG (fun k => k) 1 (a + sizeBB l0) l1.length) w0 _ HB_1.out (R_ty HO1_1.out) (if_pos ⟨by have := HH0.out; have := HH1.out; omega, by have := HH0.out; have := HH1.out; omega⟩)).mono ?_); rintro e w3 ⟨rfl, hr2, hb2, hk2⟩; have HB_2 := Aside0.mk hb2; have HK_2 := Aside0.mk (HK_1.out.then_ hk2 (fun k hk => .inl hk.1.1.1)); have HO0_2 := Aside0.mk (S_tyKept HO0_1.out hk2 (by intro z hz hz2; revert hz hz2; simp [Kd.slice, Kd.int, Kd.bool, Kd.scalar, kimplWindow, Kd.iso, Kd.pair]; try omega)); have HO1_2 := Aside0.mk (Kd.R_mono hr2 (fun k hk => hk.1.1)); clear hr2 hb2 hk2 hcz1))
    go_ret
    exact ⟨by first | rfl | simp, Kd.S_mono HO0_2.out (fun k hk => hk.1), Kd.R_mono HO1_2.out (fun k hk => hk.1), HB_2.out, HK_2.out⟩
  next => cases h
end Go.Proofs.Ytoomjghabiojkaa.P


namespace Go.Proofs.Ytoomjghabiojkaa.P
open Go.RowKit Go.Proofs.YtoomjghabiojkaaW.PrintWords Go.Proofs.YtoomjghabiojkaaW.PrintLast Go.Proofs.YtoomjghabiojkaaW.PrintMore
attribute [local go_sem] max2_int min2_int max_two min_two max_three min_three max_four min_four   -- for this text's walks alone
set_option linter.unusedVariables false
set_option linter.unusedSimpArgs false

def laws_eqArena.f (k : Nat) (l0_0 : List (List Int)) (a0_1 : Int) (a0_2 : Int) (a0_3 : Int) (a0_4 : Int) (a0_5 : Int) (l0_6 : List Int) (l1_0 : List (List Int)) (a1_1 : Int) (a1_2 : Int) (a1_3 : Int) (a1_4 : Int) (a1_5 : Int) (l1_6 : List Int) : Option (Bool) := (laws_eqMemory.f k l0_0 l1_0).bind fun t358 => (if t358 = true then ((laws_eqWindow.f a0_1 a0_2 a0_3 a0_4 a1_1 a1_2 a1_3 a1_4).bind fun t359 => (if t359 = true then (if a0_5 = a1_5 then ((laws_eqIntS.f k l0_6 l1_6).bind fun t360 => (if t360 = true then (some true) else (some false))) else (some false)) else (some false))) else (some false))
set_option maxHeartbeats 8000000 in
set_option maxRecDepth 100000 in
theorem laws_eqArena.calls (k : Nat) (A0_0 : Option Addr) (c0_0 : Nat) (l0_0 : List (List Int)) (a0_1 : Int) (a0_2 : Int) (a0_3 : Int) (a0_4 : Int) (a0_5 : Int) (A0_6 : Option Addr) (c0_6 : Nat) (l0_6 : List Int) (A1_0 : Option Addr) (c1_0 : Nat) (l1_0 : List (List Int)) (a1_1 : Int) (a1_2 : Int) (a1_3 : Int) (a1_4 : Int) (a1_5 : Int) (A1_6 : Option Addr) (c1_6 : Nat) (l1_6 : List Int) (r : Bool) (w : World) (hr0_0 : Kd.C (Kd.slice 5 (Kd.int .u8)) w A0_0 l0_0.length l0_0) (hc0_0 : l0_0.length ≤ c0_0) (hr0_6 : Kd.C (Kd.int .i64) w A0_6 l0_6.length l0_6) (hc0_6 : l0_6.length ≤ c0_6) (hr1_0 : Kd.C (Kd.slice 5 (Kd.int .u8)) w A1_0 l1_0.length l1_0) (hc1_0 : l1_0.length ≤ c1_0) (hr1_6 : Kd.C (Kd.int .i64) w A1_6 l1_6.length l1_6) (hc1_6 : l1_6.length ≤ c1_6) (h : laws_eqArena.f k l0_0 a0_1 a0_2 a0_3 a0_4 a0_5 l0_6 l1_0 a1_1 a1_2 a1_3 a1_4 a1_5 l1_6 = some r) :
    Calls Try.prog 30 #[.agg #[.slice A0_0 l0_0.length c0_0, .int .i64 a0_1, .int .i64 a0_2, .int .i64 a0_3, .int .i64 a0_4, .int .i64 a0_5, .slice A0_6 l0_6.length c0_6], .agg #[.slice A1_0 l1_0.length c1_0, .int .i64 a1_1, .int .i64 a1_2, .int .i64 a1_3, .int .i64 a1_4, .int .i64 a1_5, .slice A1_6 l1_6.length c1_6]] w fun e w' => e = .returned (.bool r) ∧ Below w.heap.size w w' := by
  have hu51 := Try.underlying51
  have hu26 := Try.underlying26
  have hu48 := Try.underlying48
  have HR0_0 := Aside0.mk hr0_0
  have HC0_0 := Aside0.mk hc0_0
  clear hr0_0 hc0_0
  have HR0_6 := Aside0.mk hr0_6
  have HC0_6 := Aside0.mk hc0_6
  clear hr0_6 hc0_6
  have HR1_0 := Aside0.mk hr1_0
  have HC1_0 := Aside0.mk hc1_0
  clear hr1_0 hc1_0
  have HR1_6 := Aside0.mk hr1_6
  have HC1_6 := Aside0.mk hc1_6
  clear hr1_6 hc1_6
  have HB := Aside0.mk (Below.refl w.heap.size w)
  have H : ((laws_eqMemory.f k l0_0 l1_0).bind fun t358 => (if t358 = true then ((laws_eqWindow.f a0_1 a0_2 a0_3 a0_4 a1_1 a1_2 a1_3 a1_4).bind fun t359 => (if t359 = true then (if a0_5 = a1_5 then ((laws_eqIntS.f k l0_6 l1_6).bind fun t360 => (if t360 = true then (some true) else (some false))) else (some false)) else (some false))) else (some false))) = some r := h
  clear h
  replace H := Option.bind_eq_some_iff.mp H
  obtain ⟨t358, A30, H⟩ := H
  replace H : (if t358 = true then ((laws_eqWindow.f a0_1 a0_2 a0_3 a0_4 a1_1 a1_2 a1_3 a1_4).bind fun t359 => (if t359 = true then (if a0_5 = a1_5 then ((laws_eqIntS.f k l0_6 l1_6).bind fun t360 => (if t360 = true then (some true) else (some false))) else (some false)) else (some false))) else (some false)) = some r := H
  have A3 := Aside0.mk A30
  clear A30
  by_cases c4 : t358 = true
  · subst c4
    have H1 : ((laws_eqWindow.f a0_1 a0_2 a0_3 a0_4 a1_1 a1_2 a1_3 a1_4).bind fun t359 => (if t359 = true then (if a0_5 = a1_5 then ((laws_eqIntS.f k l0_6 l1_6).bind fun t360 => (if t360 = true then (some true) else (some false))) else (some false)) else (some false))) = some r := by rw [if_pos rfl] at H; exact H
    clear H
    have H := H1
    clear H1
    replace H := Option.bind_eq_some_iff.mp H
    obtain ⟨t359, A50, H⟩ := H
    replace H : (if t359 = true then (if a0_5 = a1_5 then ((laws_eqIntS.f k l0_6 l1_6).bind fun t360 => (if t360 = true then (some true) else (some false))) else (some false)) else (some false)) = some r := H
    have A5 := Aside0.mk A50
    clear A50
    by_cases c6 : t359 = true
    · subst c6
      have H1 : (if a0_5 = a1_5 then ((laws_eqIntS.f k l0_6 l1_6).bind fun t360 => (if t360 = true then (some true) else (some false))) else (some false)) = some r := by rw [if_pos rfl] at H; exact H
      clear H
      have H := H1
      clear H1
      by_cases c7 : a0_5 = a1_5
      · rw [if_pos c7] at H
        have c7b0 : (a0_5 == a1_5) = true := beq_iff_eq.mpr c7
        have c7b1 : (a0_5 != a1_5) = false := bne_eq_false_iff_eq.mpr c7
        clear c7
        replace H := Option.bind_eq_some_iff.mp H
        obtain ⟨t360, A80, H⟩ := H
        replace H : (if t360 = true then (some true) else (some false)) = some r := H
        have A8 := Aside0.mk A80
        clear A80
        by_cases c9 : t360 = true
        · subst c9
          have H1 : (some true) = some r := by rw [if_pos rfl] at H; exact H
          clear H
          have H := H1
          clear H1
          obtain rfl := Option.some.inj H
          go_enter Try.func30, Try.ntmps30
          go_wp2_with (first | ((with_reducible refine gate_dst (N := 2) rfl ?_); refine box_event ?hg (N := 2) ?hd (cs := #[.slice A0_0 l0_0.length c0_0, .int .i64 a0_1, .int .i64 a0_2, .int .i64 a0_3, .int .i64 a0_4, .int .i64 a0_5, .slice A0_6 l0_6.length c0_6]) (t := 51) ?hr ?_; (case hd => rfl); (case hg => rfl); (case hr => first | (go_simp; done) | (go_simp; rfl)); intro gb356 hg w10 hbox hb; have n0_ := Aside0.mk (below_step (by repeat (first | (with_reducible first | exact HB.out | apply below_alloc | apply pw_below_drewN | apply below_drew1) | exact HB.out)) hb); have n1_ := Aside0.mk (hbox); have n2_ := Aside0.mk ((by rw [hg]; exact (below_size (by repeat (first | (with_reducible first | exact HB.out | apply below_alloc | apply pw_below_drewN | apply below_drew1) | exact HB.out))) : w.heap.size ≤ gb356)); have n3_ := Aside0.mk ((by rw [hg]; exact (below_size (by repeat (first | (with_reducible first | exact HB.out | apply below_alloc | apply pw_below_drewN | apply below_drew1) | exact HB.out))) : w.heap.size ≤ gb356)); clear HB; have HB := n0_; have BK356 := n1_; have GW356 := n2_; have GE356 := n3_; clear n0_ n1_ n2_ n3_; clear hb hbox hg) | ((with_reducible refine gate_dst (N := 3) rfl ?_); refine box_event ?hg (N := 3) ?hd (cs := #[.slice A1_0 l1_0.length c1_0, .int .i64 a1_1, .int .i64 a1_2, .int .i64 a1_3, .int .i64 a1_4, .int .i64 a1_5, .slice A1_6 l1_6.length c1_6]) (t := 51) ?hr ?_; (case hd => rfl); (case hg => rfl); (case hr => first | (go_simp; done) | (go_simp; rfl)); intro gb357 hg w11 hbox hb; have n0_ := Aside0.mk (blk_below (g := gb356) (o := .cells #[.slice A0_0 l0_0.length c0_0, .int .i64 a0_1, .int .i64 a0_2, .int .i64 a0_3, .int .i64 a0_4, .int .i64 a0_5, .slice A0_6 l0_6.length c0_6] 51 (0, 0)) (by (with_reducible repeat (first | refine blk_drewN ?_ _ | refine blk_drew ?_ | refine blk_alloc ?_ _)); exact BK356.out) hb); have n1_ := Aside0.mk (below_step (by repeat (first | (with_reducible first | exact HB.out | apply below_alloc | apply pw_below_drewN | apply below_drew1 | refine below_set ?_ GE356.out) | exact HB.out)) hb); have n2_ := Aside0.mk (hbox); have n3_ := Aside0.mk ((by rw [hg]; exact (below_size (by repeat (first | (with_reducible first | exact HB.out | apply below_alloc | apply pw_below_drewN | apply below_drew1 | refine below_set ?_ GE356.out) | exact HB.out))) : w.heap.size ≤ gb357)); have n4_ := Aside0.mk ((by rw [hg]; exact (below_size (by repeat (first | (with_reducible first | exact HB.out | apply below_alloc | apply pw_below_drewN | apply below_drew1 | refine below_set ?_ GE356.out) | exact HB.out))) : w.heap.size ≤ gb357)); have n5_ := Aside0.mk ((by rw [hg]; exact Nat.ne_of_lt (blk_lt (g := gb356) (o := .cells #[.slice A0_0 l0_0.length c0_0, .int .i64 a0_1, .int .i64 a0_2, .int .i64 a0_3, .int .i64 a0_4, .int .i64 a0_5, .slice A0_6 l0_6.length c0_6] 51 (0, 0)) (by (with_reducible repeat (first | refine blk_drewN ?_ _ | refine blk_drew ?_ | refine blk_alloc ?_ _)); exact BK356.out)) : gb356 ≠ gb357)); have n6_ := Aside0.mk ((by rw [hg]; exact Nat.ne_of_gt (blk_lt (g := gb356) (o := .cells #[.slice A0_0 l0_0.length c0_0, .int .i64 a0_1, .int .i64 a0_2, .int .i64 a0_3, .int .i64 a0_4, .int .i64 a0_5, .slice A0_6 l0_6.length c0_6] 51 (0, 0)) (by (with_reducible repeat (first | refine blk_drewN ?_ _ | refine blk_drew ?_ | refine blk_alloc ?_ _)); exact BK356.out)) : gb357 ≠ gb356)); clear BK356; clear HB; have BK356 := n0_; have HB := n1_; have BK357 := n2_; have GW357 := n3_; have GE357 := n4_; have NB356_357 := n5_; have NB357_356 := n6_; clear n0_ n1_ n2_ n3_ n4_ n5_ n6_; clear hb hbox hg; have hnb12 := NB356_357.out; have hnc12 := NB357_356.out; have hcz13_0 : w11.cell? ⟨gb356, 0, none⟩ = some (.slice A0_0 l0_0.length c0_0) := (blk_cell BK356.out 0).trans rfl; have hcz13_1 : w11.cell? ⟨gb356, 1, none⟩ = some (.int .i64 a0_1) := (blk_cell BK356.out 1).trans rfl; have hcz13_2 : w11.cell? ⟨gb356, 2, none⟩ = some (.int .i64 a0_2) := (blk_cell BK356.out 2).trans rfl; have hcz13_3 : w11.cell? ⟨gb356, 3, none⟩ = some (.int .i64 a0_3) := (blk_cell BK356.out 3).trans rfl; have hcz13_4 : w11.cell? ⟨gb356, 4, none⟩ = some (.int .i64 a0_4) := (blk_cell BK356.out 4).trans rfl; have hcz13_5 : w11.cell? ⟨gb356, 5, none⟩ = some (.int .i64 a0_5) := (blk_cell BK356.out 5).trans rfl; have hcz13_6 : w11.cell? ⟨gb356, 6, none⟩ = some (.slice A0_6 l0_6.length c0_6) := (blk_cell BK356.out 6).trans rfl; have hfz13_0 := blk_frozen BK356.out 0; have hfz13_1 := blk_frozen BK356.out 1; have hfz13_2 := blk_frozen BK356.out 2; have hfz13_3 := blk_frozen BK356.out 3; have hfz13_4 := blk_frozen BK356.out 4; have hfz13_5 := blk_frozen BK356.out 5; have hfz13_6 := blk_frozen BK356.out 6; have hcz14_0 : w11.cell? ⟨gb357, 0, none⟩ = some (.slice A1_0 l1_0.length c1_0) := (blk_cell BK357.out 0).trans rfl; have hcz14_1 : w11.cell? ⟨gb357, 1, none⟩ = some (.int .i64 a1_1) := (blk_cell BK357.out 1).trans rfl; have hcz14_2 : w11.cell? ⟨gb357, 2, none⟩ = some (.int .i64 a1_2) := (blk_cell BK357.out 2).trans rfl; have hcz14_3 : w11.cell? ⟨gb357, 3, none⟩ = some (.int .i64 a1_3) := (blk_cell BK357.out 3).trans rfl; have hcz14_4 : w11.cell? ⟨gb357, 4, none⟩ = some (.int .i64 a1_4) := (blk_cell BK357.out 4).trans rfl; have hcz14_5 : w11.cell? ⟨gb357, 5, none⟩ = some (.int .i64 a1_5) := (blk_cell BK357.out 5).trans rfl; have hcz14_6 : w11.cell? ⟨gb357, 6, none⟩ = some (.slice A1_6 l1_6.length c1_6) := (blk_cell BK357.out 6).trans rfl; have hfz14_0 := blk_frozen BK357.out 0; have hfz14_1 := blk_frozen BK357.out 1; have hfz14_2 := blk_frozen BK357.out 2; have hfz14_3 := blk_frozen BK357.out 3; have hfz14_4 := blk_frozen BK357.out 4; have hfz14_5 := blk_frozen BK357.out 5; have hfz14_6 := blk_frozen BK357.out 6) | ((with_reducible refine gate_callee (f := 19) rfl ?_); refine goesL_ (some 9) rfl rfl Try.func19 (by kernel_rfl) rfl #[.agg #[.slice A0_0 l0_0.length c0_0], .agg #[.slice A1_0 l1_0.length c1_0]] rfl (by (try simp only [List.map_toArray, List.map_cons, List.map_nil]); first | done | rfl | (simp only [List.length_drop, List.length_take]; rfl)) ?_; (with_reducible refine (laws_eqMemory.calls k _ _ l0_0 _ _ l1_0 true _ ?side1 ?side2 ?side3 ?side4 A3.out).mono ?_); (case side1 => repeat (first | exact (Kd.C_below HR0_0.out HB.out) | (with_reducible refine Kd.C_alloc ?_ _) | (with_reducible refine Kd.C_drewN ?_ _) | (with_reducible refine Kd.C_drew ?_))); (case side2 => exact HC0_0.out); (case side3 => repeat (first | exact (Kd.C_below HR1_0.out HB.out) | (with_reducible refine Kd.C_alloc ?_ _) | (with_reducible refine Kd.C_drewN ?_ _) | (with_reducible refine Kd.C_drew ?_))); (case side4 => exact HC1_0.out); rintro e w15 ⟨rfl, hb⟩; refine ⟨_, rfl, ?_⟩; have n0_ := Aside0.mk (blk_below (g := gb356) (o := .cells #[.slice A0_0 l0_0.length c0_0, .int .i64 a0_1, .int .i64 a0_2, .int .i64 a0_3, .int .i64 a0_4, .int .i64 a0_5, .slice A0_6 l0_6.length c0_6] 51 (0, 0)) (by (with_reducible repeat (first | refine blk_drewN ?_ _ | refine blk_drew ?_ | refine blk_alloc ?_ _)); exact BK356.out) hb); have n1_ := Aside0.mk (blk_below (g := gb357) (o := .cells #[.slice A1_0 l1_0.length c1_0, .int .i64 a1_1, .int .i64 a1_2, .int .i64 a1_3, .int .i64 a1_4, .int .i64 a1_5, .slice A1_6 l1_6.length c1_6] 51 (0, 0)) (by (with_reducible repeat (first | refine blk_drewN ?_ _ | refine blk_drew ?_ | refine blk_alloc ?_ _)); exact BK357.out) hb); have n2_ := Aside0.mk (below_step (by repeat (first | (with_reducible first | exact HB.out | apply below_alloc | apply pw_below_drewN | apply below_drew1 | refine below_set ?_ GE356.out | refine below_set ?_ GE357.out) | exact HB.out)) hb); clear BK356; clear BK357; clear HB; have BK356 := n0_; have BK357 := n1_; have HB := n2_; clear n0_ n1_ n2_; (try clear hb); (try clear hb2); (try clear hk); (try clear hi); have hcz16_0 : w15.cell? ⟨gb356, 0, none⟩ = some (.slice A0_0 l0_0.length c0_0) := (blk_cell BK356.out 0).trans rfl; have hcz16_1 : w15.cell? ⟨gb356, 1, none⟩ = some (.int .i64 a0_1) := (blk_cell BK356.out 1).trans rfl; have hcz16_2 : w15.cell? ⟨gb356, 2, none⟩ = some (.int .i64 a0_2) := (blk_cell BK356.out 2).trans rfl; have hcz16_3 : w15.cell? ⟨gb356, 3, none⟩ = some (.int .i64 a0_3) := (blk_cell BK356.out 3).trans rfl; have hcz16_4 : w15.cell? ⟨gb356, 4, none⟩ = some (.int .i64 a0_4) := (blk_cell BK356.out 4).trans rfl; have hcz16_5 : w15.cell? ⟨gb356, 5, none⟩ = some (.int .i64 a0_5) := (blk_cell BK356.out 5).trans rfl; have hcz16_6 : w15.cell? ⟨gb356, 6, none⟩ = some (.slice A0_6 l0_6.length c0_6) := (blk_cell BK356.out 6).trans rfl; have hfz16_0 := blk_frozen BK356.out 0; have hfz16_1 := blk_frozen BK356.out 1; have hfz16_2 := blk_frozen BK356.out 2; have hfz16_3 := blk_frozen BK356.out 3; have hfz16_4 := blk_frozen BK356.out 4; have hfz16_5 := blk_frozen BK356.out 5; have hfz16_6 := blk_frozen BK356.out 6; have hcz17_0 : w15.cell? ⟨gb357, 0, none⟩ = some (.slice A1_0 l1_0.length c1_0) := (blk_cell BK357.out 0).trans rfl; have hcz17_1 : w15.cell? ⟨gb357, 1, none⟩ = some (.int .i64 a1_1) := (blk_cell BK357.out 1).trans rfl; have hcz17_2 : w15.cell? ⟨gb357, 2, none⟩ = some (.int .i64 a1_2) := (blk_cell BK357.out 2).trans rfl; have hcz17_3 : w15.cell? ⟨gb357, 3, none⟩ = some (.int .i64 a1_3) := (blk_cell BK357.out 3).trans rfl; have hcz17_4 : w15.cell? ⟨gb357, 4, none⟩ = some (.int .i64 a1_4) := (blk_cell BK357.out 4).trans rfl; have hcz17_5 : w15.cell? ⟨gb357, 5, none⟩ = some (.int .i64 a1_5) := (blk_cell BK357.out 5).trans rfl; have hcz17_6 : w15.cell? ⟨gb357, 6, none⟩ = some (.slice A1_6 l1_6.length c1_6) := (blk_cell BK357.out 6).trans rfl; have hfz17_0 := blk_frozen BK357.out 0; have hfz17_1 := blk_frozen BK357.out 1; have hfz17_2 := blk_frozen BK357.out 2; have hfz17_3 := blk_frozen BK357.out 3; have hfz17_4 := blk_frozen BK357.out 4; have hfz17_5 := blk_frozen BK357.out 5; have hfz17_6 := blk_frozen BK357.out 6) | ((with_reducible refine gate_callee (f := 43) rfl ?_); refine goesL_ (some 15) rfl rfl Try.func43 (by kernel_rfl) rfl #[.agg #[.int .i64 a0_1, .int .i64 a0_2, .int .i64 a0_3, .int .i64 a0_4], .agg #[.int .i64 a1_1, .int .i64 a1_2, .int .i64 a1_3, .int .i64 a1_4]] rfl (by (try simp only [List.map_toArray, List.map_cons, List.map_nil]); first | done | rfl | (simp only [List.length_drop, List.length_take]; rfl)) ?_; (with_reducible refine (laws_eqWindow.calls a0_1 a0_2 a0_3 a0_4 a1_1 a1_2 a1_3 a1_4 true _ A5.out).mono ?_); rintro e w18 ⟨rfl, hb⟩; refine ⟨_, rfl, ?_⟩; have n0_ := Aside0.mk (blk_below (g := gb356) (o := .cells #[.slice A0_0 l0_0.length c0_0, .int .i64 a0_1, .int .i64 a0_2, .int .i64 a0_3, .int .i64 a0_4, .int .i64 a0_5, .slice A0_6 l0_6.length c0_6] 51 (0, 0)) (by (with_reducible repeat (first | refine blk_drewN ?_ _ | refine blk_drew ?_ | refine blk_alloc ?_ _)); exact BK356.out) hb); have n1_ := Aside0.mk (blk_below (g := gb357) (o := .cells #[.slice A1_0 l1_0.length c1_0, .int .i64 a1_1, .int .i64 a1_2, .int .i64 a1_3, .int .i64 a1_4, .int .i64 a1_5, .slice A1_6 l1_6.length c1_6] 51 (0, 0)) (by (with_reducible repeat (first | refine blk_drewN ?_ _ | refine blk_drew ?_ | refine blk_alloc ?_ _)); exact BK357.out) hb); have n2_ := Aside0.mk (below_step (by repeat (first | (with_reducible first | exact HB.out | apply below_alloc | apply pw_below_drewN | apply below_drew1 | refine below_set ?_ GE356.out | refine below_set ?_ GE357.out) | exact HB.out)) hb); clear BK356; clear BK357; clear HB; have BK356 := n0_; have BK357 := n1_; have HB := n2_; clear n0_ n1_ n2_; (try clear hb); (try clear hb2); (try clear hk); (try clear hi); have hcz19_0 : w18.cell? ⟨gb356, 0, none⟩ = some (.slice A0_0 l0_0.length c0_0) := (blk_cell BK356.out 0).trans rfl; have hcz19_1 : w18.cell? ⟨gb356, 1, none⟩ = some (.int .i64 a0_1) := (blk_cell BK356.out 1).trans rfl; have hcz19_2 : w18.cell? ⟨gb356, 2, none⟩ = some (.int .i64 a0_2) := (blk_cell BK356.out 2).trans rfl; have hcz19_3 : w18.cell? ⟨gb356, 3, none⟩ = some (.int .i64 a0_3) := (blk_cell BK356.out 3).trans rfl; have hcz19_4 : w18.cell? ⟨gb356, 4, none⟩ = some (.int .i64 a0_4) := (blk_cell BK356.out 4).trans rfl; have hcz19_5 : w18.cell? ⟨gb356, 5, none⟩ = some (.int .i64 a0_5) := (blk_cell BK356.out 5).trans rfl; have hcz19_6 : w18.cell? ⟨gb356, 6, none⟩ = some (.slice A0_6 l0_6.length c0_6) := (blk_cell BK356.out 6).trans rfl; have hfz19_0 := blk_frozen BK356.out 0; have hfz19_1 := blk_frozen BK356.out 1; have hfz19_2 := blk_frozen BK356.out 2; have hfz19_3 := blk_frozen BK356.out 3; have hfz19_4 := blk_frozen BK356.out 4; have hfz19_5 := blk_frozen BK356.out 5; have hfz19_6 := blk_frozen BK356.out 6; have hcz20_0 : w18.cell? ⟨gb357, 0, none⟩ = some (.slice A1_0 l1_0.length c1_0) := (blk_cell BK357.out 0).trans rfl; have hcz20_1 : w18.cell? ⟨gb357, 1, none⟩ = some (.int .i64 a1_1) := (blk_cell BK357.out 1).trans rfl; have hcz20_2 : w18.cell? ⟨gb357, 2, none⟩ = some (.int .i64 a1_2) := (blk_cell BK357.out 2).trans rfl; have hcz20_3 : w18.cell? ⟨gb357, 3, none⟩ = some (.int .i64 a1_3) := (blk_cell BK357.out 3).trans rfl; have hcz20_4 : w18.cell? ⟨gb357, 4, none⟩ = some (.int .i64 a1_4) := (blk_cell BK357.out 4).trans rfl; have hcz20_5 : w18.cell? ⟨gb357, 5, none⟩ = some (.int .i64 a1_5) := (blk_cell BK357.out 5).trans rfl; have hcz20_6 : w18.cell? ⟨gb357, 6, none⟩ = some (.slice A1_6 l1_6.length c1_6) := (blk_cell BK357.out 6).trans rfl; have hfz20_0 := blk_frozen BK357.out 0; have hfz20_1 := blk_frozen BK357.out 1; have hfz20_2 := blk_frozen BK357.out 2; have hfz20_3 := blk_frozen BK357.out 3; have hfz20_4 := blk_frozen BK357.out 4; have hfz20_5 := blk_frozen BK357.out 5; have hfz20_6 := blk_frozen BK357.out 6) | ((with_reducible refine gate_callee (f := 91) rfl ?_); refine goesL_ (some 26) rfl rfl Try.func91 (by kernel_rfl) rfl #[.slice A0_6 l0_6.length c0_6, .slice A1_6 l1_6.length c1_6] rfl (by (try simp only [List.map_toArray, List.map_cons, List.map_nil]); first | done | rfl | (simp only [List.length_drop, List.length_take]; rfl)) ?_; (with_reducible refine (laws_eqIntS.calls k _ _ l0_6 _ _ l1_6 true _ ?side1 ?side2 ?side3 ?side4 A8.out).mono ?_); (case side1 => repeat (first | exact (Kd.C_below HR0_6.out HB.out) | (with_reducible refine Kd.C_alloc ?_ _) | (with_reducible refine Kd.C_drewN ?_ _) | (with_reducible refine Kd.C_drew ?_))); (case side2 => exact HC0_6.out); (case side3 => repeat (first | exact (Kd.C_below HR1_6.out HB.out) | (with_reducible refine Kd.C_alloc ?_ _) | (with_reducible refine Kd.C_drewN ?_ _) | (with_reducible refine Kd.C_drew ?_))); (case side4 => exact HC1_6.out); rintro e w' ⟨rfl, ⟨nd, rfl⟩⟩; refine ⟨_, rfl, ?_⟩))
          go_ret
          exact ⟨by first | rfl | (simp [errW_none, errW_some] <;> rfl) | (simp [*, errW_none, errW_some] <;> rfl), by repeat (first | (with_reducible first | exact HB.out | apply below_alloc | apply pw_below_drewN | apply below_drew1 | refine below_set ?_ GE356.out | refine below_set ?_ GE357.out) | exact HB.out)⟩
        · replace c9 := Bool.eq_false_iff.mpr c9
          subst c9
          have H1 : (some false) = some r := by rw [if_neg (show ¬ (false = true) by decide)] at H; exact H
          clear H
          have H := H1
          clear H1
          obtain rfl := Option.some.inj H
          go_enter Try.func30, Try.ntmps30
          go_wp2_with (first | ((with_reducible refine gate_dst (N := 2) rfl ?_); refine box_event ?hg (N := 2) ?hd (cs := #[.slice A0_0 l0_0.length c0_0, .int .i64 a0_1, .int .i64 a0_2, .int .i64 a0_3, .int .i64 a0_4, .int .i64 a0_5, .slice A0_6 l0_6.length c0_6]) (t := 51) ?hr ?_; (case hd => rfl); (case hg => rfl); (case hr => first | (go_simp; done) | (go_simp; rfl)); intro gb356 hg w21 hbox hb; have n0_ := Aside0.mk (below_step (by repeat (first | (with_reducible first | exact HB.out | apply below_alloc | apply pw_below_drewN | apply below_drew1) | exact HB.out)) hb); have n1_ := Aside0.mk (hbox); have n2_ := Aside0.mk ((by rw [hg]; exact (below_size (by repeat (first | (with_reducible first | exact HB.out | apply below_alloc | apply pw_below_drewN | apply below_drew1) | exact HB.out))) : w.heap.size ≤ gb356)); have n3_ := Aside0.mk ((by rw [hg]; exact (below_size (by repeat (first | (with_reducible first | exact HB.out | apply below_alloc | apply pw_below_drewN | apply below_drew1) | exact HB.out))) : w.heap.size ≤ gb356)); clear HB; have HB := n0_; have BK356 := n1_; have GW356 := n2_; have GE356 := n3_; clear n0_ n1_ n2_ n3_; clear hb hbox hg) | ((with_reducible refine gate_dst (N := 3) rfl ?_); refine box_event ?hg (N := 3) ?hd (cs := #[.slice A1_0 l1_0.length c1_0, .int .i64 a1_1, .int .i64 a1_2, .int .i64 a1_3, .int .i64 a1_4, .int .i64 a1_5, .slice A1_6 l1_6.length c1_6]) (t := 51) ?hr ?_; (case hd => rfl); (case hg => rfl); (case hr => first | (go_simp; done) | (go_simp; rfl)); intro gb357 hg w22 hbox hb; have n0_ := Aside0.mk (blk_below (g := gb356) (o := .cells #[.slice A0_0 l0_0.length c0_0, .int .i64 a0_1, .int .i64 a0_2, .int .i64 a0_3, .int .i64 a0_4, .int .i64 a0_5, .slice A0_6 l0_6.length c0_6] 51 (0, 0)) (by (with_reducible repeat (first | refine blk_drewN ?_ _ | refine blk_drew ?_ | refine blk_alloc ?_ _)); exact BK356.out) hb); have n1_ := Aside0.mk (below_step (by repeat (first | (with_reducible first | exact HB.out | apply below_alloc | apply pw_below_drewN | apply below_drew1 | refine below_set ?_ GE356.out) | exact HB.out)) hb); have n2_ := Aside0.mk (hbox); have n3_ := Aside0.mk ((by rw [hg]; exact (below_size (by repeat (first | (with_reducible first | exact HB.out | apply below_alloc | apply pw_below_drewN | apply below_drew1 | refine below_set ?_ GE356.out) | exact HB.out))) : w.heap.size ≤ gb357)); have n4_ := Aside0.mk ((by rw [hg]; exact (below_size (by repeat (first | (with_reducible first | exact HB.out | apply below_alloc | apply pw_below_drewN | apply below_drew1 | refine below_set ?_ GE356.out) | exact HB.out))) : w.heap.size ≤ gb357)); have n5_ := Aside0.mk ((by rw [hg]; exact Nat.ne_of_lt (blk_lt (g := gb356) (o := .cells #[.slice A0_0 l0_0.length c0_0, .int .i64 a0_1, .int .i64 a0_2, .int .i64 a0_3, .int .i64 a0_4, .int .i64 a0_5, .slice A0_6 l0_6.length c0_6] 51 (0, 0)) (by (with_reducible repeat (first | refine blk_drewN ?_ _ | refine blk_drew ?_ | refine blk_alloc ?_ _)); exact BK356.out)) : gb356 ≠ gb357)); have n6_ := Aside0.mk ((by rw [hg]; exact Nat.ne_of_gt (blk_lt (g := gb356) (o := .cells #[.slice A0_0 l0_0.length c0_0, .int .i64 a0_1, .int .i64 a0_2, .int .i64 a0_3, .int .i64 a0_4, .int .i64 a0_5, .slice A0_6 l0_6.length c0_6] 51 (0, 0)) (by (with_reducible repeat (first | refine blk_drewN ?_ _ | refine blk_drew ?_ | refine blk_alloc ?_ _)); exact BK356.out)) : gb357 ≠ gb356)); clear BK356; clear HB; have BK356 := n0_; have HB := n1_; have BK357 := n2_; have GW357 := n3_; have GE357 := n4_; have NB356_357 := n5_; have NB357_356 := n6_; clear n0_ n1_ n2_ n3_ n4_ n5_ n6_; clear hb hbox hg; have hnb23 := NB356_357.out; have hnc23 := NB357_356.out; have hcz24_0 : w22.cell? ⟨gb356, 0, none⟩ = some (.slice A0_0 l0_0.length c0_0) := (blk_cell BK356.out 0).trans rfl; have hcz24_1 : w22.cell? ⟨gb356, 1, none⟩ = some (.int .i64 a0_1) := (blk_cell BK356.out 1).trans rfl; have hcz24_2 : w22.cell? ⟨gb356, 2, none⟩ = some (.int .i64 a0_2) := (blk_cell BK356.out 2).trans rfl; have hcz24_3 : w22.cell? ⟨gb356, 3, none⟩ = some (.int .i64 a0_3) := (blk_cell BK356.out 3).trans rfl; have hcz24_4 : w22.cell? ⟨gb356, 4, none⟩ = some (.int .i64 a0_4) := (blk_cell BK356.out 4).trans rfl; have hcz24_5 : w22.cell? ⟨gb356, 5, none⟩ = some (.int .i64 a0_5) := (blk_cell BK356.out 5).trans rfl; have hcz24_6 : w22.cell? ⟨gb356, 6, none⟩ = some (.slice A0_6 l0_6.length c0_6) := (blk_cell BK356.out 6).trans rfl; have hfz24_0 := blk_frozen BK356.out 0; have hfz24_1 := blk_frozen BK356.out 1; have hfz24_2 := blk_frozen BK356.out 2; have hfz24_3 := blk_frozen BK356.out 3; have hfz24_4 := blk_frozen BK356.out 4; have hfz24_5 := blk_frozen BK356.out 5; have hfz24_6 := blk_frozen BK356.out 6; have hcz25_0 : w22.cell? ⟨gb357, 0, none⟩ = some (.slice A1_0 l1_0.length c1_0) := (blk_cell BK357.out 0).trans rfl; have hcz25_1 : w22.cell? ⟨gb357, 1, none⟩ = some (.int .i64 a1_1) := (blk_cell BK357.out 1).trans rfl; have hcz25_2 : w22.cell? ⟨gb357, 2, none⟩ = some (.int .i64 a1_2) := (blk_cell BK357.out 2).trans rfl; have hcz25_3 : w22.cell? ⟨gb357, 3, none⟩ = some (.int .i64 a1_3) := (blk_cell BK357.out 3).trans rfl; have hcz25_4 : w22.cell? ⟨gb357, 4, none⟩ = some (.int .i64 a1_4) := (blk_cell BK357.out 4).trans rfl; have hcz25_5 : w22.cell? ⟨gb357, 5, none⟩ = some (.int .i64 a1_5) := (blk_cell BK357.out 5).trans rfl; have hcz25_6 : w22.cell? ⟨gb357, 6, none⟩ = some (.slice A1_6 l1_6.length c1_6) := (blk_cell BK357.out 6).trans rfl; have hfz25_0 := blk_frozen BK357.out 0; have hfz25_1 := blk_frozen BK357.out 1; have hfz25_2 := blk_frozen BK357.out 2; have hfz25_3 := blk_frozen BK357.out 3; have hfz25_4 := blk_frozen BK357.out 4; have hfz25_5 := blk_frozen BK357.out 5; have hfz25_6 := blk_frozen BK357.out 6) | ((with_reducible refine gate_callee (f := 19) rfl ?_); refine goesL_ (some 9) rfl rfl Try.func19 (by kernel_rfl) rfl #[.agg #[.slice A0_0 l0_0.length c0_0], .agg #[.slice A1_0 l1_0.length c1_0]] rfl (by (try simp only [List.map_toArray, List.map_cons, List.map_nil]); first | done | rfl | (simp only [List.length_drop, List.length_take]; rfl)) ?_; (with_reducible refine (laws_eqMemory.calls k _ _ l0_0 _ _ l1_0 true _ ?side1 ?side2 ?side3 ?side4 A3.out).mono ?_); (case side1 => repeat (first | exact (Kd.C_below HR0_0.out HB.out) | (with_reducible refine Kd.C_alloc ?_ _) | (with_reducible refine Kd.C_drewN ?_ _) | (with_reducible refine Kd.C_drew ?_))); (case side2 => exact HC0_0.out); (case side3 => repeat (first | exact (Kd.C_below HR1_0.out HB.out) | (with_reducible refine Kd.C_alloc ?_ _) | (with_reducible refine Kd.C_drewN ?_ _) | (with_reducible refine Kd.C_drew ?_))); (case side4 => exact HC1_0.out); rintro e w26 ⟨rfl, hb⟩; refine ⟨_, rfl, ?_⟩; have n0_ := Aside0.mk (blk_below (g := gb356) (o := .cells #[.slice A0_0 l0_0.length c0_0, .int .i64 a0_1, .int .i64 a0_2, .int .i64 a0_3, .int .i64 a0_4, .int .i64 a0_5, .slice A0_6 l0_6.length c0_6] 51 (0, 0)) (by (with_reducible repeat (first | refine blk_drewN ?_ _ | refine blk_drew ?_ | refine blk_alloc ?_ _)); exact BK356.out) hb); have n1_ := Aside0.mk (blk_below (g := gb357) (o := .cells #[.slice A1_0 l1_0.length c1_0, .int .i64 a1_1, .int .i64 a1_2, .int .i64 a1_3, .int .i64 a1_4, .int .i64 a1_5, .slice A1_6 l1_6.length c1_6] 51 (0, 0)) (by (with_reducible repeat (first | refine blk_drewN ?_ _ | refine blk_drew ?_ | refine blk_alloc ?_ _)); exact BK357.out) hb); have n2_ := Aside0.mk (below_step (by repeat (first | (with_reducible first | exact HB.out | apply below_alloc | apply pw_below_drewN | apply below_drew1 | refine below_set ?_ GE356.out | refine below_set ?_ GE357.out) | exact HB.out)) hb); clear BK356; clear BK357; clear HB; have BK356 := n0_; have BK357 := n1_; have HB := n2_; clear n0_ n1_ n2_; (try clear hb); (try clear hb2); (try clear hk); (try clear hi); have hcz27_0 : w26.cell? ⟨gb356, 0, none⟩ = some (.slice A0_0 l0_0.length c0_0) := (blk_cell BK356.out 0).trans rfl; have hcz27_1 : w26.cell? ⟨gb356, 1, none⟩ = some (.int .i64 a0_1) := (blk_cell BK356.out 1).trans rfl; have hcz27_2 : w26.cell? ⟨gb356, 2, none⟩ = some (.int .i64 a0_2) := (blk_cell BK356.out 2).trans rfl; have hcz27_3 : w26.cell? ⟨gb356, 3, none⟩ = some (.int .i64 a0_3) := (blk_cell BK356.out 3).trans rfl; have hcz27_4 : w26.cell? ⟨gb356, 4, none⟩ = some (.int .i64 a0_4) := (blk_cell BK356.out 4).trans rfl; have hcz27_5 : w26.cell? ⟨gb356, 5, none⟩ = some (.int .i64 a0_5) := (blk_cell BK356.out 5).trans rfl; have hcz27_6 : w26.cell? ⟨gb356, 6, none⟩ = some (.slice A0_6 l0_6.length c0_6) := (blk_cell BK356.out 6).trans rfl; have hfz27_0 := blk_frozen BK356.out 0; have hfz27_1 := blk_frozen BK356.out 1; have hfz27_2 := blk_frozen BK356.out 2; have hfz27_3 := blk_frozen BK356.out 3; have hfz27_4 := blk_frozen BK356.out 4; have hfz27_5 := blk_frozen BK356.out 5; have hfz27_6 := blk_frozen BK356.out 6; have hcz28_0 : w26.cell? ⟨gb357, 0, none⟩ = some (.slice A1_0 l1_0.length c1_0) := (blk_cell BK357.out 0).trans rfl; have hcz28_1 : w26.cell? ⟨gb357, 1, none⟩ = some (.int .i64 a1_1) := (blk_cell BK357.out 1).trans rfl; have hcz28_2 : w26.cell? ⟨gb357, 2, none⟩ = some (.int .i64 a1_2) := (blk_cell BK357.out 2).trans rfl; have hcz28_3 : w26.cell? ⟨gb357, 3, none⟩ = some (.int .i64 a1_3) := (blk_cell BK357.out 3).trans rfl; have hcz28_4 : w26.cell? ⟨gb357, 4, none⟩ = some (.int .i64 a1_4) := (blk_cell BK357.out 4).trans rfl; have hcz28_5 : w26.cell? ⟨gb357, 5, none⟩ = some (.int .i64 a1_5) := (blk_cell BK357.out 5).trans rfl; have hcz28_6 : w26.cell? ⟨gb357, 6, none⟩ = some (.slice A1_6 l1_6.length c1_6) := (blk_cell BK357.out 6).trans rfl; have hfz28_0 := blk_frozen BK357.out 0; have hfz28_1 := blk_frozen BK357.out 1; have hfz28_2 := blk_frozen BK357.out 2; have hfz28_3 := blk_frozen BK357.out 3; have hfz28_4 := blk_frozen BK357.out 4; have hfz28_5 := blk_frozen BK357.out 5; have hfz28_6 := blk_frozen BK357.out 6) | ((with_reducible refine gate_callee (f := 43) rfl ?_); refine goesL_ (some 15) rfl rfl Try.func43 (by kernel_rfl) rfl #[.agg #[.int .i64 a0_1, .int .i64 a0_2, .int .i64 a0_3, .int .i64 a0_4], .agg #[.int .i64 a1_1, .int .i64 a1_2, .int .i64 a1_3, .int .i64 a1_4]] rfl (by (try simp only [List.map_toArray, List.map_cons, List.map_nil]); first | done | rfl | (simp only [List.length_drop, List.length_take]; rfl)) ?_; (with_reducible refine (laws_eqWindow.calls a0_1 a0_2 a0_3 a0_4 a1_1 a1_2 a1_3 a1_4 true _ A5.out).mono ?_); rintro e w29 ⟨rfl, hb⟩; refine ⟨_, rfl, ?_⟩; have n0_ := Aside0.mk (blk_below (g := gb356) (o := .cells #[.slice A0_0 l0_0.length c0_0, .int .i64 a0_1, .int .i64 a0_2, .int .i64 a0_3, .int .i64 a0_4, .int .i64 a0_5, .slice A0_6 l0_6.length c0_6] 51 (0, 0)) (by (with_reducible repeat (first | refine blk_drewN ?_ _ | refine blk_drew ?_ | refine blk_alloc ?_ _)); exact BK356.out) hb); have n1_ := Aside0.mk (blk_below (g := gb357) (o := .cells #[.slice A1_0 l1_0.length c1_0, .int .i64 a1_1, .int .i64 a1_2, .int .i64 a1_3, .int .i64 a1_4, .int .i64 a1_5, .slice A1_6 l1_6.length c1_6] 51 (0, 0)) (by (with_reducible repeat (first | refine blk_drewN ?_ _ | refine blk_drew ?_ | refine blk_alloc ?_ _)); exact BK357.out) hb); have n2_ := Aside0.mk (below_step (by repeat (first | (with_reducible first | exact HB.out | apply below_alloc | apply pw_below_drewN | apply below_drew1 | refine below_set ?_ GE356.out | refine below_set ?_ GE357.out) | exact HB.out)) hb); clear BK356; clear BK357; clear HB; have BK356 := n0_; have BK357 := n1_; have HB := n2_; clear n0_ n1_ n2_; (try clear hb); (try clear hb2); (try clear hk); (try clear hi); have hcz30_0 : w29.cell? ⟨gb356, 0, none⟩ = some (.slice A0_0 l0_0.length c0_0) := (blk_cell BK356.out 0).trans rfl; have hcz30_1 : w29.cell? ⟨gb356, 1, none⟩ = some (.int .i64 a0_1) := (blk_cell BK356.out 1).trans rfl; have hcz30_2 : w29.cell? ⟨gb356, 2, none⟩ = some (.int .i64 a0_2) := (blk_cell BK356.out 2).trans rfl; have hcz30_3 : w29.cell? ⟨gb356, 3, none⟩ = some (.int .i64 a0_3) := (blk_cell BK356.out 3).trans rfl; have hcz30_4 : w29.cell? ⟨gb356, 4, none⟩ = some (.int .i64 a0_4) := (blk_cell BK356.out 4).trans rfl; have hcz30_5 : w29.cell? ⟨gb356, 5, none⟩ = some (.int .i64 a0_5) := (blk_cell BK356.out 5).trans rfl; have hcz30_6 : w29.cell? ⟨gb356, 6, none⟩ = some (.slice A0_6 l0_6.length c0_6) := (blk_cell BK356.out 6).trans rfl; have hfz30_0 := blk_frozen BK356.out 0; have hfz30_1 := blk_frozen BK356.out 1; have hfz30_2 := blk_frozen BK356.out 2; have hfz30_3 := blk_frozen BK356.out 3; have hfz30_4 := blk_frozen BK356.out 4; have hfz30_5 := blk_frozen BK356.out 5; have hfz30_6 := blk_frozen BK356.out 6; have hcz31_0 : w29.cell? ⟨gb357, 0, none⟩ = some (.slice A1_0 l1_0.length c1_0) := (blk_cell BK357.out 0).trans rfl; have hcz31_1 : w29.cell? ⟨gb357, 1, none⟩ = some (.int .i64 a1_1) := (blk_cell BK357.out 1).trans rfl; have hcz31_2 : w29.cell? ⟨gb357, 2, none⟩ = some (.int .i64 a1_2) := (blk_cell BK357.out 2).trans rfl; have hcz31_3 : w29.cell? ⟨gb357, 3, none⟩ = some (.int .i64 a1_3) := (blk_cell BK357.out 3).trans rfl; have hcz31_4 : w29.cell? ⟨gb357, 4, none⟩ = some (.int .i64 a1_4) := (blk_cell BK357.out 4).trans rfl; have hcz31_5 : w29.cell? ⟨gb357, 5, none⟩ = some (.int .i64 a1_5) := (blk_cell BK357.out 5).trans rfl; have hcz31_6 : w29.cell? ⟨gb357, 6, none⟩ = some (.slice A1_6 l1_6.length c1_6) := (blk_cell BK357.out 6).trans rfl; have hfz31_0 := blk_frozen BK357.out 0; have hfz31_1 := blk_frozen BK357.out 1; have hfz31_2 := blk_frozen BK357.out 2; have hfz31_3 := blk_frozen BK357.out 3; have hfz31_4 := blk_frozen BK357.out 4; have hfz31_5 := blk_frozen BK357.out 5; have hfz31_6 := blk_frozen BK357.out 6) | ((with_reducible refine gate_callee (f := 91) rfl ?_); refine goesL_ (some 26) rfl rfl Try.func91 (by kernel_rfl) rfl #[.slice A0_6 l0_6.length c0_6, .slice A1_6 l1_6.length c1_6] rfl (by (try simp only [List.map_toArray, List.map_cons, List.map_nil]); first | done | rfl | (simp only [List.length_drop, List.length_take]; rfl)) ?_; (with_reducible refine (laws_eqIntS.calls k _ _ l0_6 _ _ l1_6 false _ ?side1 ?side2 ?side3 ?side4 A8.out).mono ?_); (case side1 => repeat (first | exact (Kd.C_below HR0_6.out HB.out) | (with_reducible refine Kd.C_alloc ?_ _) | (with_reducible refine Kd.C_drewN ?_ _) | (with_reducible refine Kd.C_drew ?_))); (case side2 => exact HC0_6.out); (case side3 => repeat (first | exact (Kd.C_below HR1_6.out HB.out) | (with_reducible refine Kd.C_alloc ?_ _) | (with_reducible refine Kd.C_drewN ?_ _) | (with_reducible refine Kd.C_drew ?_))); (case side4 => exact HC1_6.out); rintro e w' ⟨rfl, ⟨nd, rfl⟩⟩; refine ⟨_, rfl, ?_⟩))
          go_ret
          exact ⟨by first | rfl | (simp [errW_none, errW_some] <;> rfl) | (simp [*, errW_none, errW_some] <;> rfl), by repeat (first | (with_reducible first | exact HB.out | apply below_alloc | apply pw_below_drewN | apply below_drew1 | refine below_set ?_ GE356.out | refine below_set ?_ GE357.out) | exact HB.out)⟩
      · rw [if_neg c7] at H
        have c7b0 : (a0_5 == a1_5) = false := beq_eq_false_iff_ne.mpr c7
        have c7b1 : (a0_5 != a1_5) = true := bne_iff_ne.mpr c7
        obtain rfl := Option.some.inj H
        go_enter Try.func30, Try.ntmps30
        go_wp2_with (first | ((with_reducible refine gate_dst (N := 2) rfl ?_); refine box_event ?hg (N := 2) ?hd (cs := #[.slice A0_0 l0_0.length c0_0, .int .i64 a0_1, .int .i64 a0_2, .int .i64 a0_3, .int .i64 a0_4, .int .i64 a0_5, .slice A0_6 l0_6.length c0_6]) (t := 51) ?hr ?_; (case hd => rfl); (case hg => rfl); (case hr => first | (go_simp; done) | (go_simp; rfl)); intro gb356 hg w32 hbox hb; have n0_ := Aside0.mk (below_step (by repeat (first | (with_reducible first | exact HB.out | apply below_alloc | apply pw_below_drewN | apply below_drew1) | exact HB.out)) hb); have n1_ := Aside0.mk (hbox); have n2_ := Aside0.mk ((by rw [hg]; exact (below_size (by repeat (first | (with_reducible first | exact HB.out | apply below_alloc | apply pw_below_drewN | apply below_drew1) | exact HB.out))) : w.heap.size ≤ gb356)); have n3_ := Aside0.mk ((by rw [hg]; exact (below_size (by repeat (first | (with_reducible first | exact HB.out | apply below_alloc | apply pw_below_drewN | apply below_drew1) | exact HB.out))) : w.heap.size ≤ gb356)); clear HB; have HB := n0_; have BK356 := n1_; have GW356 := n2_; have GE356 := n3_; clear n0_ n1_ n2_ n3_; clear hb hbox hg) | ((with_reducible refine gate_dst (N := 3) rfl ?_); refine box_event ?hg (N := 3) ?hd (cs := #[.slice A1_0 l1_0.length c1_0, .int .i64 a1_1, .int .i64 a1_2, .int .i64 a1_3, .int .i64 a1_4, .int .i64 a1_5, .slice A1_6 l1_6.length c1_6]) (t := 51) ?hr ?_; (case hd => rfl); (case hg => rfl); (case hr => first | (go_simp; done) | (go_simp; rfl)); intro gb357 hg w33 hbox hb; have n0_ := Aside0.mk (blk_below (g := gb356) (o := .cells #[.slice A0_0 l0_0.length c0_0, .int .i64 a0_1, .int .i64 a0_2, .int .i64 a0_3, .int .i64 a0_4, .int .i64 a0_5, .slice A0_6 l0_6.length c0_6] 51 (0, 0)) (by (with_reducible repeat (first | refine blk_drewN ?_ _ | refine blk_drew ?_ | refine blk_alloc ?_ _)); exact BK356.out) hb); have n1_ := Aside0.mk (below_step (by repeat (first | (with_reducible first | exact HB.out | apply below_alloc | apply pw_below_drewN | apply below_drew1 | refine below_set ?_ GE356.out) | exact HB.out)) hb); have n2_ := Aside0.mk (hbox); have n3_ := Aside0.mk ((by rw [hg]; exact (below_size (by repeat (first | (with_reducible first | exact HB.out | apply below_alloc | apply pw_below_drewN | apply below_drew1 | refine below_set ?_ GE356.out) | exact HB.out))) : w.heap.size ≤ gb357)); have n4_ := Aside0.mk ((by rw [hg]; exact (below_size (by repeat (first | (with_reducible first | exact HB.out | apply below_alloc | apply pw_below_drewN | apply below_drew1 | refine below_set ?_ GE356.out) | exact HB.out))) : w.heap.size ≤ gb357)); have n5_ := Aside0.mk ((by rw [hg]; exact Nat.ne_of_lt (blk_lt (g := gb356) (o := .cells #[.slice A0_0 l0_0.length c0_0, .int .i64 a0_1, .int .i64 a0_2, .int .i64 a0_3, .int .i64 a0_4, .int .i64 a0_5, .slice A0_6 l0_6.length c0_6] 51 (0, 0)) (by (with_reducible repeat (first | refine blk_drewN ?_ _ | refine blk_drew ?_ | refine blk_alloc ?_ _)); exact BK356.out)) : gb356 ≠ gb357)); have n6_ := Aside0.mk ((by rw [hg]; exact Nat.ne_of_gt (blk_lt (g := gb356) (o := .cells #[.slice A0_0 l0_0.length c0_0, .int .i64 a0_1, .int .i64 a0_2, .int .i64 a0_3, .int .i64 a0_4, .int .i64 a0_5, .slice A0_6 l0_6.length c0_6] 51 (0, 0)) (by (with_reducible repeat (first | refine blk_drewN ?_ _ | refine blk_drew ?_ | refine blk_alloc ?_ _)); exact BK356.out)) : gb357 ≠ gb356)); clear BK356; clear HB; have BK356 := n0_; have HB := n1_; have BK357 := n2_; have GW357 := n3_; have GE357 := n4_; have NB356_357 := n5_; have NB357_356 := n6_; clear n0_ n1_ n2_ n3_ n4_ n5_ n6_; clear hb hbox hg; have hnb34 := NB356_357.out; have hnc34 := NB357_356.out; have hcz35_0 : w33.cell? ⟨gb356, 0, none⟩ = some (.slice A0_0 l0_0.length c0_0) := (blk_cell BK356.out 0).trans rfl; have hcz35_1 : w33.cell? ⟨gb356, 1, none⟩ = some (.int .i64 a0_1) := (blk_cell BK356.out 1).trans rfl; have hcz35_2 : w33.cell? ⟨gb356, 2, none⟩ = some (.int .i64 a0_2) := (blk_cell BK356.out 2).trans rfl; have hcz35_3 : w33.cell? ⟨gb356, 3, none⟩ = some (.int .i64 a0_3) := (blk_cell BK356.out 3).trans rfl; have hcz35_4 : w33.cell? ⟨gb356, 4, none⟩ = some (.int .i64 a0_4) := (blk_cell BK356.out 4).trans rfl; have hcz35_5 : w33.cell? ⟨gb356, 5, none⟩ = some (.int .i64 a0_5) := (blk_cell BK356.out 5).trans rfl; have hcz35_6 : w33.cell? ⟨gb356, 6, none⟩ = some (.slice A0_6 l0_6.length c0_6) := (blk_cell BK356.out 6).trans rfl; have hfz35_0 := blk_frozen BK356.out 0; have hfz35_1 := blk_frozen BK356.out 1; have hfz35_2 := blk_frozen BK356.out 2; have hfz35_3 := blk_frozen BK356.out 3; have hfz35_4 := blk_frozen BK356.out 4; have hfz35_5 := blk_frozen BK356.out 5; have hfz35_6 := blk_frozen BK356.out 6; have hcz36_0 : w33.cell? ⟨gb357, 0, none⟩ = some (.slice A1_0 l1_0.length c1_0) := (blk_cell BK357.out 0).trans rfl; have hcz36_1 : w33.cell? ⟨gb357, 1, none⟩ = some (.int .i64 a1_1) := (blk_cell BK357.out 1).trans rfl; have hcz36_2 : w33.cell? ⟨gb357, 2, none⟩ = some (.int .i64 a1_2) := (blk_cell BK357.out 2).trans rfl; have hcz36_3 : w33.cell? ⟨gb357, 3, none⟩ = some (.int .i64 a1_3) := (blk_cell BK357.out 3).trans rfl; have hcz36_4 : w33.cell? ⟨gb357, 4, none⟩ = some (.int .i64 a1_4) := (blk_cell BK357.out 4).trans rfl; have hcz36_5 : w33.cell? ⟨gb357, 5, none⟩ = some (.int .i64 a1_5) := (blk_cell BK357.out 5).trans rfl; have hcz36_6 : w33.cell? ⟨gb357, 6, none⟩ = some (.slice A1_6 l1_6.length c1_6) := (blk_cell BK357.out 6).trans rfl; have hfz36_0 := blk_frozen BK357.out 0; have hfz36_1 := blk_frozen BK357.out 1; have hfz36_2 := blk_frozen BK357.out 2; have hfz36_3 := blk_frozen BK357.out 3; have hfz36_4 := blk_frozen BK357.out 4; have hfz36_5 := blk_frozen BK357.out 5; have hfz36_6 := blk_frozen BK357.out 6) | ((with_reducible refine gate_callee (f := 19) rfl ?_); refine goesL_ (some 9) rfl rfl Try.func19 (by kernel_rfl) rfl #[.agg #[.slice A0_0 l0_0.length c0_0], .agg #[.slice A1_0 l1_0.length c1_0]] rfl (by (try simp only [List.map_toArray, List.map_cons, List.map_nil]); first | done | rfl | (simp only [List.length_drop, List.length_take]; rfl)) ?_; (with_reducible refine (laws_eqMemory.calls k _ _ l0_0 _ _ l1_0 true _ ?side1 ?side2 ?side3 ?side4 A3.out).mono ?_); (case side1 => repeat (first | exact (Kd.C_below HR0_0.out HB.out) | (with_reducible refine Kd.C_alloc ?_ _) | (with_reducible refine Kd.C_drewN ?_ _) | (with_reducible refine Kd.C_drew ?_))); (case side2 => exact HC0_0.out); (case side3 => repeat (first | exact (Kd.C_below HR1_0.out HB.out) | (with_reducible refine Kd.C_alloc ?_ _) | (with_reducible refine Kd.C_drewN ?_ _) | (with_reducible refine Kd.C_drew ?_))); (case side4 => exact HC1_0.out); rintro e w37 ⟨rfl, hb⟩; refine ⟨_, rfl, ?_⟩; have n0_ := Aside0.mk (blk_below (g := gb356) (o := .cells #[.slice A0_0 l0_0.length c0_0, .int .i64 a0_1, .int .i64 a0_2, .int .i64 a0_3, .int .i64 a0_4, .int .i64 a0_5, .slice A0_6 l0_6.length c0_6] 51 (0, 0)) (by (with_reducible repeat (first | refine blk_drewN ?_ _ | refine blk_drew ?_ | refine blk_alloc ?_ _)); exact BK356.out) hb); have n1_ := Aside0.mk (blk_below (g := gb357) (o := .cells #[.slice A1_0 l1_0.length c1_0, .int .i64 a1_1, .int .i64 a1_2, .int .i64 a1_3, .int .i64 a1_4, .int .i64 a1_5, .slice A1_6 l1_6.length c1_6] 51 (0, 0)) (by (with_reducible repeat (first | refine blk_drewN ?_ _ | refine blk_drew ?_ | refine blk_alloc ?_ _)); exact BK357.out) hb); have n2_ := Aside0.mk (below_step (by repeat (first | (with_reducible first | exact HB.out | apply below_alloc | apply pw_below_drewN | apply below_drew1 | refine below_set ?_ GE356.out | refine below_set ?_ GE357.out) | exact HB.out)) hb); clear BK356; clear BK357; clear HB; have BK356 := n0_; have BK357 := n1_; have HB := n2_; clear n0_ n1_ n2_; (try clear hb); (try clear hb2); (try clear hk); (try clear hi); have hcz38_0 : w37.cell? ⟨gb356, 0, none⟩ = some (.slice A0_0 l0_0.length c0_0) := (blk_cell BK356.out 0).trans rfl; have hcz38_1 : w37.cell? ⟨gb356, 1, none⟩ = some (.int .i64 a0_1) := (blk_cell BK356.out 1).trans rfl; have hcz38_2 : w37.cell? ⟨gb356, 2, none⟩ = some (.int .i64 a0_2) := (blk_cell BK356.out 2).trans rfl; have hcz38_3 : w37.cell? ⟨gb356, 3, none⟩ = some (.int .i64 a0_3) := (blk_cell BK356.out 3).trans rfl; have hcz38_4 : w37.cell? ⟨gb356, 4, none⟩ = some (.int .i64 a0_4) := (blk_cell BK356.out 4).trans rfl; have hcz38_5 : w37.cell? ⟨gb356, 5, none⟩ = some (.int .i64 a0_5) := (blk_cell BK356.out 5).trans rfl; have hcz38_6 : w37.cell? ⟨gb356, 6, none⟩ = some (.slice A0_6 l0_6.length c0_6) := (blk_cell BK356.out 6).trans rfl; have hfz38_0 := blk_frozen BK356.out 0; have hfz38_1 := blk_frozen BK356.out 1; have hfz38_2 := blk_frozen BK356.out 2; have hfz38_3 := blk_frozen BK356.out 3; have hfz38_4 := blk_frozen BK356.out 4; have hfz38_5 := blk_frozen BK356.out 5; have hfz38_6 := blk_frozen BK356.out 6; have hcz39_0 : w37.cell? ⟨gb357, 0, none⟩ = some (.slice A1_0 l1_0.length c1_0) := (blk_cell BK357.out 0).trans rfl; have hcz39_1 : w37.cell? ⟨gb357, 1, none⟩ = some (.int .i64 a1_1) := (blk_cell BK357.out 1).trans rfl; have hcz39_2 : w37.cell? ⟨gb357, 2, none⟩ = some (.int .i64 a1_2) := (blk_cell BK357.out 2).trans rfl; have hcz39_3 : w37.cell? ⟨gb357, 3, none⟩ = some (.int .i64 a1_3) := (blk_cell BK357.out 3).trans rfl; have hcz39_4 : w37.cell? ⟨gb357, 4, none⟩ = some (.int .i64 a1_4) := (blk_cell BK357.out 4).trans rfl; have hcz39_5 : w37.cell? ⟨gb357, 5, none⟩ = some (.int .i64 a1_5) := (blk_cell BK357.out 5).trans rfl; have hcz39_6 : w37.cell? ⟨gb357, 6, none⟩ = some (.slice A1_6 l1_6.length c1_6) := (blk_cell BK357.out 6).trans rfl; have hfz39_0 := blk_frozen BK357.out 0; have hfz39_1 := blk_frozen BK357.out 1; have hfz39_2 := blk_frozen BK357.out 2; have hfz39_3 := blk_frozen BK357.out 3; have hfz39_4 := blk_frozen BK357.out 4; have hfz39_5 := blk_frozen BK357.out 5; have hfz39_6 := blk_frozen BK357.out 6) | ((with_reducible refine gate_callee (f := 43) rfl ?_); refine goesL_ (some 15) rfl rfl Try.func43 (by kernel_rfl) rfl #[.agg #[.int .i64 a0_1, .int .i64 a0_2, .int .i64 a0_3, .int .i64 a0_4], .agg #[.int .i64 a1_1, .int .i64 a1_2, .int .i64 a1_3, .int .i64 a1_4]] rfl (by (try simp only [List.map_toArray, List.map_cons, List.map_nil]); first | done | rfl | (simp only [List.length_drop, List.length_take]; rfl)) ?_; (with_reducible refine (laws_eqWindow.calls a0_1 a0_2 a0_3 a0_4 a1_1 a1_2 a1_3 a1_4 true _ A5.out).mono ?_); rintro e w40 ⟨rfl, hb⟩; refine ⟨_, rfl, ?_⟩; have n0_ := Aside0.mk (blk_below (g := gb356) (o := .cells #[.slice A0_0 l0_0.length c0_0, .int .i64 a0_1, .int .i64 a0_2, .int .i64 a0_3, .int .i64 a0_4, .int .i64 a0_5, .slice A0_6 l0_6.length c0_6] 51 (0, 0)) (by (with_reducible repeat (first | refine blk_drewN ?_ _ | refine blk_drew ?_ | refine blk_alloc ?_ _)); exact BK356.out) hb); have n1_ := Aside0.mk (blk_below (g := gb357) (o := .cells #[.slice A1_0 l1_0.length c1_0, .int .i64 a1_1, .int .i64 a1_2, .int .i64 a1_3, .int .i64 a1_4, .int .i64 a1_5, .slice A1_6 l1_6.length c1_6] 51 (0, 0)) (by (with_reducible repeat (first | refine blk_drewN ?_ _ | refine blk_drew ?_ | refine blk_alloc ?_ _)); exact BK357.out) hb); have n2_ := Aside0.mk (below_step (by repeat (first | (with_reducible first | exact HB.out | apply below_alloc | apply pw_below_drewN | apply below_drew1 | refine below_set ?_ GE356.out | refine below_set ?_ GE357.out) | exact HB.out)) hb); clear BK356; clear BK357; clear HB; have BK356 := n0_; have BK357 := n1_; have HB := n2_; clear n0_ n1_ n2_; (try clear hb); (try clear hb2); (try clear hk); (try clear hi); have hcz41_0 : w40.cell? ⟨gb356, 0, none⟩ = some (.slice A0_0 l0_0.length c0_0) := (blk_cell BK356.out 0).trans rfl; have hcz41_1 : w40.cell? ⟨gb356, 1, none⟩ = some (.int .i64 a0_1) := (blk_cell BK356.out 1).trans rfl; have hcz41_2 : w40.cell? ⟨gb356, 2, none⟩ = some (.int .i64 a0_2) := (blk_cell BK356.out 2).trans rfl; have hcz41_3 : w40.cell? ⟨gb356, 3, none⟩ = some (.int .i64 a0_3) := (blk_cell BK356.out 3).trans rfl; have hcz41_4 : w40.cell? ⟨gb356, 4, none⟩ = some (.int .i64 a0_4) := (blk_cell BK356.out 4).trans rfl; have hcz41_5 : w40.cell? ⟨gb356, 5, none⟩ = some (.int .i64 a0_5) := (blk_cell BK356.out 5).trans rfl; have hcz41_6 : w40.cell? ⟨gb356, 6, none⟩ = some (.slice A0_6 l0_6.length c0_6) := (blk_cell BK356.out 6).trans rfl; have hfz41_0 := blk_frozen BK356.out 0; have hfz41_1 := blk_frozen BK356.out 1; have hfz41_2 := blk_frozen BK356.out 2; have hfz41_3 := blk_frozen BK356.out 3; have hfz41_4 := blk_frozen BK356.out 4; have hfz41_5 := blk_frozen BK356.out 5; have hfz41_6 := blk_frozen BK356.out 6; have hcz42_0 : w40.cell? ⟨gb357, 0, none⟩ = some (.slice A1_0 l1_0.length c1_0) := (blk_cell BK357.out 0).trans rfl; have hcz42_1 : w40.cell? ⟨gb357, 1, none⟩ = some (.int .i64 a1_1) := (blk_cell BK357.out 1).trans rfl; have hcz42_2 : w40.cell? ⟨gb357, 2, none⟩ = some (.int .i64 a1_2) := (blk_cell BK357.out 2).trans rfl; have hcz42_3 : w40.cell? ⟨gb357, 3, none⟩ = some (.int .i64 a1_3) := (blk_cell BK357.out 3).trans rfl; have hcz42_4 : w40.cell? ⟨gb357, 4, none⟩ = some (.int .i64 a1_4) := (blk_cell BK357.out 4).trans rfl; have hcz42_5 : w40.cell? ⟨gb357, 5, none⟩ = some (.int .i64 a1_5) := (blk_cell BK357.out 5).trans rfl; have hcz42_6 : w40.cell? ⟨gb357, 6, none⟩ = some (.slice A1_6 l1_6.length c1_6) := (blk_cell BK357.out 6).trans rfl; have hfz42_0 := blk_frozen BK357.out 0; have hfz42_1 := blk_frozen BK357.out 1; have hfz42_2 := blk_frozen BK357.out 2; have hfz42_3 := blk_frozen BK357.out 3; have hfz42_4 := blk_frozen BK357.out 4; have hfz42_5 := blk_frozen BK357.out 5; have hfz42_6 := blk_frozen BK357.out 6))
        go_ret
        exact ⟨by first | rfl | (simp [errW_none, errW_some] <;> rfl) | (simp [*, errW_none, errW_some] <;> rfl), by repeat (first | (with_reducible first | exact HB.out | apply below_alloc | apply pw_below_drewN | apply below_drew1 | refine below_set ?_ GE356.out | refine below_set ?_ GE357.out) | exact HB.out)⟩
    · replace c6 := Bool.eq_false_iff.mpr c6
      subst c6
      have H1 : (some false) = some r := by rw [if_neg (show ¬ (false = true) by decide)] at H; exact H
      clear H
      have H := H1
      clear H1
      obtain rfl := Option.some.inj H
      go_enter Try.func30, Try.ntmps30
      go_wp2_with (first | ((with_reducible refine gate_dst (N := 2) rfl ?_); refine box_event ?hg (N := 2) ?hd (cs := #[.slice A0_0 l0_0.length c0_0, .int .i64 a0_1, .int .i64 a0_2, .int .i64 a0_3, .int .i64 a0_4, .int .i64 a0_5, .slice A0_6 l0_6.length c0_6]) (t := 51) ?hr ?_; (case hd => rfl); (case hg => rfl); (case hr => first | (go_simp; done) | (go_simp; rfl)); intro gb356 hg w43 hbox hb; have n0_ := Aside0.mk (below_step (by repeat (first | (with_reducible first | exact HB.out | apply below_alloc | apply pw_below_drewN | apply below_drew1) | exact HB.out)) hb); have n1_ := Aside0.mk (hbox); have n2_ := Aside0.mk ((by rw [hg]; exact (below_size (by repeat (first | (with_reducible first | exact HB.out | apply below_alloc | apply pw_below_drewN | apply below_drew1) | exact HB.out))) : w.heap.size ≤ gb356)); have n3_ := Aside0.mk ((by rw [hg]; exact (below_size (by repeat (first | (with_reducible first | exact HB.out | apply below_alloc | apply pw_below_drewN | apply below_drew1) | exact HB.out))) : w.heap.size ≤ gb356)); clear HB; have HB := n0_; have BK356 := n1_; have GW356 := n2_; have GE356 := n3_; clear n0_ n1_ n2_ n3_; clear hb hbox hg) | ((with_reducible refine gate_dst (N := 3) rfl ?_); refine box_event ?hg (N := 3) ?hd (cs := #[.slice A1_0 l1_0.length c1_0, .int .i64 a1_1, .int .i64 a1_2, .int .i64 a1_3, .int .i64 a1_4, .int .i64 a1_5, .slice A1_6 l1_6.length c1_6]) (t := 51) ?hr ?_; (case hd => rfl); (case hg => rfl); (case hr => first | (go_simp; done) | (go_simp; rfl)); intro gb357 hg w44 hbox hb; have n0_ := Aside0.mk (blk_below (g := gb356) (o := .cells #[.slice A0_0 l0_0.length c0_0, .int .i64 a0_1, .int .i64 a0_2, .int .i64 a0_3, .int .i64 a0_4, .int .i64 a0_5, .slice A0_6 l0_6.length c0_6] 51 (0, 0)) (by (with_reducible repeat (first | refine blk_drewN ?_ _ | refine blk_drew ?_ | refine blk_alloc ?_ _)); exact BK356.out) hb); have n1_ := Aside0.mk (below_step (by repeat (first | (with_reducible first | exact HB.out | apply below_alloc | apply pw_below_drewN | apply below_drew1 | refine below_set ?_ GE356.out) | exact HB.out)) hb); have n2_ := Aside0.mk (hbox); have n3_ := Aside0.mk ((by rw [hg]; exact (below_size (by repeat (first | (with_reducible first | exact HB.out | apply below_alloc | apply pw_below_drewN | apply below_drew1 | refine below_set ?_ GE356.out) | exact HB.out))) : w.heap.size ≤ gb357)); have n4_ := Aside0.mk ((by rw [hg]; exact (below_size (by repeat (first | (with_reducible first | exact HB.out | apply below_alloc | apply pw_below_drewN | apply below_drew1 | refine below_set ?_ GE356.out) | exact HB.out))) : w.heap.size ≤ gb357)); have n5_ := Aside0.mk ((by rw [hg]; exact Nat.ne_of_lt (blk_lt (g := gb356) (o := .cells #[.slice A0_0 l0_0.length c0_0, .int .i64 a0_1, .int .i64 a0_2, .int .i64 a0_3, .int .i64 a0_4, .int .i64 a0_5, .slice A0_6 l0_6.length c0_6] 51 (0, 0)) (by (with_reducible repeat (first | refine blk_drewN ?_ _ | refine blk_drew ?_ | refine blk_alloc ?_ _)); exact BK356.out)) : gb356 ≠ gb357)); have n6_ := Aside0.mk ((by rw [hg]; exact Nat.ne_of_gt (blk_lt (g := gb356) (o := .cells #[.slice A0_0 l0_0.length c0_0, .int .i64 a0_1, .int .i64 a0_2, .int .i64 a0_3, .int .i64 a0_4, .int .i64 a0_5, .slice A0_6 l0_6.length c0_6] 51 (0, 0)) (by (with_reducible repeat (first | refine blk_drewN ?_ _ | refine blk_drew ?_ | refine blk_alloc ?_ _)); exact BK356.out)) : gb357 ≠ gb356)); clear BK356; clear HB; have BK356 := n0_; have HB := n1_; have BK357 := n2_; have GW357 := n3_; have GE357 := n4_; have NB356_357 := n5_; have NB357_356 := n6_; clear n0_ n1_ n2_ n3_ n4_ n5_ n6_; clear hb hbox hg; have hnb45 := NB356_357.out; have hnc45 := NB357_356.out; have hcz46_0 : w44.cell? ⟨gb356, 0, none⟩ = some (.slice A0_0 l0_0.length c0_0) := (blk_cell BK356.out 0).trans rfl; have hcz46_1 : w44.cell? ⟨gb356, 1, none⟩ = some (.int .i64 a0_1) := (blk_cell BK356.out 1).trans rfl; have hcz46_2 : w44.cell? ⟨gb356, 2, none⟩ = some (.int .i64 a0_2) := (blk_cell BK356.out 2).trans rfl; have hcz46_3 : w44.cell? ⟨gb356, 3, none⟩ = some (.int .i64 a0_3) := (blk_cell BK356.out 3).trans rfl; have hcz46_4 : w44.cell? ⟨gb356, 4, none⟩ = some (.int .i64 a0_4) := (blk_cell BK356.out 4).trans rfl; have hcz46_5 : w44.cell? ⟨gb356, 5, none⟩ = some (.int .i64 a0_5) := (blk_cell BK356.out 5).trans rfl; have hcz46_6 : w44.cell? ⟨gb356, 6, none⟩ = some (.slice A0_6 l0_6.length c0_6) := (blk_cell BK356.out 6).trans rfl; have hfz46_0 := blk_frozen BK356.out 0; have hfz46_1 := blk_frozen BK356.out 1; have hfz46_2 := blk_frozen BK356.out 2; have hfz46_3 := blk_frozen BK356.out 3; have hfz46_4 := blk_frozen BK356.out 4; have hfz46_5 := blk_frozen BK356.out 5; have hfz46_6 := blk_frozen BK356.out 6; have hcz47_0 : w44.cell? ⟨gb357, 0, none⟩ = some (.slice A1_0 l1_0.length c1_0) := (blk_cell BK357.out 0).trans rfl; have hcz47_1 : w44.cell? ⟨gb357, 1, none⟩ = some (.int .i64 a1_1) := (blk_cell BK357.out 1).trans rfl; have hcz47_2 : w44.cell? ⟨gb357, 2, none⟩ = some (.int .i64 a1_2) := (blk_cell BK357.out 2).trans rfl; have hcz47_3 : w44.cell? ⟨gb357, 3, none⟩ = some (.int .i64 a1_3) := (blk_cell BK357.out 3).trans rfl; have hcz47_4 : w44.cell? ⟨gb357, 4, none⟩ = some (.int .i64 a1_4) := (blk_cell BK357.out 4).trans rfl; have hcz47_5 : w44.cell? ⟨gb357, 5, none⟩ = some (.int .i64 a1_5) := (blk_cell BK357.out 5).trans rfl; have hcz47_6 : w44.cell? ⟨gb357, 6, none⟩ = some (.slice A1_6 l1_6.length c1_6) := (blk_cell BK357.out 6).trans rfl; have hfz47_0 := blk_frozen BK357.out 0; have hfz47_1 := blk_frozen BK357.out 1; have hfz47_2 := blk_frozen BK357.out 2; have hfz47_3 := blk_frozen BK357.out 3; have hfz47_4 := blk_frozen BK357.out 4; have hfz47_5 := blk_frozen BK357.out 5; have hfz47_6 := blk_frozen BK357.out 6) | ((with_reducible refine gate_callee (f := 19) rfl ?_); refine goesL_ (some 9) rfl rfl Try.func19 (by kernel_rfl) rfl #[.agg #[.slice A0_0 l0_0.length c0_0], .agg #[.slice A1_0 l1_0.length c1_0]] rfl (by (try simp only [List.map_toArray, List.map_cons, List.map_nil]); first | done | rfl | (simp only [List.length_drop, List.length_take]; rfl)) ?_; (with_reducible refine (laws_eqMemory.calls k _ _ l0_0 _ _ l1_0 true _ ?side1 ?side2 ?side3 ?side4 A3.out).mono ?_); (case side1 => repeat (first | exact (Kd.C_below HR0_0.out HB.out) | (with_reducible refine Kd.C_alloc ?_ _) | (with_reducible refine Kd.C_drewN ?_ _) | (with_reducible refine Kd.C_drew ?_))); (case side2 => exact HC0_0.out); (case side3 => repeat (first | exact (Kd.C_below HR1_0.out HB.out) | (with_reducible refine Kd.C_alloc ?_ _) | (with_reducible refine Kd.C_drewN ?_ _) | (with_reducible refine Kd.C_drew ?_))); (case side4 => exact HC1_0.out); rintro e w48 ⟨rfl, hb⟩; refine ⟨_, rfl, ?_⟩; have n0_ := Aside0.mk (blk_below (g := gb356) (o := .cells #[.slice A0_0 l0_0.length c0_0, .int .i64 a0_1, .int .i64 a0_2, .int .i64 a0_3, .int .i64 a0_4, .int .i64 a0_5, .slice A0_6 l0_6.length c0_6] 51 (0, 0)) (by (with_reducible repeat (first | refine blk_drewN ?_ _ | refine blk_drew ?_ | refine blk_alloc ?_ _)); exact BK356.out) hb); have n1_ := Aside0.mk (blk_below (g := gb357) (o := .cells #[.slice A1_0 l1_0.length c1_0, .int .i64 a1_1, .int .i64 a1_2, .int .i64 a1_3, .int .i64 a1_4, .int .i64 a1_5, .slice A1_6 l1_6.length c1_6] 51 (0, 0)) (by (with_reducible repeat (first | refine blk_drewN ?_ _ | refine blk_drew ?_ | refine blk_alloc ?_ _)); exact BK357.out) hb); have n2_ := Aside0.mk (below_step (by repeat (first | (with_reducible first | exact HB.out | apply below_alloc | apply pw_below_drewN | apply below_drew1 | refine below_set ?_ GE356.out | refine below_set ?_ GE357.out) | exact HB.out)) hb); clear BK356; clear BK357; clear HB; have BK356 := n0_; have BK357 := n1_; have HB := n2_; clear n0_ n1_ n2_; (try clear hb); (try clear hb2); (try clear hk); (try clear hi); have hcz49_0 : w48.cell? ⟨gb356, 0, none⟩ = some (.slice A0_0 l0_0.length c0_0) := (blk_cell BK356.out 0).trans rfl; have hcz49_1 : w48.cell? ⟨gb356, 1, none⟩ = some (.int .i64 a0_1) := (blk_cell BK356.out 1).trans rfl; have hcz49_2 : w48.cell? ⟨gb356, 2, none⟩ = some (.int .i64 a0_2) := (blk_cell BK356.out 2).trans rfl; have hcz49_3 : w48.cell? ⟨gb356, 3, none⟩ = some (.int .i64 a0_3) := (blk_cell BK356.out 3).trans rfl; have hcz49_4 : w48.cell? ⟨gb356, 4, none⟩ = some (.int .i64 a0_4) := (blk_cell BK356.out 4).trans rfl; have hcz49_5 : w48.cell? ⟨gb356, 5, none⟩ = some (.int .i64 a0_5) := (blk_cell BK356.out 5).trans rfl; have hcz49_6 : w48.cell? ⟨gb356, 6, none⟩ = some (.slice A0_6 l0_6.length c0_6) := (blk_cell BK356.out 6).trans rfl; have hfz49_0 := blk_frozen BK356.out 0; have hfz49_1 := blk_frozen BK356.out 1; have hfz49_2 := blk_frozen BK356.out 2; have hfz49_3 := blk_frozen BK356.out 3; have hfz49_4 := blk_frozen BK356.out 4; have hfz49_5 := blk_frozen BK356.out 5; have hfz49_6 := blk_frozen BK356.out 6; have hcz50_0 : w48.cell? ⟨gb357, 0, none⟩ = some (.slice A1_0 l1_0.length c1_0) := (blk_cell BK357.out 0).trans rfl; have hcz50_1 : w48.cell? ⟨gb357, 1, none⟩ = some (.int .i64 a1_1) := (blk_cell BK357.out 1).trans rfl; have hcz50_2 : w48.cell? ⟨gb357, 2, none⟩ = some (.int .i64 a1_2) := (blk_cell BK357.out 2).trans rfl; have hcz50_3 : w48.cell? ⟨gb357, 3, none⟩ = some (.int .i64 a1_3) := (blk_cell BK357.out 3).trans rfl; have hcz50_4 : w48.cell? ⟨gb357, 4, none⟩ = some (.int .i64 a1_4) := (blk_cell BK357.out 4).trans rfl; have hcz50_5 : w48.cell? ⟨gb357, 5, none⟩ = some (.int .i64 a1_5) := (blk_cell BK357.out 5).trans rfl; have hcz50_6 : w48.cell? ⟨gb357, 6, none⟩ = some (.slice A1_6 l1_6.length c1_6) := (blk_cell BK357.out 6).trans rfl; have hfz50_0 := blk_frozen BK357.out 0; have hfz50_1 := blk_frozen BK357.out 1; have hfz50_2 := blk_frozen BK357.out 2; have hfz50_3 := blk_frozen BK357.out 3; have hfz50_4 := blk_frozen BK357.out 4; have hfz50_5 := blk_frozen BK357.out 5; have hfz50_6 := blk_frozen BK357.out 6) | ((with_reducible refine gate_callee (f := 43) rfl ?_); refine goesL_ (some 15) rfl rfl Try.func43 (by kernel_rfl) rfl #[.agg #[.int .i64 a0_1, .int .i64 a0_2, .int .i64 a0_3, .int .i64 a0_4], .agg #[.int .i64 a1_1, .int .i64 a1_2, .int .i64 a1_3, .int .i64 a1_4]] rfl (by (try simp only [List.map_toArray, List.map_cons, List.map_nil]); first | done | rfl | (simp only [List.length_drop, List.length_take]; rfl)) ?_; (with_reducible refine (laws_eqWindow.calls a0_1 a0_2 a0_3 a0_4 a1_1 a1_2 a1_3 a1_4 false _ A5.out).mono ?_); rintro e w51 ⟨rfl, hb⟩; refine ⟨_, rfl, ?_⟩; have n0_ := Aside0.mk (blk_below (g := gb356) (o := .cells #[.slice A0_0 l0_0.length c0_0, .int .i64 a0_1, .int .i64 a0_2, .int .i64 a0_3, .int .i64 a0_4, .int .i64 a0_5, .slice A0_6 l0_6.length c0_6] 51 (0, 0)) (by (with_reducible repeat (first | refine blk_drewN ?_ _ | refine blk_drew ?_ | refine blk_alloc ?_ _)); exact BK356.out) hb); have n1_ := Aside0.mk (blk_below (g := gb357) (o := .cells #[.slice A1_0 l1_0.length c1_0, .int .i64 a1_1, .int .i64 a1_2, .int .i64 a1_3, .int .i64 a1_4, .int .i64 a1_5, .slice A1_6 l1_6.length c1_6] 51 (0, 0)) (by (with_reducible repeat (first | refine blk_drewN ?_ _ | refine blk_drew ?_ | refine blk_alloc ?_ _)); exact BK357.out) hb); have n2_ := Aside0.mk (below_step (by repeat (first | (with_reducible first | exact HB.out | apply below_alloc | apply pw_below_drewN | apply below_drew1 | refine below_set ?_ GE356.out | refine below_set ?_ GE357.out) | exact HB.out)) hb); clear BK356; clear BK357; clear HB; have BK356 := n0_; have BK357 := n1_; have HB := n2_; clear n0_ n1_ n2_; (try clear hb); (try clear hb2); (try clear hk); (try clear hi)))
      go_ret
      exact ⟨by first | rfl | (simp [errW_none, errW_some] <;> rfl) | (simp [*, errW_none, errW_some] <;> rfl), by repeat (first | (with_reducible first | exact HB.out | apply below_alloc | apply pw_below_drewN | apply below_drew1 | refine below_set ?_ GE356.out | refine below_set ?_ GE357.out) | exact HB.out)⟩
  · replace c4 := Bool.eq_false_iff.mpr c4
    subst c4
    have H1 : (some false) = some r := by rw [if_neg (show ¬ (false = true) by decide)] at H; exact H
    clear H
    have H := H1
    clear H1
    obtain rfl := Option.some.inj H
    go_enter Try.func30, Try.ntmps30
    go_wp2_with (first | ((with_reducible refine gate_dst (N := 2) rfl ?_); refine box_event ?hg (N := 2) ?hd (cs := #[.slice A0_0 l0_0.length c0_0, .int .i64 a0_1, .int .i64 a0_2, .int .i64 a0_3, .int .i64 a0_4, .int .i64 a0_5, .slice A0_6 l0_6.length c0_6]) (t := 51) ?hr ?_; (case hd => rfl); (case hg => rfl); (case hr => first | (go_simp; done) | (go_simp; rfl)); intro gb356 hg w52 hbox hb; have n0_ := Aside0.mk (below_step (by repeat (first | (with_reducible first | exact HB.out | apply below_alloc | apply pw_below_drewN | apply below_drew1) | exact HB.out)) hb); have n1_ := Aside0.mk (hbox); have n2_ := Aside0.mk ((by rw [hg]; exact (below_size (by repeat (first | (with_reducible first | exact HB.out | apply below_alloc | apply pw_below_drewN | apply below_drew1) | exact HB.out))) : w.heap.size ≤ gb356)); have n3_ := Aside0.mk ((by rw [hg]; exact (below_size (by repeat (first | (with_reducible first | exact HB.out | apply below_alloc | apply pw_below_drewN | apply below_drew1) | exact HB.out))) : w.heap.size ≤ gb356)); clear HB; have HB := n0_; have BK356 := n1_; have GW356 := n2_; have GE356 := n3_; clear n0_ n1_ n2_ n3_; clear hb hbox hg) | ((with_reducible refine gate_dst (N := 3) rfl ?_); refine box_event ?hg (N := 3) ?hd (cs := #[.slice A1_0 l1_0.length c1_0, .int .i64 a1_1, .int .i64 a1_2, .int .i64 a1_3, .int .i64 a1_4, .int .i64 a1_5, .slice A1_6 l1_6.length c1_6]) (t := 51) ?hr ?_; (case hd => rfl); (case hg => rfl); (case hr => first | (go_simp; done) | (go_simp; rfl)); intro gb357 hg w53 hbox hb; have n0_ := Aside0.mk (blk_below (g := gb356) (o := .cells #[.slice A0_0 l0_0.length c0_0, .int .i64 a0_1, .int .i64 a0_2, .int .i64 a0_3, .int .i64 a0_4, .int .i64 a0_5, .slice A0_6 l0_6.length c0_6] 51 (0, 0)) (by (with_reducible repeat (first | refine blk_drewN ?_ _ | refine blk_drew ?_ | refine blk_alloc ?_ _)); exact BK356.out) hb); have n1_ := Aside0.mk (below_step (by repeat (first | (with_reducible first | exact HB.out | apply below_alloc | apply pw_below_drewN | apply below_drew1 | refine below_set ?_ GE356.out) | exact HB.out)) hb); have n2_ := Aside0.mk (hbox); have n3_ := Aside0.mk ((by rw [hg]; exact (below_size (by repeat (first | (with_reducible first | exact HB.out | apply below_alloc | apply pw_below_drewN | apply below_drew1 | refine below_set ?_ GE356.out) | exact HB.out))) : w.heap.size ≤ gb357)); have n4_ := Aside0.mk ((by rw [hg]; exact (below_size (by repeat (first | (with_reducible first | exact HB.out | apply below_alloc | apply pw_below_drewN | apply below_drew1 | refine below_set ?_ GE356.out) | exact HB.out))) : w.heap.size ≤ gb357)); have n5_ := Aside0.mk ((by rw [hg]; exact Nat.ne_of_lt (blk_lt (g := gb356) (o := .cells #[.slice A0_0 l0_0.length c0_0, .int .i64 a0_1, .int .i64 a0_2, .int .i64 a0_3, .int .i64 a0_4, .int .i64 a0_5, .slice A0_6 l0_6.length c0_6] 51 (0, 0)) (by (with_reducible repeat (first | refine blk_drewN ?_ _ | refine blk_drew ?_ | refine blk_alloc ?_ _)); exact BK356.out)) : gb356 ≠ gb357)); have n6_ := Aside0.mk ((by rw [hg]; exact Nat.ne_of_gt (blk_lt (g := gb356) (o := .cells #[.slice A0_0 l0_0.length c0_0, .int .i64 a0_1, .int .i64 a0_2, .int .i64 a0_3, .int .i64 a0_4, .int .i64 a0_5, .slice A0_6 l0_6.length c0_6] 51 (0, 0)) (by (with_reducible repeat (first | refine blk_drewN ?_ _ | refine blk_drew ?_ | refine blk_alloc ?_ _)); exact BK356.out)) : gb357 ≠ gb356)); clear BK356; clear HB; have BK356 := n0_; have HB := n1_; have BK357 := n2_; have GW357 := n3_; have GE357 := n4_; have NB356_357 := n5_; have NB357_356 := n6_; clear n0_ n1_ n2_ n3_ n4_ n5_ n6_; clear hb hbox hg; have hnb54 := NB356_357.out; have hnc54 := NB357_356.out; have hcz55_0 : w53.cell? ⟨gb356, 0, none⟩ = some (.slice A0_0 l0_0.length c0_0) := (blk_cell BK356.out 0).trans rfl; have hcz55_1 : w53.cell? ⟨gb356, 1, none⟩ = some (.int .i64 a0_1) := (blk_cell BK356.out 1).trans rfl; have hcz55_2 : w53.cell? ⟨gb356, 2, none⟩ = some (.int .i64 a0_2) := (blk_cell BK356.out 2).trans rfl; have hcz55_3 : w53.cell? ⟨gb356, 3, none⟩ = some (.int .i64 a0_3) := (blk_cell BK356.out 3).trans rfl; have hcz55_4 : w53.cell? ⟨gb356, 4, none⟩ = some (.int .i64 a0_4) := (blk_cell BK356.out 4).trans rfl; have hcz55_5 : w53.cell? ⟨gb356, 5, none⟩ = some (.int .i64 a0_5) := (blk_cell BK356.out 5).trans rfl; have hcz55_6 : w53.cell? ⟨gb356, 6, none⟩ = some (.slice A0_6 l0_6.length c0_6) := (blk_cell BK356.out 6).trans rfl; have hfz55_0 := blk_frozen BK356.out 0; have hfz55_1 := blk_frozen BK356.out 1; have hfz55_2 := blk_frozen BK356.out 2; have hfz55_3 := blk_frozen BK356.out 3; have hfz55_4 := blk_frozen BK356.out 4; have hfz55_5 := blk_frozen BK356.out 5; have hfz55_6 := blk_frozen BK356.out 6; have hcz56_0 : w53.cell? ⟨gb357, 0, none⟩ = some (.slice A1_0 l1_0.length c1_0) := (blk_cell BK357.out 0).trans rfl; have hcz56_1 : w53.cell? ⟨gb357, 1, none⟩ = some (.int .i64 a1_1) := (blk_cell BK357.out 1).trans rfl; have hcz56_2 : w53.cell? ⟨gb357, 2, none⟩ = some (.int .i64 a1_2) := (blk_cell BK357.out 2).trans rfl; have hcz56_3 : w53.cell? ⟨gb357, 3, none⟩ = some (.int .i64 a1_3) := (blk_cell BK357.out 3).trans rfl; have hcz56_4 : w53.cell? ⟨gb357, 4, none⟩ = some (.int .i64 a1_4) := (blk_cell BK357.out 4).trans rfl; have hcz56_5 : w53.cell? ⟨gb357, 5, none⟩ = some (.int .i64 a1_5) := (blk_cell BK357.out 5).trans rfl; have hcz56_6 : w53.cell? ⟨gb357, 6, none⟩ = some (.slice A1_6 l1_6.length c1_6) := (blk_cell BK357.out 6).trans rfl; have hfz56_0 := blk_frozen BK357.out 0; have hfz56_1 := blk_frozen BK357.out 1; have hfz56_2 := blk_frozen BK357.out 2; have hfz56_3 := blk_frozen BK357.out 3; have hfz56_4 := blk_frozen BK357.out 4; have hfz56_5 := blk_frozen BK357.out 5; have hfz56_6 := blk_frozen BK357.out 6) | ((with_reducible refine gate_callee (f := 19) rfl ?_); refine goesL_ (some 9) rfl rfl Try.func19 (by kernel_rfl) rfl #[.agg #[.slice A0_0 l0_0.length c0_0], .agg #[.slice A1_0 l1_0.length c1_0]] rfl (by (try simp only [List.map_toArray, List.map_cons, List.map_nil]); first | done | rfl | (simp only [List.length_drop, List.length_take]; rfl)) ?_; (with_reducible refine (laws_eqMemory.calls k _ _ l0_0 _ _ l1_0 false _ ?side1 ?side2 ?side3 ?side4 A3.out).mono ?_); (case side1 => repeat (first | exact (Kd.C_below HR0_0.out HB.out) | (with_reducible refine Kd.C_alloc ?_ _) | (with_reducible refine Kd.C_drewN ?_ _) | (with_reducible refine Kd.C_drew ?_))); (case side2 => exact HC0_0.out); (case side3 => repeat (first | exact (Kd.C_below HR1_0.out HB.out) | (with_reducible refine Kd.C_alloc ?_ _) | (with_reducible refine Kd.C_drewN ?_ _) | (with_reducible refine Kd.C_drew ?_))); (case side4 => exact HC1_0.out); rintro e w57 ⟨rfl, hb⟩; refine ⟨_, rfl, ?_⟩; have n0_ := Aside0.mk (blk_below (g := gb356) (o := .cells #[.slice A0_0 l0_0.length c0_0, .int .i64 a0_1, .int .i64 a0_2, .int .i64 a0_3, .int .i64 a0_4, .int .i64 a0_5, .slice A0_6 l0_6.length c0_6] 51 (0, 0)) (by (with_reducible repeat (first | refine blk_drewN ?_ _ | refine blk_drew ?_ | refine blk_alloc ?_ _)); exact BK356.out) hb); have n1_ := Aside0.mk (blk_below (g := gb357) (o := .cells #[.slice A1_0 l1_0.length c1_0, .int .i64 a1_1, .int .i64 a1_2, .int .i64 a1_3, .int .i64 a1_4, .int .i64 a1_5, .slice A1_6 l1_6.length c1_6] 51 (0, 0)) (by (with_reducible repeat (first | refine blk_drewN ?_ _ | refine blk_drew ?_ | refine blk_alloc ?_ _)); exact BK357.out) hb); have n2_ := Aside0.mk (below_step (by repeat (first | (with_reducible first | exact HB.out | apply below_alloc | apply pw_below_drewN | apply below_drew1 | refine below_set ?_ GE356.out | refine below_set ?_ GE357.out) | exact HB.out)) hb); clear BK356; clear BK357; clear HB; have BK356 := n0_; have BK357 := n1_; have HB := n2_; clear n0_ n1_ n2_; (try clear hb); (try clear hb2); (try clear hk); (try clear hi)))
    go_ret
    exact ⟨by first | rfl | (simp [errW_none, errW_some] <;> rfl) | (simp [*, errW_none, errW_some] <;> rfl), by repeat (first | (with_reducible first | exact HB.out | apply below_alloc | apply pw_below_drewN | apply below_drew1 | refine below_set ?_ GE356.out | refine below_set ?_ GE357.out) | exact HB.out)⟩

end Go.Proofs.Ytoomjghabiojkaa.P


namespace Go.Proofs.Ytoomjghabiojkaa.P
open Go.RowKit Go.Proofs.YtoomjghabiojkaaW.PrintWords Go.Proofs.YtoomjghabiojkaaW.PrintLast Go.Proofs.YtoomjghabiojkaaW.PrintMore
attribute [local go_sem] max2_int min2_int max_two min_two max_three min_three max_four min_four   -- for this text's walks alone
set_option linter.unusedVariables false
set_option linter.unusedSimpArgs false

def laws_heldArena.f (k : Nat) (l0_0 : List (List Int)) (a0_1 : Int) (a0_2 : Int) (a0_3 : Int) (a0_4 : Int) (a0_5 : Int) (l0_6 : List Int) (a1 : Int) : Option (Int) := (laws_heldMemory.f k l0_0 a1).bind fun t363 => (if t363 < 0 then (some (-1)) else ((laws_heldIntS.f k l0_6 t363).bind fun t364 => (if t364 < 0 then (some (-1)) else (some t364))))
set_option maxHeartbeats 8000000 in
set_option maxRecDepth 100000 in
theorem laws_heldArena.calls (k : Nat) (A0_0 : Option Addr) (c0_0 : Nat) (l0_0 : List (List Int)) (a0_1 : Int) (a0_2 : Int) (a0_3 : Int) (a0_4 : Int) (a0_5 : Int) (A0_6 : Option Addr) (c0_6 : Nat) (l0_6 : List Int) (a1 : Int) (r : Int) (w : World) (hr0_0 : Kd.C (Kd.slice 5 (Kd.int .u8)) w A0_0 l0_0.length l0_0) (hc0_0 : l0_0.length ≤ c0_0) (hr0_6 : Kd.C (Kd.int .i64) w A0_6 l0_6.length l0_6) (hc0_6 : l0_6.length ≤ c0_6) (h : laws_heldArena.f k l0_0 a0_1 a0_2 a0_3 a0_4 a0_5 l0_6 a1 = some r) :
    Calls Try.prog 32 #[.agg #[.slice A0_0 l0_0.length c0_0, .int .i64 a0_1, .int .i64 a0_2, .int .i64 a0_3, .int .i64 a0_4, .int .i64 a0_5, .slice A0_6 l0_6.length c0_6], .int .i64 a1] w fun e w' => e = .returned (.int .i64 r) ∧ Below w.heap.size w w' := by
  have hu51 := Try.underlying51
  have hu26 := Try.underlying26
  have HR0_0 := Aside0.mk hr0_0
  have HC0_0 := Aside0.mk hc0_0
  clear hr0_0 hc0_0
  have HR0_6 := Aside0.mk hr0_6
  have HC0_6 := Aside0.mk hc0_6
  clear hr0_6 hc0_6
  have HB := Aside0.mk (Below.refl w.heap.size w)
  have H : ((laws_heldMemory.f k l0_0 a1).bind fun t363 => (if t363 < 0 then (some (-1)) else ((laws_heldIntS.f k l0_6 t363).bind fun t364 => (if t364 < 0 then (some (-1)) else (some t364))))) = some r := h
  clear h
  replace H := Option.bind_eq_some_iff.mp H
  obtain ⟨t363, A30, H⟩ := H
  replace H : (if t363 < 0 then (some (-1)) else ((laws_heldIntS.f k l0_6 t363).bind fun t364 => (if t364 < 0 then (some (-1)) else (some t364)))) = some r := H
  have A3 := Aside0.mk A30
  clear A30
  by_cases c4 : t363 < 0
  · rw [if_pos c4] at H
    have c4b0 : decide (t363 < 0) = true := decide_eq_true c4
    clear c4
    obtain rfl := Option.some.inj H
    go_enter Try.func32, Try.ntmps32
    go_wp2_with (first | ((with_reducible refine gate_dst (N := 2) rfl ?_); refine box_event ?hg (N := 2) ?hd (cs := #[.slice A0_0 l0_0.length c0_0, .int .i64 a0_1, .int .i64 a0_2, .int .i64 a0_3, .int .i64 a0_4, .int .i64 a0_5, .slice A0_6 l0_6.length c0_6]) (t := 51) ?hr ?_; (case hd => rfl); (case hg => rfl); (case hr => first | (go_simp; done) | (go_simp; rfl)); intro gb362 hg w5 hbox hb; have n0_ := Aside0.mk (below_step (by repeat (first | (with_reducible first | exact HB.out | apply below_alloc | apply pw_below_drewN | apply below_drew1) | exact HB.out)) hb); have n1_ := Aside0.mk (hbox); have n2_ := Aside0.mk ((by rw [hg]; exact (below_size (by repeat (first | (with_reducible first | exact HB.out | apply below_alloc | apply pw_below_drewN | apply below_drew1) | exact HB.out))) : w.heap.size ≤ gb362)); have n3_ := Aside0.mk ((by rw [hg]; exact (below_size (by repeat (first | (with_reducible first | exact HB.out | apply below_alloc | apply pw_below_drewN | apply below_drew1) | exact HB.out))) : w.heap.size ≤ gb362)); clear HB; have HB := n0_; have BK362 := n1_; have GW362 := n2_; have GE362 := n3_; clear n0_ n1_ n2_ n3_; clear hb hbox hg; have hcz6_0 : w5.cell? ⟨gb362, 0, none⟩ = some (.slice A0_0 l0_0.length c0_0) := (blk_cell BK362.out 0).trans rfl; have hcz6_1 : w5.cell? ⟨gb362, 1, none⟩ = some (.int .i64 a0_1) := (blk_cell BK362.out 1).trans rfl; have hcz6_2 : w5.cell? ⟨gb362, 2, none⟩ = some (.int .i64 a0_2) := (blk_cell BK362.out 2).trans rfl; have hcz6_3 : w5.cell? ⟨gb362, 3, none⟩ = some (.int .i64 a0_3) := (blk_cell BK362.out 3).trans rfl; have hcz6_4 : w5.cell? ⟨gb362, 4, none⟩ = some (.int .i64 a0_4) := (blk_cell BK362.out 4).trans rfl; have hcz6_5 : w5.cell? ⟨gb362, 5, none⟩ = some (.int .i64 a0_5) := (blk_cell BK362.out 5).trans rfl; have hcz6_6 : w5.cell? ⟨gb362, 6, none⟩ = some (.slice A0_6 l0_6.length c0_6) := (blk_cell BK362.out 6).trans rfl; have hfz6_0 := blk_frozen BK362.out 0; have hfz6_1 := blk_frozen BK362.out 1; have hfz6_2 := blk_frozen BK362.out 2; have hfz6_3 := blk_frozen BK362.out 3; have hfz6_4 := blk_frozen BK362.out 4; have hfz6_5 := blk_frozen BK362.out 5; have hfz6_6 := blk_frozen BK362.out 6) | ((with_reducible refine gate_callee (f := 69) rfl ?_); refine goesL_ (some 8) rfl rfl Try.func69 (by kernel_rfl) rfl #[.agg #[.slice A0_0 l0_0.length c0_0], .int .i64 a1] rfl (by (try simp only [List.map_toArray, List.map_cons, List.map_nil]); first | done | rfl | (simp only [List.length_drop, List.length_take]; rfl)) ?_; (with_reducible refine (laws_heldMemory.calls k _ _ l0_0 a1 t363 _ ?side1 ?side2 A3.out).mono ?_); (case side1 => repeat (first | exact (Kd.C_below HR0_0.out HB.out) | (with_reducible refine Kd.C_alloc ?_ _) | (with_reducible refine Kd.C_drewN ?_ _) | (with_reducible refine Kd.C_drew ?_))); (case side2 => exact HC0_0.out); rintro e w7 ⟨rfl, hb⟩; refine ⟨_, rfl, ?_⟩; have n0_ := Aside0.mk (blk_below (g := gb362) (o := .cells #[.slice A0_0 l0_0.length c0_0, .int .i64 a0_1, .int .i64 a0_2, .int .i64 a0_3, .int .i64 a0_4, .int .i64 a0_5, .slice A0_6 l0_6.length c0_6] 51 (0, 0)) (by (with_reducible repeat (first | refine blk_drewN ?_ _ | refine blk_drew ?_ | refine blk_alloc ?_ _)); exact BK362.out) hb); have n1_ := Aside0.mk (below_step (by repeat (first | (with_reducible first | exact HB.out | apply below_alloc | apply pw_below_drewN | apply below_drew1 | refine below_set ?_ GE362.out) | exact HB.out)) hb); clear BK362; clear HB; have BK362 := n0_; have HB := n1_; clear n0_ n1_; (try clear hb); (try clear hb2); (try clear hk); (try clear hi)))
    go_ret
    exact ⟨by first | rfl | (simp [errW_none, errW_some] <;> rfl) | (simp [*, errW_none, errW_some] <;> rfl), by repeat (first | (with_reducible first | exact HB.out | apply below_alloc | apply pw_below_drewN | apply below_drew1 | refine below_set ?_ GE362.out) | exact HB.out)⟩
  · rw [if_neg c4] at H
    have c4b0 : decide (t363 < 0) = false := decide_eq_false c4
    clear c4
    replace H := Option.bind_eq_some_iff.mp H
    obtain ⟨t364, A80, H⟩ := H
    replace H : (if t364 < 0 then (some (-1)) else (some t364)) = some r := H
    have A8 := Aside0.mk A80
    clear A80
    by_cases c9 : t364 < 0
    · rw [if_pos c9] at H
      have c9b0 : decide (t364 < 0) = true := decide_eq_true c9
      clear c9
      obtain rfl := Option.some.inj H
      go_enter Try.func32, Try.ntmps32
      go_wp2_with (first | ((with_reducible refine gate_dst (N := 2) rfl ?_); refine box_event ?hg (N := 2) ?hd (cs := #[.slice A0_0 l0_0.length c0_0, .int .i64 a0_1, .int .i64 a0_2, .int .i64 a0_3, .int .i64 a0_4, .int .i64 a0_5, .slice A0_6 l0_6.length c0_6]) (t := 51) ?hr ?_; (case hd => rfl); (case hg => rfl); (case hr => first | (go_simp; done) | (go_simp; rfl)); intro gb362 hg w10 hbox hb; have n0_ := Aside0.mk (below_step (by repeat (first | (with_reducible first | exact HB.out | apply below_alloc | apply pw_below_drewN | apply below_drew1) | exact HB.out)) hb); have n1_ := Aside0.mk (hbox); have n2_ := Aside0.mk ((by rw [hg]; exact (below_size (by repeat (first | (with_reducible first | exact HB.out | apply below_alloc | apply pw_below_drewN | apply below_drew1) | exact HB.out))) : w.heap.size ≤ gb362)); have n3_ := Aside0.mk ((by rw [hg]; exact (below_size (by repeat (first | (with_reducible first | exact HB.out | apply below_alloc | apply pw_below_drewN | apply below_drew1) | exact HB.out))) : w.heap.size ≤ gb362)); clear HB; have HB := n0_; have BK362 := n1_; have GW362 := n2_; have GE362 := n3_; clear n0_ n1_ n2_ n3_; clear hb hbox hg; have hcz11_0 : w10.cell? ⟨gb362, 0, none⟩ = some (.slice A0_0 l0_0.length c0_0) := (blk_cell BK362.out 0).trans rfl; have hcz11_1 : w10.cell? ⟨gb362, 1, none⟩ = some (.int .i64 a0_1) := (blk_cell BK362.out 1).trans rfl; have hcz11_2 : w10.cell? ⟨gb362, 2, none⟩ = some (.int .i64 a0_2) := (blk_cell BK362.out 2).trans rfl; have hcz11_3 : w10.cell? ⟨gb362, 3, none⟩ = some (.int .i64 a0_3) := (blk_cell BK362.out 3).trans rfl; have hcz11_4 : w10.cell? ⟨gb362, 4, none⟩ = some (.int .i64 a0_4) := (blk_cell BK362.out 4).trans rfl; have hcz11_5 : w10.cell? ⟨gb362, 5, none⟩ = some (.int .i64 a0_5) := (blk_cell BK362.out 5).trans rfl; have hcz11_6 : w10.cell? ⟨gb362, 6, none⟩ = some (.slice A0_6 l0_6.length c0_6) := (blk_cell BK362.out 6).trans rfl; have hfz11_0 := blk_frozen BK362.out 0; have hfz11_1 := blk_frozen BK362.out 1; have hfz11_2 := blk_frozen BK362.out 2; have hfz11_3 := blk_frozen BK362.out 3; have hfz11_4 := blk_frozen BK362.out 4; have hfz11_5 := blk_frozen BK362.out 5; have hfz11_6 := blk_frozen BK362.out 6) | ((with_reducible refine gate_callee (f := 69) rfl ?_); refine goesL_ (some 8) rfl rfl Try.func69 (by kernel_rfl) rfl #[.agg #[.slice A0_0 l0_0.length c0_0], .int .i64 a1] rfl (by (try simp only [List.map_toArray, List.map_cons, List.map_nil]); first | done | rfl | (simp only [List.length_drop, List.length_take]; rfl)) ?_; (with_reducible refine (laws_heldMemory.calls k _ _ l0_0 a1 t363 _ ?side1 ?side2 A3.out).mono ?_); (case side1 => repeat (first | exact (Kd.C_below HR0_0.out HB.out) | (with_reducible refine Kd.C_alloc ?_ _) | (with_reducible refine Kd.C_drewN ?_ _) | (with_reducible refine Kd.C_drew ?_))); (case side2 => exact HC0_0.out); rintro e w12 ⟨rfl, hb⟩; refine ⟨_, rfl, ?_⟩; have n0_ := Aside0.mk (blk_below (g := gb362) (o := .cells #[.slice A0_0 l0_0.length c0_0, .int .i64 a0_1, .int .i64 a0_2, .int .i64 a0_3, .int .i64 a0_4, .int .i64 a0_5, .slice A0_6 l0_6.length c0_6] 51 (0, 0)) (by (with_reducible repeat (first | refine blk_drewN ?_ _ | refine blk_drew ?_ | refine blk_alloc ?_ _)); exact BK362.out) hb); have n1_ := Aside0.mk (below_step (by repeat (first | (with_reducible first | exact HB.out | apply below_alloc | apply pw_below_drewN | apply below_drew1 | refine below_set ?_ GE362.out) | exact HB.out)) hb); clear BK362; clear HB; have BK362 := n0_; have HB := n1_; clear n0_ n1_; (try clear hb); (try clear hb2); (try clear hk); (try clear hi); have hcz13_0 : w12.cell? ⟨gb362, 0, none⟩ = some (.slice A0_0 l0_0.length c0_0) := (blk_cell BK362.out 0).trans rfl; have hcz13_1 : w12.cell? ⟨gb362, 1, none⟩ = some (.int .i64 a0_1) := (blk_cell BK362.out 1).trans rfl; have hcz13_2 : w12.cell? ⟨gb362, 2, none⟩ = some (.int .i64 a0_2) := (blk_cell BK362.out 2).trans rfl; have hcz13_3 : w12.cell? ⟨gb362, 3, none⟩ = some (.int .i64 a0_3) := (blk_cell BK362.out 3).trans rfl; have hcz13_4 : w12.cell? ⟨gb362, 4, none⟩ = some (.int .i64 a0_4) := (blk_cell BK362.out 4).trans rfl; have hcz13_5 : w12.cell? ⟨gb362, 5, none⟩ = some (.int .i64 a0_5) := (blk_cell BK362.out 5).trans rfl; have hcz13_6 : w12.cell? ⟨gb362, 6, none⟩ = some (.slice A0_6 l0_6.length c0_6) := (blk_cell BK362.out 6).trans rfl; have hfz13_0 := blk_frozen BK362.out 0; have hfz13_1 := blk_frozen BK362.out 1; have hfz13_2 := blk_frozen BK362.out 2; have hfz13_3 := blk_frozen BK362.out 3; have hfz13_4 := blk_frozen BK362.out 4; have hfz13_5 := blk_frozen BK362.out 5; have hfz13_6 := blk_frozen BK362.out 6) | ((with_reducible refine gate_callee (f := 93) rfl ?_); refine goesL_ (some 14) rfl rfl Try.func93 (by kernel_rfl) rfl #[.slice A0_6 l0_6.length c0_6, .int .i64 t363] rfl (by (try simp only [List.map_toArray, List.map_cons, List.map_nil]); first | done | rfl | (simp only [List.length_drop, List.length_take]; rfl)) ?_; (with_reducible refine (laws_heldIntS.calls k _ _ l0_6 t363 t364 _ ?side1 ?side2 A8.out).mono ?_); (case side1 => repeat (first | exact (Kd.C_below HR0_6.out HB.out) | (with_reducible refine Kd.C_alloc ?_ _) | (with_reducible refine Kd.C_drewN ?_ _) | (with_reducible refine Kd.C_drew ?_))); (case side2 => exact HC0_6.out); rintro e w' ⟨rfl, ⟨nd, rfl⟩⟩; refine ⟨_, rfl, ?_⟩))
      go_ret
      exact ⟨by first | rfl | (simp [errW_none, errW_some] <;> rfl) | (simp [*, errW_none, errW_some] <;> rfl), by repeat (first | (with_reducible first | exact HB.out | apply below_alloc | apply pw_below_drewN | apply below_drew1 | refine below_set ?_ GE362.out) | exact HB.out)⟩
    · rw [if_neg c9] at H
      have c9b0 : decide (t364 < 0) = false := decide_eq_false c9
      clear c9
      obtain rfl := Option.some.inj H
      go_enter Try.func32, Try.ntmps32
      go_wp2_with (first | ((with_reducible refine gate_dst (N := 2) rfl ?_); refine box_event ?hg (N := 2) ?hd (cs := #[.slice A0_0 l0_0.length c0_0, .int .i64 a0_1, .int .i64 a0_2, .int .i64 a0_3, .int .i64 a0_4, .int .i64 a0_5, .slice A0_6 l0_6.length c0_6]) (t := 51) ?hr ?_; (case hd => rfl); (case hg => rfl); (case hr => first | (go_simp; done) | (go_simp; rfl)); intro gb362 hg w14 hbox hb; have n0_ := Aside0.mk (below_step (by repeat (first | (with_reducible first | exact HB.out | apply below_alloc | apply pw_below_drewN | apply below_drew1) | exact HB.out)) hb); have n1_ := Aside0.mk (hbox); have n2_ := Aside0.mk ((by rw [hg]; exact (below_size (by repeat (first | (with_reducible first | exact HB.out | apply below_alloc | apply pw_below_drewN | apply below_drew1) | exact HB.out))) : w.heap.size ≤ gb362)); have n3_ := Aside0.mk ((by rw [hg]; exact (below_size (by repeat (first | (with_reducible first | exact HB.out | apply below_alloc | apply pw_below_drewN | apply below_drew1) | exact HB.out))) : w.heap.size ≤ gb362)); clear HB; have HB := n0_; have BK362 := n1_; have GW362 := n2_; have GE362 := n3_; clear n0_ n1_ n2_ n3_; clear hb hbox hg; have hcz15_0 : w14.cell? ⟨gb362, 0, none⟩ = some (.slice A0_0 l0_0.length c0_0) := (blk_cell BK362.out 0).trans rfl; have hcz15_1 : w14.cell? ⟨gb362, 1, none⟩ = some (.int .i64 a0_1) := (blk_cell BK362.out 1).trans rfl; have hcz15_2 : w14.cell? ⟨gb362, 2, none⟩ = some (.int .i64 a0_2) := (blk_cell BK362.out 2).trans rfl; have hcz15_3 : w14.cell? ⟨gb362, 3, none⟩ = some (.int .i64 a0_3) := (blk_cell BK362.out 3).trans rfl; have hcz15_4 : w14.cell? ⟨gb362, 4, none⟩ = some (.int .i64 a0_4) := (blk_cell BK362.out 4).trans rfl; have hcz15_5 : w14.cell? ⟨gb362, 5, none⟩ = some (.int .i64 a0_5) := (blk_cell BK362.out 5).trans rfl; have hcz15_6 : w14.cell? ⟨gb362, 6, none⟩ = some (.slice A0_6 l0_6.length c0_6) := (blk_cell BK362.out 6).trans rfl; have hfz15_0 := blk_frozen BK362.out 0; have hfz15_1 := blk_frozen BK362.out 1; have hfz15_2 := blk_frozen BK362.out 2; have hfz15_3 := blk_frozen BK362.out 3; have hfz15_4 := blk_frozen BK362.out 4; have hfz15_5 := blk_frozen BK362.out 5; have hfz15_6 := blk_frozen BK362.out 6) | ((with_reducible refine gate_callee (f := 69) rfl ?_); refine goesL_ (some 8) rfl rfl Try.func69 (by kernel_rfl) rfl #[.agg #[.slice A0_0 l0_0.length c0_0], .int .i64 a1] rfl (by (try simp only [List.map_toArray, List.map_cons, List.map_nil]); first | done | rfl | (simp only [List.length_drop, List.length_take]; rfl)) ?_; (with_reducible refine (laws_heldMemory.calls k _ _ l0_0 a1 t363 _ ?side1 ?side2 A3.out).mono ?_); (case side1 => repeat (first | exact (Kd.C_below HR0_0.out HB.out) | (with_reducible refine Kd.C_alloc ?_ _) | (with_reducible refine Kd.C_drewN ?_ _) | (with_reducible refine Kd.C_drew ?_))); (case side2 => exact HC0_0.out); rintro e w16 ⟨rfl, hb⟩; refine ⟨_, rfl, ?_⟩; have n0_ := Aside0.mk (blk_below (g := gb362) (o := .cells #[.slice A0_0 l0_0.length c0_0, .int .i64 a0_1, .int .i64 a0_2, .int .i64 a0_3, .int .i64 a0_4, .int .i64 a0_5, .slice A0_6 l0_6.length c0_6] 51 (0, 0)) (by (with_reducible repeat (first | refine blk_drewN ?_ _ | refine blk_drew ?_ | refine blk_alloc ?_ _)); exact BK362.out) hb); have n1_ := Aside0.mk (below_step (by repeat (first | (with_reducible first | exact HB.out | apply below_alloc | apply pw_below_drewN | apply below_drew1 | refine below_set ?_ GE362.out) | exact HB.out)) hb); clear BK362; clear HB; have BK362 := n0_; have HB := n1_; clear n0_ n1_; (try clear hb); (try clear hb2); (try clear hk); (try clear hi); have hcz17_0 : w16.cell? ⟨gb362, 0, none⟩ = some (.slice A0_0 l0_0.length c0_0) := (blk_cell BK362.out 0).trans rfl; have hcz17_1 : w16.cell? ⟨gb362, 1, none⟩ = some (.int .i64 a0_1) := (blk_cell BK362.out 1).trans rfl; have hcz17_2 : w16.cell? ⟨gb362, 2, none⟩ = some (.int .i64 a0_2) := (blk_cell BK362.out 2).trans rfl; have hcz17_3 : w16.cell? ⟨gb362, 3, none⟩ = some (.int .i64 a0_3) := (blk_cell BK362.out 3).trans rfl; have hcz17_4 : w16.cell? ⟨gb362, 4, none⟩ = some (.int .i64 a0_4) := (blk_cell BK362.out 4).trans rfl; have hcz17_5 : w16.cell? ⟨gb362, 5, none⟩ = some (.int .i64 a0_5) := (blk_cell BK362.out 5).trans rfl; have hcz17_6 : w16.cell? ⟨gb362, 6, none⟩ = some (.slice A0_6 l0_6.length c0_6) := (blk_cell BK362.out 6).trans rfl; have hfz17_0 := blk_frozen BK362.out 0; have hfz17_1 := blk_frozen BK362.out 1; have hfz17_2 := blk_frozen BK362.out 2; have hfz17_3 := blk_frozen BK362.out 3; have hfz17_4 := blk_frozen BK362.out 4; have hfz17_5 := blk_frozen BK362.out 5; have hfz17_6 := blk_frozen BK362.out 6) | ((with_reducible refine gate_callee (f := 93) rfl ?_); refine goesL_ (some 14) rfl rfl Try.func93 (by kernel_rfl) rfl #[.slice A0_6 l0_6.length c0_6, .int .i64 t363] rfl (by (try simp only [List.map_toArray, List.map_cons, List.map_nil]); first | done | rfl | (simp only [List.length_drop, List.length_take]; rfl)) ?_; (with_reducible refine (laws_heldIntS.calls k _ _ l0_6 t363 t364 _ ?side1 ?side2 A8.out).mono ?_); (case side1 => repeat (first | exact (Kd.C_below HR0_6.out HB.out) | (with_reducible refine Kd.C_alloc ?_ _) | (with_reducible refine Kd.C_drewN ?_ _) | (with_reducible refine Kd.C_drew ?_))); (case side2 => exact HC0_6.out); rintro e w' ⟨rfl, ⟨nd, rfl⟩⟩; refine ⟨_, rfl, ?_⟩))
      go_ret
      exact ⟨by first | rfl | (simp [errW_none, errW_some] <;> rfl) | (simp [*, errW_none, errW_some] <;> rfl), by repeat (first | (with_reducible first | exact HB.out | apply below_alloc | apply pw_below_drewN | apply below_drew1 | refine below_set ?_ GE362.out) | exact HB.out)⟩

end Go.Proofs.Ytoomjghabiojkaa.P


/- Arenas: what the printed functions come to; NewArena. -/
namespace Go.Proofs.Ytoomjghabiojkaa.P
open Go.RowKit Go.Proofs.YtoomjghabiojkaaW.PrintWords Go.Proofs.YtoomjghabiojkaaW.Mine
set_option linter.unusedVariables false
theorem areOn1_f (m : List (List Int)) (a s n c : Int) : impl_areOn.f m [(⟨a, s, n, c⟩ : SimplWindow)] = some (memB m && winB m a s n c) := by simp [impl_areOn.f, winW]
theorem eqArena_f (m : List (List Int)) (a s n c u : Int) (l : List Int) (h : okM m) (hl : l.length ≤ 1048576) : Ev (fun k => laws_eqArena.f k m a s n c u l m a s n c u l) true := by
  refine Ev.bind (eqM m h) ?_
  simp only [if_true, eqWindow_same, Option.bind_some]
  refine Ev.bind (eqIntS_f l (by omega)) ?_
  simp only [if_true]
  exact Ev.now _
theorem markA (m : List (List Int)) (l : List Int) (h : okM m) (hl : l.length ≤ 1048576) : laws_markArena.f m l 1 = some ((1 : Int) + (sizeBB m : Int) + 1 * (l.length : Int), marksBB 1 m, marksG (fun k => k) 1 (1 + sizeBB m) l.length) := if_pos ⟨by omega, by have := h.2.2; omega, by have := h.1; omega⟩
theorem heldArena_f (m : List (List Int)) (b1 b2 b3 b4 b5 : Int) (n : Nat) (h : okM m) (hl : n ≤ 1048576) : Ev (fun k => laws_heldArena.f k (marksBB 1 m) b1 b2 b3 b4 b5 (marksG (fun k => k) 1 (1 + sizeBB m) n) 1) ((1 : Int) + (sizeBB m : Int) + 1 * (n : Int)) := by
  refine Ev.bind (heldMemory_f m h) ?_
  simp only [if_neg (show ¬ (1 : Int) + (sizeBB m : Int) < 0 by omega)]
  refine Ev.bind (heldIntS_f n (1 + sizeBB m) (by omega) (by have := h.2.2; omega)) ?_
  simp only [if_neg (show ¬ (1 : Int) + (sizeBB m : Int) + 1 * (n : Int) < 0 by omega)]
  exact Ev.now _
end Go.Proofs.Ytoomjghabiojkaa.P


namespace Go.Proofs.Ytoomjghabiojkaa.P
open Go.RowKit Go.Proofs.YtoomjghabiojkaaW.PrintWords Go.Proofs.YtoomjghabiojkaaW.PrintLast Go.Proofs.YtoomjghabiojkaaW.PrintMore
attribute [local go_sem] max2_int min2_int max_two min_two max_three min_three max_four min_four   -- for this text's walks alone
set_option linter.unusedVariables false
set_option linter.unusedSimpArgs false

def impl_allWithin.l0 : Nat → Int → Int → List Int → Int → Int → Option (Bool)
  | 0, _, _, _, _, _ => none
  | k + 1, x1, x2, x9, x10, x11 => if x11 < x10 then (if 0 ≤ x11 then (if x11 < (x9.length : Int) then ((impl_within.f (rd x9 x11) x1 x2).bind fun t939 => (if t939 = true then (impl_allWithin.l0 k x1 x2 x9 x10 (wrap64 (x11 + 1))) else (some false))) else (none)) else (none)) else (some true)
def impl_allWithin.f (k : Nat) (l0 : List Int) (a1 : Int) (a2 : Int) : Option (Bool) := impl_allWithin.l0 k a1 a2 l0 (l0.length : Int) 0
set_option maxHeartbeats 8000000 in
set_option maxRecDepth 100000 in
theorem impl_allWithin.calls (k : Nat) (A0 : Option Addr) (c0 : Nat) (l0 : List Int) (a1 : Int) (a2 : Int) (r : Bool) (w : World) (hr0 : Kd.C (Kd.int .i64) w A0 l0.length l0) (hc0 : l0.length ≤ c0) (h : impl_allWithin.f k l0 a1 a2 = some r) :
    Calls Try.prog 148 #[.slice A0 l0.length c0, .int .i64 a1, .int .i64 a2] w fun e w' => e = .returned (.bool r) ∧ Drawn0 w w' := by
  have HR0 := Aside0.mk hr0
  have HC0 := Aside0.mk hc0
  clear hr0 hc0
  have H : (impl_allWithin.l0 k a1 a2 l0 (l0.length : Int) 0) = some r := h
  clear h
  have H' := Aside0.mk H
  clear H
  go_enter Try.func148, Try.ntmps148
  go_wp2
  go_loopg [11] k (fun kq v11 w' => ∃ (x11_1 : Int), v11 = .int .i64 x11_1 ∧ Aside0 (impl_allWithin.l0 kq a1 a2 l0 (l0.length : Int) x11_1 = some r) ∧ Aside0 (kq ≤ k) ∧ Drawn0 w w')
  case atStart => exact ⟨(0), (by first | rfl | (simp; done) | (simp [*]; done)), H', ⟨Nat.le_refl _⟩, by repeat (first | exact Drawn0.refl _ | apply Drawn0.step)⟩
  case round =>
    clear H'
    try clear c1
    try clear p2
    obtain ⟨x11_1, rfl, HA, HK1, ⟨m1, rfl⟩⟩ := hrel
    cases gk with
    | zero => exact absurd HA.out (by simp [impl_allWithin.l0])
    | succ k1 =>
      have H := HA.out
      clear HA
      simp only [impl_allWithin.l0] at H
      by_cases c4 : x11_1 < (l0.length : Int)
      · rw [if_pos c4] at H
        have c4b0 : decide (x11_1 < (l0.length : Int)) = true := decide_eq_true c4
        clear c4
        by_cases c5 : 0 ≤ x11_1
        · rw [if_pos c5] at H
          have c5b0 : decide (0 ≤ x11_1) = true := decide_eq_true c5
          clear c5
          by_cases c6 : x11_1 < (l0.length : Int)
          · rw [if_pos c6] at H
            have c6b0 : decide (x11_1 < (l0.length : Int)) = true := decide_eq_true c6
            clear c6
            replace H := Option.bind_eq_some_iff.mp H
            obtain ⟨t939, A70, H⟩ := H
            replace H : (if t939 = true then (impl_allWithin.l0 k1 a1 a2 l0 (l0.length : Int) (wrap64 (x11_1 + 1))) else (some false)) = some r := H
            have A7 := Aside0.mk A70
            clear A70
            by_cases c8 : t939 = true
            · subst c8
              have H1 : (impl_allWithin.l0 k1 a1 a2 l0 (l0.length : Int) (wrap64 (x11_1 + 1))) = some r := by rw [if_pos rfl] at H; exact H
              clear H
              have H := H1
              clear H1
              have H' := Aside0.mk H
              clear H
              have p938 : 0 ≤ (x11_1 : Int) := of_decide_eq_true (by first | (with_reducible assumption) | assumption)
              have q938 : x11_1 < (l0.length : Int) := of_decide_eq_true (by first | (with_reducible assumption) | assumption)
              obtain ⟨ad938, e938, hx938_0⟩ := Kd.at_int HR0.out x11_1 p938 q938
              cases e938
              replace p938 := eq_true p938
              replace q938 := eq_true q938
              go_wp2_with (first | ((with_reducible refine gate_callee (f := 135) rfl ?_); refine goesL_ (some 18) rfl rfl Try.func135 (by kernel_rfl) rfl #[.int .i64 (rd l0 x11_1), .int .i64 a1, .int .i64 a2] rfl (by (try simp only [List.map_toArray, List.map_cons, List.map_nil]); first | done | rfl | (simp only [List.length_drop, List.length_take]; rfl)) ?_; (with_reducible refine (impl_within.calls (rd l0 x11_1) a1 a2 true _ A7.out).mono ?_); rintro e w' ⟨rfl, ⟨nd, rfl⟩⟩; refine ⟨_, rfl, ?_⟩))
              go_roundg k1
              case measure => have := HK1.out; omega
              case rel => exact ⟨(wrap64 (x11_1 + 1)), (by first | rfl | (simp; done) | (simp [*]; done)), H', ⟨by have := HK1.out; omega⟩, by repeat (first | exact Drawn0.refl _ | apply Drawn0.step)⟩
            · replace c8 := Bool.eq_false_iff.mpr c8
              subst c8
              have H1 : (some false) = some r := by rw [if_neg (show ¬ (false = true) by decide)] at H; exact H
              clear H
              have H := H1
              clear H1
              obtain rfl := Option.some.inj H
              have p938 : 0 ≤ (x11_1 : Int) := of_decide_eq_true (by first | (with_reducible assumption) | assumption)
              have q938 : x11_1 < (l0.length : Int) := of_decide_eq_true (by first | (with_reducible assumption) | assumption)
              obtain ⟨ad938, e938, hx938_0⟩ := Kd.at_int HR0.out x11_1 p938 q938
              cases e938
              replace p938 := eq_true p938
              replace q938 := eq_true q938
              go_wp2_with (first | ((with_reducible refine gate_callee (f := 135) rfl ?_); refine goesL_ (some 18) rfl rfl Try.func135 (by kernel_rfl) rfl #[.int .i64 (rd l0 x11_1), .int .i64 a1, .int .i64 a2] rfl (by (try simp only [List.map_toArray, List.map_cons, List.map_nil]); first | done | rfl | (simp only [List.length_drop, List.length_take]; rfl)) ?_; (with_reducible refine (impl_within.calls (rd l0 x11_1) a1 a2 false _ A7.out).mono ?_); rintro e w' ⟨rfl, ⟨nd, rfl⟩⟩; refine ⟨_, rfl, ?_⟩))
              go_ret
              exact ⟨by first | rfl | (simp; done) | (simp [*]; done), by repeat (first | exact Drawn0.refl _ | apply Drawn0.step)⟩
          · rw [if_neg c6] at H
            exact absurd H (by simp)
        · rw [if_neg c5] at H
          exact absurd H (by simp)
      · rw [if_neg c4] at H
        have c4b0 : decide (x11_1 < (l0.length : Int)) = false := decide_eq_false c4
        clear c4
        obtain rfl := Option.some.inj H
        go_wp2
        go_ret
        exact ⟨by first | rfl | (simp; done) | (simp [*]; done), by repeat (first | exact Drawn0.refl _ | apply Drawn0.step)⟩

end Go.Proofs.Ytoomjghabiojkaa.P


namespace Go.Proofs.Ytoomjghabiojkaa.P
open Go.RowKit Go.Proofs.YtoomjghabiojkaaW.PrintWords Go.Proofs.YtoomjghabiojkaaW.PrintLast Go.Proofs.YtoomjghabiojkaaW.PrintMore
attribute [local go_sem] max2_int min2_int max_two min_two max_three min_three max_four min_four   -- for this text's walks alone
set_option linter.unusedVariables false
set_option linter.unusedSimpArgs false

def cmp_isNaN_int.f (a0 : Int) : Option (Bool) := some (a0 != a0)
set_option maxHeartbeats 8000000 in
set_option maxRecDepth 100000 in
theorem cmp_isNaN_int.calls (a0 : Int) (r : Bool) (w : World) (h : cmp_isNaN_int.f a0 = some r) :
    Calls Try.prog 162 #[.int .i64 a0] w fun e w' => e = .returned (.bool r) ∧ Drawn0 w w' := by
  have H : (some (a0 != a0)) = some r := h
  clear h
  obtain rfl := Option.some.inj H
  go_enter Try.func162, Try.ntmps162
  go_wp2
  go_ret
  exact ⟨by first | rfl | (simp; done) | (simp [*]; done), by repeat (first | exact Drawn0.refl _ | apply Drawn0.step)⟩

end Go.Proofs.Ytoomjghabiojkaa.P


namespace Go.Proofs.Ytoomjghabiojkaa.P
open Go.RowKit Go.Proofs.YtoomjghabiojkaaW.PrintWords Go.Proofs.YtoomjghabiojkaaW.PrintLast Go.Proofs.YtoomjghabiojkaaW.PrintMore
attribute [local go_sem] max2_int min2_int max_two min_two max_three min_three max_four min_four   -- for this text's walks alone
set_option linter.unusedVariables false
set_option linter.unusedSimpArgs false

def cmp_Less_int.f (a0 : Int) (a1 : Int) : Option (Bool) := (cmp_isNaN_int.f a0).bind fun t940 => (if t940 = true then ((cmp_isNaN_int.f a1).bind fun t941 => (if t941 = true then (some (decide (a0 < a1))) else (some true))) else (some (decide (a0 < a1))))
set_option maxHeartbeats 8000000 in
set_option maxRecDepth 100000 in
theorem cmp_Less_int.calls (a0 : Int) (a1 : Int) (r : Bool) (w : World) (h : cmp_Less_int.f a0 a1 = some r) :
    Calls Try.prog 158 #[.int .i64 a0, .int .i64 a1] w fun e w' => e = .returned (.bool r) ∧ Drawn0 w w' := by
  have H : ((cmp_isNaN_int.f a0).bind fun t940 => (if t940 = true then ((cmp_isNaN_int.f a1).bind fun t941 => (if t941 = true then (some (decide (a0 < a1))) else (some true))) else (some (decide (a0 < a1))))) = some r := h
  clear h
  replace H := Option.bind_eq_some_iff.mp H
  obtain ⟨t940, A30, H⟩ := H
  replace H : (if t940 = true then ((cmp_isNaN_int.f a1).bind fun t941 => (if t941 = true then (some (decide (a0 < a1))) else (some true))) else (some (decide (a0 < a1)))) = some r := H
  have A3 := Aside0.mk A30
  clear A30
  by_cases c4 : t940 = true
  · subst c4
    have H1 : ((cmp_isNaN_int.f a1).bind fun t941 => (if t941 = true then (some (decide (a0 < a1))) else (some true))) = some r := by rw [if_pos rfl] at H; exact H
    clear H
    have H := H1
    clear H1
    replace H := Option.bind_eq_some_iff.mp H
    obtain ⟨t941, A50, H⟩ := H
    replace H : (if t941 = true then (some (decide (a0 < a1))) else (some true)) = some r := H
    have A5 := Aside0.mk A50
    clear A50
    by_cases c6 : t941 = true
    · subst c6
      have H1 : (some (decide (a0 < a1))) = some r := by rw [if_pos rfl] at H; exact H
      clear H
      have H := H1
      clear H1
      obtain rfl := Option.some.inj H
      go_enter Try.func158, Try.ntmps158
      go_wp2_with (first | ((with_reducible refine gate_callee (f := 162) rfl ?_); refine goesL_ (some 6) rfl rfl Try.func162 (by kernel_rfl) rfl #[.int .i64 a0] rfl (by (try simp only [List.map_toArray, List.map_cons, List.map_nil]); first | done | rfl | (simp only [List.length_drop, List.length_take]; rfl)) ?_; (with_reducible refine (cmp_isNaN_int.calls a0 true _ A3.out).mono ?_); rintro e w' ⟨rfl, ⟨nd, rfl⟩⟩; refine ⟨_, rfl, ?_⟩) | (go_at_call 162; (with_reducible refine (cmp_isNaN_int.calls a1 true _ A5.out).mono ?_); rintro e w' ⟨rfl, ⟨nd, rfl⟩⟩))
      go_ret
      exact ⟨by first | rfl | (simp; done) | (simp [*]; done), by repeat (first | exact Drawn0.refl _ | apply Drawn0.step)⟩
    · replace c6 := Bool.eq_false_iff.mpr c6
      subst c6
      have H1 : (some true) = some r := by rw [if_neg (show ¬ (false = true) by decide)] at H; exact H
      clear H
      have H := H1
      clear H1
      obtain rfl := Option.some.inj H
      go_enter Try.func158, Try.ntmps158
      go_wp2_with (first | ((with_reducible refine gate_callee (f := 162) rfl ?_); refine goesL_ (some 6) rfl rfl Try.func162 (by kernel_rfl) rfl #[.int .i64 a0] rfl (by (try simp only [List.map_toArray, List.map_cons, List.map_nil]); first | done | rfl | (simp only [List.length_drop, List.length_take]; rfl)) ?_; (with_reducible refine (cmp_isNaN_int.calls a0 true _ A3.out).mono ?_); rintro e w' ⟨rfl, ⟨nd, rfl⟩⟩; refine ⟨_, rfl, ?_⟩) | (go_at_call 162; (with_reducible refine (cmp_isNaN_int.calls a1 false _ A5.out).mono ?_); rintro e w' ⟨rfl, ⟨nd, rfl⟩⟩))
      go_ret
      exact ⟨by first | rfl | (simp; done) | (simp [*]; done), by repeat (first | exact Drawn0.refl _ | apply Drawn0.step)⟩
  · replace c4 := Bool.eq_false_iff.mpr c4
    subst c4
    have H1 : (some (decide (a0 < a1))) = some r := by rw [if_neg (show ¬ (false = true) by decide)] at H; exact H
    clear H
    have H := H1
    clear H1
    obtain rfl := Option.some.inj H
    go_enter Try.func158, Try.ntmps158
    go_wp2_with (first | ((with_reducible refine gate_callee (f := 162) rfl ?_); refine goesL_ (some 6) rfl rfl Try.func162 (by kernel_rfl) rfl #[.int .i64 a0] rfl (by (try simp only [List.map_toArray, List.map_cons, List.map_nil]); first | done | rfl | (simp only [List.length_drop, List.length_take]; rfl)) ?_; (with_reducible refine (cmp_isNaN_int.calls a0 false _ A3.out).mono ?_); rintro e w' ⟨rfl, ⟨nd, rfl⟩⟩; refine ⟨_, rfl, ?_⟩))
    go_ret
    exact ⟨by first | rfl | (simp; done) | (simp [*]; done), by repeat (first | exact Drawn0.refl _ | apply Drawn0.step)⟩

end Go.Proofs.Ytoomjghabiojkaa.P


namespace Go.Proofs.Ytoomjghabiojkaa.P
open Go.RowKit Go.Proofs.YtoomjghabiojkaaW.PrintWords Go.Proofs.YtoomjghabiojkaaW.PrintLast Go.Proofs.YtoomjghabiojkaaW.PrintMore
attribute [local go_sem] max2_int min2_int max_two min_two max_three min_three max_four min_four   -- for this text's walks alone
set_option linter.unusedVariables false
set_option linter.unusedSimpArgs false

def slices_IsSorted_int_int.l0 : Nat → List Int → Int → Option (Bool)
  | 0, _, _ => none
  | k + 1, x0, x3 => if x3 > 0 then (if 0 ≤ x3 then (if x3 < (x0.length : Int) then (if 0 ≤ (wrap64 (x3 - 1)) then (if (wrap64 (x3 - 1)) < (x0.length : Int) then ((cmp_Less_int.f (rd x0 x3) (rd x0 (wrap64 (x3 - 1)))).bind fun t944 => (if t944 = true then (some false) else (slices_IsSorted_int_int.l0 k x0 (wrap64 (x3 - 1))))) else (none)) else (none)) else (none)) else (none)) else (some true)
def slices_IsSorted_int_int.f (k : Nat) (l0 : List Int) : Option (Bool) := slices_IsSorted_int_int.l0 k l0 (wrap64 ((l0.length : Int) - 1))
set_option maxHeartbeats 8000000 in
set_option maxRecDepth 100000 in
theorem slices_IsSorted_int_int.calls (k : Nat) (A0 : Option Addr) (c0 : Nat) (l0 : List Int) (r : Bool) (w : World) (hr0 : Kd.C (Kd.int .i64) w A0 l0.length l0) (hc0 : l0.length ≤ c0) (h : slices_IsSorted_int_int.f k l0 = some r) :
    Calls Try.prog 149 #[.slice A0 l0.length c0] w fun e w' => e = .returned (.bool r) ∧ Drawn0 w w' := by
  have HR0 := Aside0.mk hr0
  have HC0 := Aside0.mk hc0
  clear hr0 hc0
  have H : (slices_IsSorted_int_int.l0 k l0 (wrap64 ((l0.length : Int) - 1))) = some r := h
  clear h
  have H' := Aside0.mk H
  clear H
  go_enter Try.func149, Try.ntmps149
  go_wp2
  repeat (go_quiet (fail); try go_wp2)
  go_loopg [3] k (fun kq v3 w' => ∃ (x3_1 : Int), v3 = .int .i64 x3_1 ∧ Aside0 (slices_IsSorted_int_int.l0 kq l0 x3_1 = some r) ∧ Aside0 (kq ≤ k) ∧ Drawn0 w w')
  case atStart => exact ⟨(wrap64 ((l0.length : Int) - 1)), (by first | rfl | (simp; done) | (simp [*]; done)), H', ⟨Nat.le_refl _⟩, by repeat (first | exact Drawn0.refl _ | apply Drawn0.step)⟩
  case round =>
    clear H'
    try clear c1
    obtain ⟨x3_1, rfl, HA, HK1, ⟨m1, rfl⟩⟩ := hrel
    cases gk with
    | zero => exact absurd HA.out (by simp [slices_IsSorted_int_int.l0])
    | succ k1 =>
      have H := HA.out
      clear HA
      simp only [slices_IsSorted_int_int.l0] at H
      by_cases c2 : x3_1 > 0
      · rw [if_pos c2] at H
        have c2b0 : decide (0 < x3_1) = true := decide_eq_true c2
        clear c2
        by_cases c3 : 0 ≤ x3_1
        · rw [if_pos c3] at H
          have c3b0 : decide (0 ≤ x3_1) = true := decide_eq_true c3
          clear c3
          by_cases c4 : x3_1 < (l0.length : Int)
          · rw [if_pos c4] at H
            have c4b0 : decide (x3_1 < (l0.length : Int)) = true := decide_eq_true c4
            clear c4
            obtain ⟨ji5, hji5⟩ : ∃ j_ : Int, (wrap64 (x3_1 - 1)) = j_ := ⟨_, rfl⟩
            replace H : (if 0 ≤ (ji5) then (if (ji5) < (l0.length : Int) then ((cmp_Less_int.f (rd l0 x3_1) (rd l0 (ji5))).bind fun t944 => (if t944 = true then (some false) else (slices_IsSorted_int_int.l0 k1 l0 ji5))) else (none)) else (none)) = some r := by first | (rw [hji5] at H; exact H) | (simp only [hji5] at H ⊢; exact H)
            have hji5w : (IntKind.i64.wrap (x3_1 - 1)) = ji5 := (i64_w _).trans hji5
            by_cases c6 : 0 ≤ (ji5)
            · rw [if_pos c6] at H
              have c6b0 : decide (0 ≤ (ji5)) = true := decide_eq_true c6
              clear c6
              by_cases c7 : (ji5) < (l0.length : Int)
              · rw [if_pos c7] at H
                have c7b0 : decide ((ji5) < (l0.length : Int)) = true := decide_eq_true c7
                clear c7
                replace H := Option.bind_eq_some_iff.mp H
                obtain ⟨t944, A80, H⟩ := H
                replace H : (if t944 = true then (some false) else (slices_IsSorted_int_int.l0 k1 l0 ji5)) = some r := H
                have A8 := Aside0.mk A80
                clear A80
                by_cases c9 : t944 = true
                · subst c9
                  have H1 : (some false) = some r := by rw [if_pos rfl] at H; exact H
                  clear H
                  have H := H1
                  clear H1
                  obtain rfl := Option.some.inj H
                  have p942 : 0 ≤ (x3_1 : Int) := of_decide_eq_true (by first | (with_reducible assumption) | assumption)
                  have q942 : x3_1 < (l0.length : Int) := of_decide_eq_true (by first | (with_reducible assumption) | assumption)
                  obtain ⟨ad942, e942, hx942_0⟩ := Kd.at_int HR0.out x3_1 p942 q942
                  cases e942
                  replace p942 := eq_true p942
                  replace q942 := eq_true q942
                  have p943 : 0 ≤ ((ji5) : Int) := of_decide_eq_true (by first | (with_reducible assumption) | assumption)
                  have q943 : (ji5) < (l0.length : Int) := of_decide_eq_true (by first | (with_reducible assumption) | assumption)
                  obtain ⟨ad943, e943, hx943_0⟩ := Kd.at_int HR0.out (ji5) p943 q943
                  obtain rfl : ad942 = ad943 := (by injection e943)
                  replace p943 := eq_true p943
                  replace q943 := eq_true q943
                  go_wp2_with (first | (go_at_call 158; (with_reducible refine (cmp_Less_int.calls (rd l0 x3_1) (rd l0 (ji5)) true _ A8.out).mono ?_); rintro e w' ⟨rfl, ⟨nd, rfl⟩⟩; (try first | exact ⟨rfl, _, World.drewN_drewN _ _ _⟩ | exact ⟨rfl, _, Eq.trans (World.drewN_drewN _ _ _) (congrArg (World.drewN _) (Nat.add_assoc _ _ _))⟩)))
                  repeat (go_quiet (first | (go_at_call 158; (with_reducible refine (cmp_Less_int.calls (rd l0 x3_1) (rd l0 (ji5)) true _ A8.out).mono ?_); rintro e w' ⟨rfl, ⟨nd, rfl⟩⟩; (try first | exact ⟨rfl, _, World.drewN_drewN _ _ _⟩ | exact ⟨rfl, _, Eq.trans (World.drewN_drewN _ _ _) (congrArg (World.drewN _) (Nat.add_assoc _ _ _))⟩))); try go_wp2_with (first | (go_at_call 158; (with_reducible refine (cmp_Less_int.calls (rd l0 x3_1) (rd l0 (ji5)) true _ A8.out).mono ?_); rintro e w' ⟨rfl, ⟨nd, rfl⟩⟩; (try first | exact ⟨rfl, _, World.drewN_drewN _ _ _⟩ | exact ⟨rfl, _, Eq.trans (World.drewN_drewN _ _ _) (congrArg (World.drewN _) (Nat.add_assoc _ _ _))⟩))))
                  go_ret
                  exact ⟨by first | rfl | (simp; done) | (simp only [← hji5] <;> (first | rfl | simp)) | (simp [*]; done), by repeat (first | exact Drawn0.refl _ | apply Drawn0.step)⟩
                · replace c9 := Bool.eq_false_iff.mpr c9
                  subst c9
                  have H1 : (slices_IsSorted_int_int.l0 k1 l0 ji5) = some r := by rw [if_neg (show ¬ (false = true) by decide)] at H; exact H
                  clear H
                  have H := H1
                  clear H1
                  have H' := Aside0.mk H
                  clear H
                  have p942 : 0 ≤ (x3_1 : Int) := of_decide_eq_true (by first | (with_reducible assumption) | assumption)
                  have q942 : x3_1 < (l0.length : Int) := of_decide_eq_true (by first | (with_reducible assumption) | assumption)
                  obtain ⟨ad942, e942, hx942_0⟩ := Kd.at_int HR0.out x3_1 p942 q942
                  cases e942
                  replace p942 := eq_true p942
                  replace q942 := eq_true q942
                  have p943 : 0 ≤ ((ji5) : Int) := of_decide_eq_true (by first | (with_reducible assumption) | assumption)
                  have q943 : (ji5) < (l0.length : Int) := of_decide_eq_true (by first | (with_reducible assumption) | assumption)
                  obtain ⟨ad943, e943, hx943_0⟩ := Kd.at_int HR0.out (ji5) p943 q943
                  obtain rfl : ad942 = ad943 := (by injection e943)
                  replace p943 := eq_true p943
                  replace q943 := eq_true q943
                  go_wp2_with (first | (go_at_call 158; (with_reducible refine (cmp_Less_int.calls (rd l0 x3_1) (rd l0 (ji5)) false _ A8.out).mono ?_); rintro e w' ⟨rfl, ⟨nd, rfl⟩⟩; (try first | exact ⟨rfl, _, World.drewN_drewN _ _ _⟩ | exact ⟨rfl, _, Eq.trans (World.drewN_drewN _ _ _) (congrArg (World.drewN _) (Nat.add_assoc _ _ _))⟩)))
                  repeat (go_quiet (first | (go_at_call 158; (with_reducible refine (cmp_Less_int.calls (rd l0 x3_1) (rd l0 (ji5)) false _ A8.out).mono ?_); rintro e w' ⟨rfl, ⟨nd, rfl⟩⟩; (try first | exact ⟨rfl, _, World.drewN_drewN _ _ _⟩ | exact ⟨rfl, _, Eq.trans (World.drewN_drewN _ _ _) (congrArg (World.drewN _) (Nat.add_assoc _ _ _))⟩))); try go_wp2_with (first | (go_at_call 158; (with_reducible refine (cmp_Less_int.calls (rd l0 x3_1) (rd l0 (ji5)) false _ A8.out).mono ?_); rintro e w' ⟨rfl, ⟨nd, rfl⟩⟩; (try first | exact ⟨rfl, _, World.drewN_drewN _ _ _⟩ | exact ⟨rfl, _, Eq.trans (World.drewN_drewN _ _ _) (congrArg (World.drewN _) (Nat.add_assoc _ _ _))⟩))))
                  go_roundg k1
                  case measure => have := HK1.out; omega
                  case rel => exact ⟨(ji5), (by first | rfl | (simp; done) | (simp only [← hji5] <;> (first | rfl | simp)) | (simp [*]; done)), H', ⟨by have := HK1.out; omega⟩, by repeat (first | exact Drawn0.refl _ | apply Drawn0.step)⟩
              · rw [if_neg c7] at H
                exact absurd H (by simp)
            · rw [if_neg c6] at H
              exact absurd H (by simp)
          · rw [if_neg c4] at H
            exact absurd H (by simp)
        · rw [if_neg c3] at H
          exact absurd H (by simp)
      · rw [if_neg c2] at H
        have c2b0 : decide (0 < x3_1) = false := decide_eq_false c2
        clear c2
        obtain rfl := Option.some.inj H
        go_wp2
        repeat (go_quiet (fail); try go_wp2)
        go_ret
        exact ⟨by first | rfl | (simp; done) | (simp [*]; done), by repeat (first | exact Drawn0.refl _ | apply Drawn0.step)⟩

end Go.Proofs.Ytoomjghabiojkaa.P


namespace Go.Proofs.Ytoomjghabiojkaa.P
open Go.RowKit Go.Proofs.YtoomjghabiojkaaW.PrintWords Go.Proofs.YtoomjghabiojkaaW.PrintLast Go.Proofs.YtoomjghabiojkaaW.PrintMore
attribute [local go_sem] max2_int min2_int max_two min_two max_three min_three max_four min_four   -- for this text's walks alone
set_option linter.unusedVariables false
set_option linter.unusedSimpArgs false

def impl_IsArena.j0 : Nat → Bool → List (List Int) → Int → Int → Int → Int → Int → List Int → Option (Bool)
  | 0, _, _, _, _, _, _, _, _ => none
  | k + 1, x24, x946000, x946001, x946002, x946003, x946004, x946005, x946006 => if x24 = true then (some false) else ((impl_allWithin.f k x946006 0 x946005).bind fun t951 => (if t951 = true then ((slices_IsSorted_int_int.f k x946006).bind fun t952 => (some t952)) else (some false)))
def impl_IsArena.f (k : Nat) (l0_0 : List (List Int)) (a0_1 : Int) (a0_2 : Int) (a0_3 : Int) (a0_4 : Int) (a0_5 : Int) (l0_6 : List Int) : Option (Bool) := (impl_areOn.f l0_0 (([(⟨a0_1, a0_2, a0_3, a0_4⟩ : SimplWindow)] : List (SimplWindow)))).bind fun t949 => (if t949 = true then ((impl_within.f a0_5 0 a0_3).bind fun t950 => (if t950 = true then (impl_IsArena.j0 k (decide ((l0_6.length : Int) > 8)) l0_0 a0_1 a0_2 a0_3 a0_4 a0_5 l0_6) else (impl_IsArena.j0 k true l0_0 a0_1 a0_2 a0_3 a0_4 a0_5 l0_6))) else (impl_IsArena.j0 k true l0_0 a0_1 a0_2 a0_3 a0_4 a0_5 l0_6))
set_option maxHeartbeats 8000000 in
set_option maxRecDepth 100000 in
theorem impl_IsArena.calls (k : Nat) (A0_0 : Option Addr) (c0_0 : Nat) (l0_0 : List (List Int)) (a0_1 : Int) (a0_2 : Int) (a0_3 : Int) (a0_4 : Int) (a0_5 : Int) (A0_6 : Option Addr) (c0_6 : Nat) (l0_6 : List Int) (r : Bool) (w : World) (hr0_0 : Kd.C (Kd.slice 5 (Kd.int .u8)) w A0_0 l0_0.length l0_0) (hc0_0 : l0_0.length ≤ c0_0) (hr0_6 : Kd.C (Kd.int .i64) w A0_6 l0_6.length l0_6) (hc0_6 : l0_6.length ≤ c0_6) (h : impl_IsArena.f k l0_0 a0_1 a0_2 a0_3 a0_4 a0_5 l0_6 = some r) :
    Calls Try.prog 120 #[.agg #[.slice A0_0 l0_0.length c0_0, .int .i64 a0_1, .int .i64 a0_2, .int .i64 a0_3, .int .i64 a0_4, .int .i64 a0_5, .slice A0_6 l0_6.length c0_6]] w fun e w' => e = .returned (.bool r) ∧ Below w.heap.size w w' := by
  have hu51 := Try.underlying51
  have hu26 := Try.underlying26
  have hu48 := Try.underlying48
  have HR0_0 := Aside0.mk hr0_0
  have HC0_0 := Aside0.mk hc0_0
  clear hr0_0 hc0_0
  have HR0_6 := Aside0.mk hr0_6
  have HC0_6 := Aside0.mk hc0_6
  clear hr0_6 hc0_6
  have HB := Aside0.mk (Below.refl w.heap.size w)
  have H : ((impl_areOn.f l0_0 (([(⟨a0_1, a0_2, a0_3, a0_4⟩ : SimplWindow)] : List (SimplWindow)))).bind fun t949 => (if t949 = true then ((impl_within.f a0_5 0 a0_3).bind fun t950 => (if t950 = true then (impl_IsArena.j0 k (decide ((l0_6.length : Int) > 8)) l0_0 a0_1 a0_2 a0_3 a0_4 a0_5 l0_6) else (impl_IsArena.j0 k true l0_0 a0_1 a0_2 a0_3 a0_4 a0_5 l0_6))) else (impl_IsArena.j0 k true l0_0 a0_1 a0_2 a0_3 a0_4 a0_5 l0_6))) = some r := h
  clear h
  have HC2 := Aside0.mk H
  clear H
  go_enter Try.func120, Try.ntmps120
  go_upto_region 1 with (first | ((with_reducible refine gate_dst (N := 1) rfl ?_); (try (refine gate_guard (by rfl) ?_; dsimp only)); refine box_event ?hg (N := 1) ?hd (cs := #[.slice A0_0 l0_0.length c0_0, .int .i64 a0_1, .int .i64 a0_2, .int .i64 a0_3, .int .i64 a0_4, .int .i64 a0_5, .slice A0_6 l0_6.length c0_6]) (t := 51) ?hr ?_; (case hd => rfl); (case hg => rfl); (case hr => first | (go_simp; done) | (go_simp; rfl)); intro gb945 hg w3 hbox hb; have n0_ := Aside0.mk (below_step (by repeat (first | (with_reducible first | exact HB.out | apply below_alloc | apply pw_below_drewN | apply below_drew1) | exact HB.out)) hb); have n1_ := Aside0.mk (hbox); have n2_ := Aside0.mk ((by rw [hg]; exact (below_size (by repeat (first | (with_reducible first | exact HB.out | apply below_alloc | apply pw_below_drewN | apply below_drew1) | exact HB.out))) : w.heap.size ≤ gb945)); have n3_ := Aside0.mk ((by rw [hg]; exact (below_size (by repeat (first | (with_reducible first | exact HB.out | apply below_alloc | apply pw_below_drewN | apply below_drew1) | exact HB.out))) : w.heap.size ≤ gb945)); clear HB; have HB := n0_; have BK945 := n1_; have GW945 := n2_; have GE945 := n3_; clear n0_ n1_ n2_ n3_; clear hb hbox hg))
  (try simp only [Act.put, List.setIfInBounds_toArray, List.set_cons_zero, List.set_cons_succ])
  go_cut [24] (fun v24 wc => ∃ (kq : Nat) (x24_1 : Bool), v24 = .bool x24_1 ∧ Aside0 (impl_IsArena.j0 kq x24_1 l0_0 a0_1 a0_2 a0_3 a0_4 a0_5 l0_6 = some r) ∧ Aside0 (kq ≤ k) ∧ Aside0 (wc.heap[gb945]? = some (.cells #[(.slice A0_0 l0_0.length c0_0), .int .i64 a0_1, .int .i64 a0_2, .int .i64 a0_3, .int .i64 a0_4, .int .i64 a0_5, (.slice A0_6 l0_6.length c0_6)] 51 (0, 0))) ∧ Aside0 (Below w.heap.size w wc))
  case first =>
    have H := HC2.out
    clear HC2
    obtain ⟨y946, hy946⟩ : ∃ y_ : List (SimplWindow), y_ = (([(⟨a0_1, a0_2, a0_3, a0_4⟩ : SimplWindow)] : List (SimplWindow))) := ⟨_, rfl⟩
    replace H : ((impl_areOn.f l0_0 y946).bind fun t949 => (if t949 = true then ((impl_within.f a0_5 0 a0_3).bind fun t950 => (if t950 = true then (impl_IsArena.j0 k (decide ((l0_6.length : Int) > 8)) l0_0 a0_1 a0_2 a0_3 a0_4 a0_5 l0_6) else (impl_IsArena.j0 k true l0_0 a0_1 a0_2 a0_3 a0_4 a0_5 l0_6))) else (impl_IsArena.j0 k true l0_0 a0_1 a0_2 a0_3 a0_4 a0_5 l0_6))) = some r := by first | (rw [hy946]; with_reducible exact H) | (have H2_ := (Option.bind_some _ _).symm.trans H; rw [hy946]; with_reducible exact H2_) | (have H2_ := (Option.bind_some _ _).symm.trans H; with_reducible exact H2_) | with_reducible exact H | (rw [hy946]; exact H) | exact H
    have Ny946 := Aside0.mk hy946
    clear hy946
    replace H := Option.bind_eq_some_iff.mp H
    obtain ⟨t949, A40, H⟩ := H
    replace H : (if t949 = true then ((impl_within.f a0_5 0 a0_3).bind fun t950 => (if t950 = true then (impl_IsArena.j0 k (decide ((l0_6.length : Int) > 8)) l0_0 a0_1 a0_2 a0_3 a0_4 a0_5 l0_6) else (impl_IsArena.j0 k true l0_0 a0_1 a0_2 a0_3 a0_4 a0_5 l0_6))) else (impl_IsArena.j0 k true l0_0 a0_1 a0_2 a0_3 a0_4 a0_5 l0_6)) = some r := H
    have A4 := Aside0.mk A40
    clear A40
    by_cases c5 : t949 = true
    · subst c5
      have H1 : ((impl_within.f a0_5 0 a0_3).bind fun t950 => (if t950 = true then (impl_IsArena.j0 k (decide ((l0_6.length : Int) > 8)) l0_0 a0_1 a0_2 a0_3 a0_4 a0_5 l0_6) else (impl_IsArena.j0 k true l0_0 a0_1 a0_2 a0_3 a0_4 a0_5 l0_6))) = some r := by rw [if_pos rfl] at H; exact H
      clear H
      have H := H1
      clear H1
      replace H := Option.bind_eq_some_iff.mp H
      obtain ⟨t950, A60, H⟩ := H
      replace H : (if t950 = true then (impl_IsArena.j0 k (decide ((l0_6.length : Int) > 8)) l0_0 a0_1 a0_2 a0_3 a0_4 a0_5 l0_6) else (impl_IsArena.j0 k true l0_0 a0_1 a0_2 a0_3 a0_4 a0_5 l0_6)) = some r := H
      have A6 := Aside0.mk A60
      clear A60
      by_cases c7 : t950 = true
      · subst c7
        have H1 : (impl_IsArena.j0 k (decide ((l0_6.length : Int) > 8)) l0_0 a0_1 a0_2 a0_3 a0_4 a0_5 l0_6) = some r := by rw [if_pos rfl] at H; exact H
        clear H
        have H := H1
        clear H1
        have H' := Aside0.mk H
        clear H
        have hcz8_0 : w3.cell? ⟨gb945, 0, none⟩ = some (.slice A0_0 l0_0.length c0_0) := (blk_cell BK945.out 0).trans rfl
        have hcz8_1 : w3.cell? ⟨gb945, 1, none⟩ = some (.int .i64 a0_1) := (blk_cell BK945.out 1).trans rfl
        have hcz8_2 : w3.cell? ⟨gb945, 2, none⟩ = some (.int .i64 a0_2) := (blk_cell BK945.out 2).trans rfl
        have hcz8_3 : w3.cell? ⟨gb945, 3, none⟩ = some (.int .i64 a0_3) := (blk_cell BK945.out 3).trans rfl
        have hcz8_4 : w3.cell? ⟨gb945, 4, none⟩ = some (.int .i64 a0_4) := (blk_cell BK945.out 4).trans rfl
        have hcz8_5 : w3.cell? ⟨gb945, 5, none⟩ = some (.int .i64 a0_5) := (blk_cell BK945.out 5).trans rfl
        have hcz8_6 : w3.cell? ⟨gb945, 6, none⟩ = some (.slice A0_6 l0_6.length c0_6) := (blk_cell BK945.out 6).trans rfl
        have hfz8_0 := blk_frozen BK945.out 0
        have hfz8_1 := blk_frozen BK945.out 1
        have hfz8_2 := blk_frozen BK945.out 2
        have hfz8_3 := blk_frozen BK945.out 3
        have hfz8_4 := blk_frozen BK945.out 4
        have hfz8_5 := blk_frozen BK945.out 5
        have hfz8_6 := blk_frozen BK945.out 6
        go_wp2_with (first | ((with_reducible refine gate_dst (N := 7) rfl ?_); (try (refine gate_guard (by rfl) ?_; dsimp only)); refine Kd.R_lit kimplWindow _ 48 ?hg (N := 7) ?hd (xs := ([(⟨a0_1, a0_2, a0_3, a0_4⟩ : SimplWindow)] : List (SimplWindow))) (inner := [.int .i64 a0_1, .int .i64 a0_2, .int .i64 a0_3, .int .i64 a0_4]) (ok := fun _ => True) (okp := fun _ => True) ?hr ?hp (fun _ hk => hk) trivial (Below.refl _ _) (Nat.le_refl _) (by simp) ?_; (case hd => rfl); (case hg => rfl); (case hr => first | (go_simp; done) | (go_simp; rfl)); (case hp => exact (Reps.c4 (show Kd.M kimplWindow _ _ _ (⟨a0_1, a0_2, a0_3, a0_4⟩ : SimplWindow) [.int .i64 a0_1, .int .i64 a0_2, .int .i64 a0_3, .int .i64 a0_4] from (kimplWindow_mkM _ _ _ (⟨a0_1, a0_2, a0_3, a0_4⟩ : SimplWindow) )) (Reps.none _ _))); intro v947 w9 ho10 hb hg_ hnew_; clear hg_ hnew_; (first | rw [← Ny946.out] at ho10 | (simp only [Int.reduceToNat] at ho10; rw [← Ny946.out] at ho10)); have n0_ := Aside0.mk (Kd.R_lower ho10 (below_size (by repeat (first | (with_reducible first | exact HB.out | apply below_alloc | apply pw_below_drewN | apply below_drew1 | refine below_set ?_ GE945.out) | exact HB.out)))); have n1_ := Aside0.mk (blk_below (g := gb945) (o := .cells #[.slice A0_0 l0_0.length c0_0, .int .i64 a0_1, .int .i64 a0_2, .int .i64 a0_3, .int .i64 a0_4, .int .i64 a0_5, .slice A0_6 l0_6.length c0_6] 51 (0, 0)) (by (with_reducible repeat (first | refine blk_drewN ?_ _ | refine blk_drew ?_ | refine blk_alloc ?_ _)); exact BK945.out) hb); have n2_ := Aside0.mk (below_step (by repeat (first | (with_reducible first | exact HB.out | apply below_alloc | apply pw_below_drewN | apply below_drew1 | refine below_set ?_ GE945.out) | exact HB.out)) hb); clear BK945; clear HB; have HO948 := n0_; have BK945 := n1_; have HB := n2_; clear n0_ n1_ n2_; clear hb ho10; obtain ⟨Ao11, co11, eo11⟩ := Kd.R_slice HO948.out; subst eo11) | ((with_reducible refine gate_callee (f := 90) rfl ?_); refine goesL_ (some 8) rfl rfl Try.func90 (by kernel_rfl) rfl #[.agg #[.slice A0_0 l0_0.length c0_0], .slice Ao11 y946.length co11] rfl (by (try simp only [List.map_toArray, List.map_cons, List.map_nil]); first | done | rfl | (simp only [List.length_drop, List.length_take]; rfl)) ?_; (with_reducible refine (impl_areOn.calls _ _ l0_0 _ _ y946 true _ ?side1 ?side2 ?side3 ?side4 A4.out).mono ?_); (case side1 => repeat (first | exact (Kd.C_below HR0_0.out HB.out) | (with_reducible refine Kd.C_alloc ?_ _) | (with_reducible refine Kd.C_drewN ?_ _) | (with_reducible refine Kd.C_drew ?_))); (case side2 => exact HC0_0.out); (case side3 => repeat (first | exact (Kd.R_reads' HO948.out).2.2 | (with_reducible refine Kd.C_alloc ?_ _) | (with_reducible refine Kd.C_drewN ?_ _) | (with_reducible refine Kd.C_drew ?_))); (case side4 => exact (Kd.R_reads' HO948.out).2.1); rintro e w12 ⟨rfl, hb⟩; refine ⟨_, rfl, ?_⟩; have n0_ := Aside0.mk (Kd.R_below (by (with_reducible repeat (first | apply Kd.R_alloc | apply Kd.R_drewN | apply Kd.R_drew)); exact HO948.out) hb); have n1_ := Aside0.mk (blk_below (g := gb945) (o := .cells #[.slice A0_0 l0_0.length c0_0, .int .i64 a0_1, .int .i64 a0_2, .int .i64 a0_3, .int .i64 a0_4, .int .i64 a0_5, .slice A0_6 l0_6.length c0_6] 51 (0, 0)) (by (with_reducible repeat (first | refine blk_drewN ?_ _ | refine blk_drew ?_ | refine blk_alloc ?_ _)); exact BK945.out) hb); have n2_ := Aside0.mk (below_step (by repeat (first | (with_reducible first | exact HB.out | apply below_alloc | apply pw_below_drewN | apply below_drew1 | refine below_set ?_ GE945.out) | exact HB.out)) hb); clear HO948; clear BK945; clear HB; have HO948 := n0_; have BK945 := n1_; have HB := n2_; clear n0_ n1_ n2_; (try clear hb); (try clear hb2); (try clear hk); (try clear hi); have hcz13_0 : w12.cell? ⟨gb945, 0, none⟩ = some (.slice A0_0 l0_0.length c0_0) := (blk_cell BK945.out 0).trans rfl; have hcz13_1 : w12.cell? ⟨gb945, 1, none⟩ = some (.int .i64 a0_1) := (blk_cell BK945.out 1).trans rfl; have hcz13_2 : w12.cell? ⟨gb945, 2, none⟩ = some (.int .i64 a0_2) := (blk_cell BK945.out 2).trans rfl; have hcz13_3 : w12.cell? ⟨gb945, 3, none⟩ = some (.int .i64 a0_3) := (blk_cell BK945.out 3).trans rfl; have hcz13_4 : w12.cell? ⟨gb945, 4, none⟩ = some (.int .i64 a0_4) := (blk_cell BK945.out 4).trans rfl; have hcz13_5 : w12.cell? ⟨gb945, 5, none⟩ = some (.int .i64 a0_5) := (blk_cell BK945.out 5).trans rfl; have hcz13_6 : w12.cell? ⟨gb945, 6, none⟩ = some (.slice A0_6 l0_6.length c0_6) := (blk_cell BK945.out 6).trans rfl; have hfz13_0 := blk_frozen BK945.out 0; have hfz13_1 := blk_frozen BK945.out 1; have hfz13_2 := blk_frozen BK945.out 2; have hfz13_3 := blk_frozen BK945.out 3; have hfz13_4 := blk_frozen BK945.out 4; have hfz13_5 := blk_frozen BK945.out 5; have hfz13_6 := blk_frozen BK945.out 6) | (go_at_call 135; (with_reducible refine (impl_within.calls a0_5 0 a0_3 true _ A6.out).mono ?_); rintro e w' ⟨rfl, ⟨nd, rfl⟩⟩))
        go_meet
        case rel => exact ⟨_, (decide ((l0_6.length : Int) > 8)), (by first | rfl | (simp; done) | (simp [*]; done)), H', ⟨by first | omega | exact Nat.le_refl _⟩, ⟨by (with_reducible repeat (first | refine blk_drewN ?_ _ | refine blk_drew ?_ | refine blk_alloc ?_ _)); exact BK945.out⟩, ⟨by repeat (first | (with_reducible first | exact HB.out | apply below_alloc | apply pw_below_drewN | apply below_drew1 | refine below_set ?_ GE945.out) | exact HB.out)⟩⟩
      · replace c7 := Bool.eq_false_iff.mpr c7
        subst c7
        have H1 : (impl_IsArena.j0 k true l0_0 a0_1 a0_2 a0_3 a0_4 a0_5 l0_6) = some r := by rw [if_neg (show ¬ (false = true) by decide)] at H; exact H
        clear H
        have H := H1
        clear H1
        have H' := Aside0.mk H
        clear H
        have hcz14_0 : w3.cell? ⟨gb945, 0, none⟩ = some (.slice A0_0 l0_0.length c0_0) := (blk_cell BK945.out 0).trans rfl
        have hcz14_1 : w3.cell? ⟨gb945, 1, none⟩ = some (.int .i64 a0_1) := (blk_cell BK945.out 1).trans rfl
        have hcz14_2 : w3.cell? ⟨gb945, 2, none⟩ = some (.int .i64 a0_2) := (blk_cell BK945.out 2).trans rfl
        have hcz14_3 : w3.cell? ⟨gb945, 3, none⟩ = some (.int .i64 a0_3) := (blk_cell BK945.out 3).trans rfl
        have hcz14_4 : w3.cell? ⟨gb945, 4, none⟩ = some (.int .i64 a0_4) := (blk_cell BK945.out 4).trans rfl
        have hcz14_5 : w3.cell? ⟨gb945, 5, none⟩ = some (.int .i64 a0_5) := (blk_cell BK945.out 5).trans rfl
        have hcz14_6 : w3.cell? ⟨gb945, 6, none⟩ = some (.slice A0_6 l0_6.length c0_6) := (blk_cell BK945.out 6).trans rfl
        have hfz14_0 := blk_frozen BK945.out 0
        have hfz14_1 := blk_frozen BK945.out 1
        have hfz14_2 := blk_frozen BK945.out 2
        have hfz14_3 := blk_frozen BK945.out 3
        have hfz14_4 := blk_frozen BK945.out 4
        have hfz14_5 := blk_frozen BK945.out 5
        have hfz14_6 := blk_frozen BK945.out 6
        go_wp2_with (first | ((with_reducible refine gate_dst (N := 7) rfl ?_); (try (refine gate_guard (by rfl) ?_; dsimp only)); refine Kd.R_lit kimplWindow _ 48 ?hg (N := 7) ?hd (xs := ([(⟨a0_1, a0_2, a0_3, a0_4⟩ : SimplWindow)] : List (SimplWindow))) (inner := [.int .i64 a0_1, .int .i64 a0_2, .int .i64 a0_3, .int .i64 a0_4]) (ok := fun _ => True) (okp := fun _ => True) ?hr ?hp (fun _ hk => hk) trivial (Below.refl _ _) (Nat.le_refl _) (by simp) ?_; (case hd => rfl); (case hg => rfl); (case hr => first | (go_simp; done) | (go_simp; rfl)); (case hp => exact (Reps.c4 (show Kd.M kimplWindow _ _ _ (⟨a0_1, a0_2, a0_3, a0_4⟩ : SimplWindow) [.int .i64 a0_1, .int .i64 a0_2, .int .i64 a0_3, .int .i64 a0_4] from (kimplWindow_mkM _ _ _ (⟨a0_1, a0_2, a0_3, a0_4⟩ : SimplWindow) )) (Reps.none _ _))); intro v947 w15 ho16 hb hg_ hnew_; clear hg_ hnew_; (first | rw [← Ny946.out] at ho16 | (simp only [Int.reduceToNat] at ho16; rw [← Ny946.out] at ho16)); have n0_ := Aside0.mk (Kd.R_lower ho16 (below_size (by repeat (first | (with_reducible first | exact HB.out | apply below_alloc | apply pw_below_drewN | apply below_drew1 | refine below_set ?_ GE945.out) | exact HB.out)))); have n1_ := Aside0.mk (blk_below (g := gb945) (o := .cells #[.slice A0_0 l0_0.length c0_0, .int .i64 a0_1, .int .i64 a0_2, .int .i64 a0_3, .int .i64 a0_4, .int .i64 a0_5, .slice A0_6 l0_6.length c0_6] 51 (0, 0)) (by (with_reducible repeat (first | refine blk_drewN ?_ _ | refine blk_drew ?_ | refine blk_alloc ?_ _)); exact BK945.out) hb); have n2_ := Aside0.mk (below_step (by repeat (first | (with_reducible first | exact HB.out | apply below_alloc | apply pw_below_drewN | apply below_drew1 | refine below_set ?_ GE945.out) | exact HB.out)) hb); clear BK945; clear HB; have HO948 := n0_; have BK945 := n1_; have HB := n2_; clear n0_ n1_ n2_; clear hb ho16; obtain ⟨Ao17, co17, eo17⟩ := Kd.R_slice HO948.out; subst eo17) | ((with_reducible refine gate_callee (f := 90) rfl ?_); refine goesL_ (some 8) rfl rfl Try.func90 (by kernel_rfl) rfl #[.agg #[.slice A0_0 l0_0.length c0_0], .slice Ao17 y946.length co17] rfl (by (try simp only [List.map_toArray, List.map_cons, List.map_nil]); first | done | rfl | (simp only [List.length_drop, List.length_take]; rfl)) ?_; (with_reducible refine (impl_areOn.calls _ _ l0_0 _ _ y946 true _ ?side1 ?side2 ?side3 ?side4 A4.out).mono ?_); (case side1 => repeat (first | exact (Kd.C_below HR0_0.out HB.out) | (with_reducible refine Kd.C_alloc ?_ _) | (with_reducible refine Kd.C_drewN ?_ _) | (with_reducible refine Kd.C_drew ?_))); (case side2 => exact HC0_0.out); (case side3 => repeat (first | exact (Kd.R_reads' HO948.out).2.2 | (with_reducible refine Kd.C_alloc ?_ _) | (with_reducible refine Kd.C_drewN ?_ _) | (with_reducible refine Kd.C_drew ?_))); (case side4 => exact (Kd.R_reads' HO948.out).2.1); rintro e w18 ⟨rfl, hb⟩; refine ⟨_, rfl, ?_⟩; have n0_ := Aside0.mk (Kd.R_below (by (with_reducible repeat (first | apply Kd.R_alloc | apply Kd.R_drewN | apply Kd.R_drew)); exact HO948.out) hb); have n1_ := Aside0.mk (blk_below (g := gb945) (o := .cells #[.slice A0_0 l0_0.length c0_0, .int .i64 a0_1, .int .i64 a0_2, .int .i64 a0_3, .int .i64 a0_4, .int .i64 a0_5, .slice A0_6 l0_6.length c0_6] 51 (0, 0)) (by (with_reducible repeat (first | refine blk_drewN ?_ _ | refine blk_drew ?_ | refine blk_alloc ?_ _)); exact BK945.out) hb); have n2_ := Aside0.mk (below_step (by repeat (first | (with_reducible first | exact HB.out | apply below_alloc | apply pw_below_drewN | apply below_drew1 | refine below_set ?_ GE945.out) | exact HB.out)) hb); clear HO948; clear BK945; clear HB; have HO948 := n0_; have BK945 := n1_; have HB := n2_; clear n0_ n1_ n2_; (try clear hb); (try clear hb2); (try clear hk); (try clear hi); have hcz19_0 : w18.cell? ⟨gb945, 0, none⟩ = some (.slice A0_0 l0_0.length c0_0) := (blk_cell BK945.out 0).trans rfl; have hcz19_1 : w18.cell? ⟨gb945, 1, none⟩ = some (.int .i64 a0_1) := (blk_cell BK945.out 1).trans rfl; have hcz19_2 : w18.cell? ⟨gb945, 2, none⟩ = some (.int .i64 a0_2) := (blk_cell BK945.out 2).trans rfl; have hcz19_3 : w18.cell? ⟨gb945, 3, none⟩ = some (.int .i64 a0_3) := (blk_cell BK945.out 3).trans rfl; have hcz19_4 : w18.cell? ⟨gb945, 4, none⟩ = some (.int .i64 a0_4) := (blk_cell BK945.out 4).trans rfl; have hcz19_5 : w18.cell? ⟨gb945, 5, none⟩ = some (.int .i64 a0_5) := (blk_cell BK945.out 5).trans rfl; have hcz19_6 : w18.cell? ⟨gb945, 6, none⟩ = some (.slice A0_6 l0_6.length c0_6) := (blk_cell BK945.out 6).trans rfl; have hfz19_0 := blk_frozen BK945.out 0; have hfz19_1 := blk_frozen BK945.out 1; have hfz19_2 := blk_frozen BK945.out 2; have hfz19_3 := blk_frozen BK945.out 3; have hfz19_4 := blk_frozen BK945.out 4; have hfz19_5 := blk_frozen BK945.out 5; have hfz19_6 := blk_frozen BK945.out 6) | (go_at_call 135; (with_reducible refine (impl_within.calls a0_5 0 a0_3 false _ A6.out).mono ?_); rintro e w' ⟨rfl, ⟨nd, rfl⟩⟩))
        go_meet
        case rel => exact ⟨_, (true), (by first | rfl | (simp; done) | (simp [*]; done)), H', ⟨by first | omega | exact Nat.le_refl _⟩, ⟨by (with_reducible repeat (first | refine blk_drewN ?_ _ | refine blk_drew ?_ | refine blk_alloc ?_ _)); exact BK945.out⟩, ⟨by repeat (first | (with_reducible first | exact HB.out | apply below_alloc | apply pw_below_drewN | apply below_drew1 | refine below_set ?_ GE945.out) | exact HB.out)⟩⟩
    · replace c5 := Bool.eq_false_iff.mpr c5
      subst c5
      have H1 : (impl_IsArena.j0 k true l0_0 a0_1 a0_2 a0_3 a0_4 a0_5 l0_6) = some r := by rw [if_neg (show ¬ (false = true) by decide)] at H; exact H
      clear H
      have H := H1
      clear H1
      have H' := Aside0.mk H
      clear H
      have hcz20_0 : w3.cell? ⟨gb945, 0, none⟩ = some (.slice A0_0 l0_0.length c0_0) := (blk_cell BK945.out 0).trans rfl
      have hcz20_1 : w3.cell? ⟨gb945, 1, none⟩ = some (.int .i64 a0_1) := (blk_cell BK945.out 1).trans rfl
      have hcz20_2 : w3.cell? ⟨gb945, 2, none⟩ = some (.int .i64 a0_2) := (blk_cell BK945.out 2).trans rfl
      have hcz20_3 : w3.cell? ⟨gb945, 3, none⟩ = some (.int .i64 a0_3) := (blk_cell BK945.out 3).trans rfl
      have hcz20_4 : w3.cell? ⟨gb945, 4, none⟩ = some (.int .i64 a0_4) := (blk_cell BK945.out 4).trans rfl
      have hcz20_5 : w3.cell? ⟨gb945, 5, none⟩ = some (.int .i64 a0_5) := (blk_cell BK945.out 5).trans rfl
      have hcz20_6 : w3.cell? ⟨gb945, 6, none⟩ = some (.slice A0_6 l0_6.length c0_6) := (blk_cell BK945.out 6).trans rfl
      have hfz20_0 := blk_frozen BK945.out 0
      have hfz20_1 := blk_frozen BK945.out 1
      have hfz20_2 := blk_frozen BK945.out 2
      have hfz20_3 := blk_frozen BK945.out 3
      have hfz20_4 := blk_frozen BK945.out 4
      have hfz20_5 := blk_frozen BK945.out 5
      have hfz20_6 := blk_frozen BK945.out 6
      go_wp2_with (first | ((with_reducible refine gate_dst (N := 7) rfl ?_); (try (refine gate_guard (by rfl) ?_; dsimp only)); refine Kd.R_lit kimplWindow _ 48 ?hg (N := 7) ?hd (xs := ([(⟨a0_1, a0_2, a0_3, a0_4⟩ : SimplWindow)] : List (SimplWindow))) (inner := [.int .i64 a0_1, .int .i64 a0_2, .int .i64 a0_3, .int .i64 a0_4]) (ok := fun _ => True) (okp := fun _ => True) ?hr ?hp (fun _ hk => hk) trivial (Below.refl _ _) (Nat.le_refl _) (by simp) ?_; (case hd => rfl); (case hg => rfl); (case hr => first | (go_simp; done) | (go_simp; rfl)); (case hp => exact (Reps.c4 (show Kd.M kimplWindow _ _ _ (⟨a0_1, a0_2, a0_3, a0_4⟩ : SimplWindow) [.int .i64 a0_1, .int .i64 a0_2, .int .i64 a0_3, .int .i64 a0_4] from (kimplWindow_mkM _ _ _ (⟨a0_1, a0_2, a0_3, a0_4⟩ : SimplWindow) )) (Reps.none _ _))); intro v947 w21 ho22 hb hg_ hnew_; clear hg_ hnew_; (first | rw [← Ny946.out] at ho22 | (simp only [Int.reduceToNat] at ho22; rw [← Ny946.out] at ho22)); have n0_ := Aside0.mk (Kd.R_lower ho22 (below_size (by repeat (first | (with_reducible first | exact HB.out | apply below_alloc | apply pw_below_drewN | apply below_drew1 | refine below_set ?_ GE945.out) | exact HB.out)))); have n1_ := Aside0.mk (blk_below (g := gb945) (o := .cells #[.slice A0_0 l0_0.length c0_0, .int .i64 a0_1, .int .i64 a0_2, .int .i64 a0_3, .int .i64 a0_4, .int .i64 a0_5, .slice A0_6 l0_6.length c0_6] 51 (0, 0)) (by (with_reducible repeat (first | refine blk_drewN ?_ _ | refine blk_drew ?_ | refine blk_alloc ?_ _)); exact BK945.out) hb); have n2_ := Aside0.mk (below_step (by repeat (first | (with_reducible first | exact HB.out | apply below_alloc | apply pw_below_drewN | apply below_drew1 | refine below_set ?_ GE945.out) | exact HB.out)) hb); clear BK945; clear HB; have HO948 := n0_; have BK945 := n1_; have HB := n2_; clear n0_ n1_ n2_; clear hb ho22; obtain ⟨Ao23, co23, eo23⟩ := Kd.R_slice HO948.out; subst eo23) | ((with_reducible refine gate_callee (f := 90) rfl ?_); refine goesL_ (some 8) rfl rfl Try.func90 (by kernel_rfl) rfl #[.agg #[.slice A0_0 l0_0.length c0_0], .slice Ao23 y946.length co23] rfl (by (try simp only [List.map_toArray, List.map_cons, List.map_nil]); first | done | rfl | (simp only [List.length_drop, List.length_take]; rfl)) ?_; (with_reducible refine (impl_areOn.calls _ _ l0_0 _ _ y946 false _ ?side1 ?side2 ?side3 ?side4 A4.out).mono ?_); (case side1 => repeat (first | exact (Kd.C_below HR0_0.out HB.out) | (with_reducible refine Kd.C_alloc ?_ _) | (with_reducible refine Kd.C_drewN ?_ _) | (with_reducible refine Kd.C_drew ?_))); (case side2 => exact HC0_0.out); (case side3 => repeat (first | exact (Kd.R_reads' HO948.out).2.2 | (with_reducible refine Kd.C_alloc ?_ _) | (with_reducible refine Kd.C_drewN ?_ _) | (with_reducible refine Kd.C_drew ?_))); (case side4 => exact (Kd.R_reads' HO948.out).2.1); rintro e w24 ⟨rfl, hb⟩; refine ⟨_, rfl, ?_⟩; have n0_ := Aside0.mk (Kd.R_below (by (with_reducible repeat (first | apply Kd.R_alloc | apply Kd.R_drewN | apply Kd.R_drew)); exact HO948.out) hb); have n1_ := Aside0.mk (blk_below (g := gb945) (o := .cells #[.slice A0_0 l0_0.length c0_0, .int .i64 a0_1, .int .i64 a0_2, .int .i64 a0_3, .int .i64 a0_4, .int .i64 a0_5, .slice A0_6 l0_6.length c0_6] 51 (0, 0)) (by (with_reducible repeat (first | refine blk_drewN ?_ _ | refine blk_drew ?_ | refine blk_alloc ?_ _)); exact BK945.out) hb); have n2_ := Aside0.mk (below_step (by repeat (first | (with_reducible first | exact HB.out | apply below_alloc | apply pw_below_drewN | apply below_drew1 | refine below_set ?_ GE945.out) | exact HB.out)) hb); clear HO948; clear BK945; clear HB; have HO948 := n0_; have BK945 := n1_; have HB := n2_; clear n0_ n1_ n2_; (try clear hb); (try clear hb2); (try clear hk); (try clear hi)))
      go_meet
      case rel => exact ⟨_, (true), (by first | rfl | (simp; done) | (simp [*]; done)), H', ⟨by first | omega | exact Nat.le_refl _⟩, ⟨by (with_reducible repeat (first | refine blk_drewN ?_ _ | refine blk_drew ?_ | refine blk_alloc ?_ _)); exact BK945.out⟩, ⟨by repeat (first | (with_reducible first | exact HB.out | apply below_alloc | apply pw_below_drewN | apply below_drew1 | refine below_set ?_ GE945.out) | exact HB.out)⟩⟩
  case rest =>
    clear HC2
    try clear c1
    try clear p2
    try clear c4
    try clear c5
    try clear c7
    try clear c9
    try clear c12
    try clear hcz13_0
    try clear hcz13_1
    try clear hcz13_2
    try clear hcz13_3
    try clear hcz13_4
    try clear hcz13_5
    try clear hcz13_6
    try clear hcz14_0
    try clear hcz14_1
    try clear hcz14_2
    try clear hcz14_3
    try clear hcz14_4
    try clear hcz14_5
    try clear hcz14_6
    try clear hcz19_0
    try clear hcz19_1
    try clear hcz19_2
    try clear hcz19_3
    try clear hcz19_4
    try clear hcz19_5
    try clear hcz19_6
    try clear hcz20_0
    try clear hcz20_1
    try clear hcz20_2
    try clear hcz20_3
    try clear hcz20_4
    try clear hcz20_5
    try clear hcz20_6
    try clear hcz8_0
    try clear hcz8_1
    try clear hcz8_2
    try clear hcz8_3
    try clear hcz8_4
    try clear hcz8_5
    try clear hcz8_6
    try clear hfz13_0
    try clear hfz13_1
    try clear hfz13_2
    try clear hfz13_3
    try clear hfz13_4
    try clear hfz13_5
    try clear hfz13_6
    try clear hfz14_0
    try clear hfz14_1
    try clear hfz14_2
    try clear hfz14_3
    try clear hfz14_4
    try clear hfz14_5
    try clear hfz14_6
    try clear hfz19_0
    try clear hfz19_1
    try clear hfz19_2
    try clear hfz19_3
    try clear hfz19_4
    try clear hfz19_5
    try clear hfz19_6
    try clear hfz20_0
    try clear hfz20_1
    try clear hfz20_2
    try clear hfz20_3
    try clear hfz20_4
    try clear hfz20_5
    try clear hfz20_6
    try clear hfz8_0
    try clear hfz8_1
    try clear hfz8_2
    try clear hfz8_3
    try clear hfz8_4
    try clear hfz8_5
    try clear hfz8_6
    obtain ⟨kq, x24_1, rfl, HA, HJ1, BK945, HB⟩ := hcut
    cases kq with
    | zero => exact absurd HA.out (by simp [impl_IsArena.j0])
    | succ kj1 =>
      have H := HA.out
      clear HA
      simp only [impl_IsArena.j0] at H
      by_cases c25 : x24_1 = true
      · subst c25
        have H1 : (some false) = some r := by rw [if_pos rfl] at H; exact H
        clear H
        have H := H1
        clear H1
        obtain rfl := Option.some.inj H
        go_wp2
        go_ret
        exact ⟨by first | rfl | (simp [errW_none, errW_some] <;> rfl) | (simp [*, errW_none, errW_some] <;> rfl), by repeat (first | (with_reducible first | exact HB.out | apply below_alloc | apply pw_below_drewN | apply below_drew1 | refine below_set ?_ GE945.out) | exact HB.out)⟩
      · replace c25 := Bool.eq_false_iff.mpr c25
        subst c25
        have H1 : ((impl_allWithin.f kj1 l0_6 0 a0_5).bind fun t951 => (if t951 = true then ((slices_IsSorted_int_int.f kj1 l0_6).bind fun t952 => (some t952)) else (some false))) = some r := by rw [if_neg (show ¬ (false = true) by decide)] at H; exact H
        clear H
        have H := H1
        clear H1
        replace H := Option.bind_eq_some_iff.mp H
        obtain ⟨t951, A260, H⟩ := H
        replace H : (if t951 = true then ((slices_IsSorted_int_int.f kj1 l0_6).bind fun t952 => (some t952)) else (some false)) = some r := H
        have A26 := Aside0.mk A260
        clear A260
        by_cases c27 : t951 = true
        · subst c27
          have H1 : ((slices_IsSorted_int_int.f kj1 l0_6).bind fun t952 => (some t952)) = some r := by rw [if_pos rfl] at H; exact H
          clear H
          have H := H1
          clear H1
          replace H := Option.bind_eq_some_iff.mp H
          obtain ⟨t952, A280, H⟩ := H
          replace H : (some t952) = some r := H
          have A28 := Aside0.mk A280
          clear A280
          obtain rfl := Option.some.inj H
          have hcz29_0 : wc.cell? ⟨gb945, 0, none⟩ = some (.slice A0_0 l0_0.length c0_0) := (blk_cell BK945.out 0).trans rfl
          have hcz29_1 : wc.cell? ⟨gb945, 1, none⟩ = some (.int .i64 a0_1) := (blk_cell BK945.out 1).trans rfl
          have hcz29_2 : wc.cell? ⟨gb945, 2, none⟩ = some (.int .i64 a0_2) := (blk_cell BK945.out 2).trans rfl
          have hcz29_3 : wc.cell? ⟨gb945, 3, none⟩ = some (.int .i64 a0_3) := (blk_cell BK945.out 3).trans rfl
          have hcz29_4 : wc.cell? ⟨gb945, 4, none⟩ = some (.int .i64 a0_4) := (blk_cell BK945.out 4).trans rfl
          have hcz29_5 : wc.cell? ⟨gb945, 5, none⟩ = some (.int .i64 a0_5) := (blk_cell BK945.out 5).trans rfl
          have hcz29_6 : wc.cell? ⟨gb945, 6, none⟩ = some (.slice A0_6 l0_6.length c0_6) := (blk_cell BK945.out 6).trans rfl
          have hfz29_0 := blk_frozen BK945.out 0
          have hfz29_1 := blk_frozen BK945.out 1
          have hfz29_2 := blk_frozen BK945.out 2
          have hfz29_3 := blk_frozen BK945.out 3
          have hfz29_4 := blk_frozen BK945.out 4
          have hfz29_5 := blk_frozen BK945.out 5
          have hfz29_6 := blk_frozen BK945.out 6
          go_wp2_with (first | ((with_reducible refine gate_callee (f := 148) rfl ?_); refine goesL_ (some 29) rfl rfl Try.func148 (by kernel_rfl) rfl #[.slice A0_6 l0_6.length c0_6, .int .i64 0, .int .i64 a0_5] rfl (by (try simp only [List.map_toArray, List.map_cons, List.map_nil]); first | done | rfl | (simp only [List.length_drop, List.length_take]; rfl)) ?_; (with_reducible refine (impl_allWithin.calls kj1 _ _ l0_6 0 a0_5 true _ ?side1 ?side2 A26.out).mono ?_); (case side1 => repeat (first | exact (Kd.C_below HR0_6.out HB.out) | (with_reducible refine Kd.C_alloc ?_ _) | (with_reducible refine Kd.C_drewN ?_ _) | (with_reducible refine Kd.C_drew ?_))); (case side2 => exact HC0_6.out); rintro e w' ⟨rfl, ⟨nd, rfl⟩⟩; refine ⟨_, rfl, ?_⟩) | (go_at_call 149; (with_reducible refine (slices_IsSorted_int_int.calls kj1 _ _ l0_6 t952 _ ?side1 ?side2 A28.out).mono ?_); (case side1 => repeat (first | exact (Kd.C_below HR0_6.out (by repeat (first | (with_reducible first | exact HB.out | apply below_alloc | apply pw_below_drewN | apply below_drew1 | refine below_set ?_ GE945.out) | exact HB.out))) | (with_reducible refine Kd.C_alloc ?_ _) | (with_reducible refine Kd.C_drewN ?_ _) | (with_reducible refine Kd.C_drew ?_))); (case side2 => exact HC0_6.out); rintro e w' ⟨rfl, ⟨nd, rfl⟩⟩))
          go_ret
          exact ⟨by first | rfl | (simp [errW_none, errW_some] <;> rfl) | (simp [*, errW_none, errW_some] <;> rfl), by repeat (first | (with_reducible first | exact HB.out | apply below_alloc | apply pw_below_drewN | apply below_drew1 | refine below_set ?_ GE945.out) | exact HB.out)⟩
        · replace c27 := Bool.eq_false_iff.mpr c27
          subst c27
          have H1 : (some false) = some r := by rw [if_neg (show ¬ (false = true) by decide)] at H; exact H
          clear H
          have H := H1
          clear H1
          obtain rfl := Option.some.inj H
          have hcz30_0 : wc.cell? ⟨gb945, 0, none⟩ = some (.slice A0_0 l0_0.length c0_0) := (blk_cell BK945.out 0).trans rfl
          have hcz30_1 : wc.cell? ⟨gb945, 1, none⟩ = some (.int .i64 a0_1) := (blk_cell BK945.out 1).trans rfl
          have hcz30_2 : wc.cell? ⟨gb945, 2, none⟩ = some (.int .i64 a0_2) := (blk_cell BK945.out 2).trans rfl
          have hcz30_3 : wc.cell? ⟨gb945, 3, none⟩ = some (.int .i64 a0_3) := (blk_cell BK945.out 3).trans rfl
          have hcz30_4 : wc.cell? ⟨gb945, 4, none⟩ = some (.int .i64 a0_4) := (blk_cell BK945.out 4).trans rfl
          have hcz30_5 : wc.cell? ⟨gb945, 5, none⟩ = some (.int .i64 a0_5) := (blk_cell BK945.out 5).trans rfl
          have hcz30_6 : wc.cell? ⟨gb945, 6, none⟩ = some (.slice A0_6 l0_6.length c0_6) := (blk_cell BK945.out 6).trans rfl
          have hfz30_0 := blk_frozen BK945.out 0
          have hfz30_1 := blk_frozen BK945.out 1
          have hfz30_2 := blk_frozen BK945.out 2
          have hfz30_3 := blk_frozen BK945.out 3
          have hfz30_4 := blk_frozen BK945.out 4
          have hfz30_5 := blk_frozen BK945.out 5
          have hfz30_6 := blk_frozen BK945.out 6
          go_wp2_with (first | ((with_reducible refine gate_callee (f := 148) rfl ?_); refine goesL_ (some 29) rfl rfl Try.func148 (by kernel_rfl) rfl #[.slice A0_6 l0_6.length c0_6, .int .i64 0, .int .i64 a0_5] rfl (by (try simp only [List.map_toArray, List.map_cons, List.map_nil]); first | done | rfl | (simp only [List.length_drop, List.length_take]; rfl)) ?_; (with_reducible refine (impl_allWithin.calls kj1 _ _ l0_6 0 a0_5 false _ ?side1 ?side2 A26.out).mono ?_); (case side1 => repeat (first | exact (Kd.C_below HR0_6.out HB.out) | (with_reducible refine Kd.C_alloc ?_ _) | (with_reducible refine Kd.C_drewN ?_ _) | (with_reducible refine Kd.C_drew ?_))); (case side2 => exact HC0_6.out); rintro e w' ⟨rfl, ⟨nd, rfl⟩⟩; refine ⟨_, rfl, ?_⟩))
          go_ret
          exact ⟨by first | rfl | (simp [errW_none, errW_some] <;> rfl) | (simp [*, errW_none, errW_some] <;> rfl), by repeat (first | (with_reducible first | exact HB.out | apply below_alloc | apply pw_below_drewN | apply below_drew1 | refine below_set ?_ GE945.out) | exact HB.out)⟩

end Go.Proofs.Ytoomjghabiojkaa.P


