/- Part 3 of the proof of the law FnExactShownBytes: contracts of the functions that it reaches. -/
import Derived.Test.YtoomjghabiojkaaQFnExactShownBytes2
namespace Go.Proofs.Ytoomjghabiojkaa.P
open Go.RowKit Go.Proofs.YtoomjghabiojkaaW.PrintWords Go.Proofs.YtoomjghabiojkaaW.PrintLast Go.Proofs.YtoomjghabiojkaaW.PrintMore
attribute [local go_sem] max2_int min2_int max_two min_two max_three min_three max_four min_four   -- for this text's walks alone
set_option linter.unusedVariables false
set_option linter.unusedSimpArgs false

def laws_toWindowS.l0 : Nat → List (SlawsWindow) → List (SimplWindow) → Int → Option ((List (SimplWindow)))
  | 0, _, _, _ => none
  | k + 1, x0, x3, x4 => if x4 < (x0.length : Int) then (if 0 ≤ x4 then ((laws_toWindow.f ((rd_TlawsWindow x0 x4).f0) ((rd_TlawsWindow x0 x4).f1) ((rd_TlawsWindow x0 x4).f2) ((rd_TlawsWindow x0 x4).f3)).bind fun bt291 => (if x4 < (x3.length : Int) then (laws_toWindowS.l0 k x0 (x3.set (x4 : Int).toNat (⟨bt291.1, bt291.2.1, bt291.2.2.1, bt291.2.2.2⟩ : SimplWindow)) (wrap64 (x4 + 1))) else (none))) else (none)) else (some x3)
def laws_toWindowS.f (k : Nat) (l0 : List (SlawsWindow)) : Option ((List (SimplWindow))) := if 0 ≤ (l0.length : Int) then (if ((l0.length : Int) : Int).toNat ≤ 8796093022208 then (laws_toWindowS.l0 k l0 (List.replicate ((l0.length : Int) : Int).toNat zimplWindow) 0) else (none)) else (none)
set_option maxHeartbeats 8000000 in
set_option maxRecDepth 100000 in
theorem laws_toWindowS.calls (k : Nat) (A0 : Option Addr) (c0 : Nat) (l0 : List (SlawsWindow)) (r : List (SimplWindow)) (w : World) (hr0 : Kd.C klawsWindow w A0 l0.length l0) (hc0 : l0.length ≤ c0) (h : laws_toWindowS.f k l0 = some r) :
    Calls Try.prog 83 #[.slice A0 l0.length c0] w fun e w' => ∃ v0_ : Value, e = .returned (v0_) ∧ Kd.R kimplWindow 48 w' w.heap.size (fun _ => True) v0_ r ∧ Below w.heap.size w w' := by
  have hu47 := Try.underlying47
  have hu48 := Try.underlying48
  have HR0 := Aside0.mk hr0
  have HC0 := Aside0.mk hc0
  clear hr0 hc0
  have HB := Aside0.mk (Below.refl w.heap.size w)
  have H : (if 0 ≤ (l0.length : Int) then (if ((l0.length : Int) : Int).toNat ≤ 8796093022208 then (laws_toWindowS.l0 k l0 (List.replicate ((l0.length : Int) : Int).toNat zimplWindow) 0) else (none)) else (none)) = some r := h
  clear h
  by_cases c2 : 0 ≤ (l0.length : Int)
  · rw [if_pos c2] at H
    have c2b0 := eq_true c2
    have c2b1 : decide (0 ≤ (l0.length : Int)) = true := decide_eq_true c2
    clear c2
    by_cases c3 : ((l0.length : Int) : Int).toNat ≤ 8796093022208
    · rw [if_pos c3] at H
      have c3b0 := eq_true c3
      have c3b1 : decide (((l0.length : Int) : Int).toNat ≤ 8796093022208) = true := decide_eq_true c3
      clear c3
      obtain ⟨y287, hy287⟩ : ∃ y_ : List (SimplWindow), y_ = (List.replicate ((l0.length : Int) : Int).toNat zimplWindow) := ⟨_, rfl⟩
      replace H : (laws_toWindowS.l0 k l0 y287 0) = some r := by first | (rw [hy287]; with_reducible exact H) | (have H2_ := (Option.bind_some _ _).symm.trans H; rw [hy287]; with_reducible exact H2_) | (have H2_ := (Option.bind_some _ _).symm.trans H; with_reducible exact H2_) | with_reducible exact H | (rw [hy287]; exact H) | exact H
      have Ny287 := Aside0.mk hy287
      clear hy287
      have H' := Aside0.mk H
      clear H
      go_enter Try.func83, Try.ntmps83
      go_wp2_with (first | ((with_reducible refine gate_dst (N := 7) rfl ?_); refine Kd.R_make kimplWindow _ 48 rfl (N := 7) rfl 27 _ _ rfl (l0.length : Int) rfl rfl Try.underlying27 (.agg #[(.int .i64 0), (.int .i64 0), (.int .i64 0), (.int .i64 0)]) 32 info48 rfl (by decide) (by omega) zimplWindow (ok := fun _ => True) (okp := fun _ => True) (kimplWindow_mkM _ _ _ zimplWindow ) (fun _ hk => hk) trivial (of_decide_eq_true (by first | (with_reducible assumption) | assumption)) (Nat.le_trans (Nat.mul_le_mul_right _ (of_decide_eq_true (by first | (with_reducible assumption) | assumption) : (l0.length : Int).toNat ≤ 8796093022208)) (by omega)) (Below.refl _ _) (Nat.le_refl _) ?_; intro v288 w4 ho5 hb hg_ hnew_; clear hg_ hnew_; (first | rw [← Ny287.out] at ho5 | (simp only [Int.reduceToNat] at ho5; rw [← Ny287.out] at ho5)); have n0_ := Aside0.mk (Kd.R_lower ho5 (below_size (by repeat (first | (with_reducible first | exact HB.out | apply below_alloc | apply pw_below_drewN | apply below_drew1) | exact HB.out)))); have n1_ := Aside0.mk (below_step (by repeat (first | (with_reducible first | exact HB.out | apply below_alloc | apply pw_below_drewN | apply below_drew1) | exact HB.out)) hb); clear HB; have HO289 := n0_; have HB := n1_; clear n0_ n1_; clear hb ho5))
      go_loopg [4] k (fun kq v4 w' => ∃ (x3_1 : List (SimplWindow)) (x4_1 : Int), v4 = .int .i64 x4_1 ∧ Aside0 (laws_toWindowS.l0 kq l0 x3_1 x4_1 = some r) ∧ Aside0 (kq ≤ k) ∧ Aside0 (Kd.R kimplWindow 48 w' w.heap.size (fun _ => True) v288 x3_1) ∧ Aside0 (Below w.heap.size w w'))
      case atStart => exact ⟨(y287), (0), (by first | rfl | (simp; done) | (simp [*]; done)), H', ⟨Nat.le_refl _⟩, ⟨by (with_reducible repeat (first | apply Kd.R_alloc | apply Kd.R_drewN | apply Kd.R_drew)); exact HO289.out⟩, ⟨by repeat (first | (with_reducible first | exact HB.out | apply below_alloc | apply pw_below_drewN | apply below_drew1) | exact HB.out)⟩⟩
      case round =>
        clear H'
        try clear c2
        try clear c2b0
        try clear c2b1
        try clear p2
        try clear c3
        try clear c3b0
        try clear c3b1
        obtain ⟨x3_1, x4_1, rfl, HA, HK1, HO_3, HB⟩ := hrel
        cases gk with
        | zero => exact absurd HA.out (by simp [laws_toWindowS.l0])
        | succ k1 =>
          have H := HA.out
          clear HA
          simp only [laws_toWindowS.l0] at H
          by_cases c6 : x4_1 < (l0.length : Int)
          · rw [if_pos c6] at H
            have c6b0 : decide (x4_1 < (l0.length : Int)) = true := decide_eq_true c6
            clear c6
            by_cases c7 : 0 ≤ x4_1
            · rw [if_pos c7] at H
              have c7b0 : decide (0 ≤ x4_1) = true := decide_eq_true c7
              clear c7
              replace H := Option.bind_eq_some_iff.mp H
              obtain ⟨⟨t291, t292, t293, t294⟩, A80, H⟩ := H
              replace H : (if x4_1 < (x3_1.length : Int) then (laws_toWindowS.l0 k1 l0 (x3_1.set (x4_1 : Int).toNat (⟨t291, t292, t293, t294⟩ : SimplWindow)) (wrap64 (x4_1 + 1))) else (none)) = some r := H
              have A8 := Aside0.mk A80
              clear A80
              by_cases c9 : x4_1 < (x3_1.length : Int)
              · rw [if_pos c9] at H
                have c9b0 : decide (x4_1 < (x3_1.length : Int)) = true := decide_eq_true c9
                clear c9
                obtain ⟨y295, hy295⟩ : ∃ y_ : List (SimplWindow), y_ = (x3_1.set (x4_1 : Int).toNat (⟨t291, t292, t293, t294⟩ : SimplWindow)) := ⟨_, rfl⟩
                replace H : (laws_toWindowS.l0 k1 l0 y295 (wrap64 (x4_1 + 1))) = some r := by first | (rw [hy295]; with_reducible exact H) | (have H2_ := (Option.bind_some _ _).symm.trans H; rw [hy295]; with_reducible exact H2_) | (have H2_ := (Option.bind_some _ _).symm.trans H; with_reducible exact H2_) | with_reducible exact H | (rw [hy295]; exact H) | exact H
                have Ny295 := Aside0.mk hy295
                clear hy295
                have H' := Aside0.mk H
                clear H
                have p290 : 0 ≤ (x4_1 : Int) := of_decide_eq_true (by first | (with_reducible assumption) | assumption)
                have q290 : x4_1 < (l0.length : Int) := of_decide_eq_true (by first | (with_reducible assumption) | assumption)
                obtain ⟨ad290, e290, hx290_0, hx290_1, hx290_2, hx290_3⟩ := at_TlawsWindow HR0.out x4_1 p290 q290
                cases e290
                replace hx290_0 := (HB.out.cell (World.block_lt_of_cell? w _ hx290_0)).trans hx290_0
                replace hx290_1 := (HB.out.cell (World.block_lt_of_cell? w _ hx290_1)).trans hx290_1
                replace hx290_2 := (HB.out.cell (World.block_lt_of_cell? w _ hx290_2)).trans hx290_2
                replace hx290_3 := (HB.out.cell (World.block_lt_of_cell? w _ hx290_3)).trans hx290_3
                replace p290 := eq_true p290
                replace q290 := eq_true q290
                go_wp2_with (first | ((with_reducible refine gate_callee (f := 28) rfl ?_); refine goesL_ (some 20) rfl rfl Try.func28 (by kernel_rfl) rfl #[.agg #[.int .i64 ((rd_TlawsWindow l0 x4_1).f0), .int .i64 ((rd_TlawsWindow l0 x4_1).f1), .int .i64 ((rd_TlawsWindow l0 x4_1).f2), .int .i64 ((rd_TlawsWindow l0 x4_1).f3)]] rfl (by (try simp only [List.map_toArray, List.map_cons, List.map_nil]); first | done | rfl | (simp only [List.length_drop, List.length_take]; rfl)) ?_; (with_reducible refine (laws_toWindow.calls ((rd_TlawsWindow l0 x4_1).f0) ((rd_TlawsWindow l0 x4_1).f1) ((rd_TlawsWindow l0 x4_1).f2) ((rd_TlawsWindow l0 x4_1).f3) t291 t292 t293 t294 _ A8.out).mono ?_); rintro e w11 ⟨rfl, hb⟩; refine ⟨_, rfl, ?_⟩; have n0_ := Aside0.mk (Kd.R_below (by (with_reducible repeat (first | apply Kd.R_alloc | apply Kd.R_drewN | apply Kd.R_drew)); exact HO_3.out) hb); have n1_ := Aside0.mk (below_step (by repeat (first | (with_reducible first | exact HB.out | apply below_alloc | apply pw_below_drewN | apply below_drew1) | exact HB.out)) hb); clear HO_3; clear HB; have HO_3 := n0_; have HB := n1_; clear n0_ n1_; (try clear hb); (try clear hb2); (try clear hk); (try clear hi); have p10 : 0 ≤ (x4_1 : Int) := of_decide_eq_true (by first | (with_reducible assumption) | assumption); have q10 : (x4_1 : Int) < ((x3_1.length : Int) : Int) := of_decide_eq_true (by first | (with_reducible assumption) | assumption); obtain ⟨go10, co10, eo10, gb10, gl10, cl10, HG10⟩ := Kd.R_form HO_3.out (by omega); (first | cases eo10 | (injection eo10 with ea_ en_ ec_; (first | subst ea_ | (injection ea_ with ea_; subst ea_)); subst ec_; clear en_)); have GB10 := Aside0.mk gb10; have GG10 := Aside0.mk HG10; clear gb10 gl10 HG10; obtain ⟨ce10, hcl10, hM10, hcc10, hfr10⟩ := Kd.R_elem HO_3.out zimplWindow (x4_1 : Int) p10 q10; obtain rfl := kimplWindow_openM hM10; have hx10_0 : w11.cell? ⟨go10, (x4_1 : Int).toNat * 4, none⟩ = some (.int .i64 ((rd_TimplWindow x3_1 x4_1).f0)) := hcc10 0 _ rfl; have hx10_1 : w11.cell? ⟨go10, (x4_1 : Int).toNat * 4 + 1, none⟩ = some (.int .i64 ((rd_TimplWindow x3_1 x4_1).f1)) := hcc10 1 _ rfl; have hx10_2 : w11.cell? ⟨go10, (x4_1 : Int).toNat * 4 + 2, none⟩ = some (.int .i64 ((rd_TimplWindow x3_1 x4_1).f2)) := hcc10 2 _ rfl; have hx10_3 : w11.cell? ⟨go10, (x4_1 : Int).toNat * 4 + 3, none⟩ = some (.int .i64 ((rd_TimplWindow x3_1 x4_1).f3)) := hcc10 3 _ rfl; have hf10_0 : w11.frozen? ⟨go10, (x4_1 : Int).toNat * 4, none⟩ = false := hfr10 0; have hf10_1 : w11.frozen? ⟨go10, (x4_1 : Int).toNat * 4 + 1, none⟩ = false := hfr10 1; have hf10_2 : w11.frozen? ⟨go10, (x4_1 : Int).toNat * 4 + 2, none⟩ = false := hfr10 2; have hf10_3 : w11.frozen? ⟨go10, (x4_1 : Int).toNat * 4 + 3, none⟩ = false := hfr10 3; clear hcl10 hcc10 hfr10 hM10; replace p10 := eq_true p10; replace q10 := eq_true q10; have HX12 := Aside0.mk (show Kd.R kimplWindow 48 w11 w.heap.size (fun _ => True) (.slice (some ⟨go10, 0, none⟩) x3_1.length co10) x3_1 from (by (with_reducible repeat (first | apply Kd.R_alloc | apply Kd.R_drewN | apply Kd.R_drew)); exact HO_3.out)); obtain ⟨ce12, hcl12, hM12, hcc12, hfr12⟩ := Kd.R_elem HX12.out zimplWindow (x4_1 : Int) (of_decide_eq_true (by first | (with_reducible assumption) | assumption)) (by have h_ : (x4_1 : Int) < ((x3_1.length : Int) : Int) := of_decide_eq_true (by first | (with_reducible assumption) | assumption); first | exact h_ | (have e_ := (Kd.R_reads' HO_3.out).1; omega) | simpa using h_); obtain rfl := kimplWindow_openM hM12; have HP12 := Kd.R_seg HX12.out (x4_1 : Int) (of_decide_eq_true (by first | (with_reducible assumption) | assumption)) (by have h_ : (x4_1 : Int) < ((x3_1.length : Int) : Int) := of_decide_eq_true (by first | (with_reducible assumption) | assumption); first | exact h_ | (have e_ := (Kd.R_reads' HO_3.out).1; omega) | simpa using h_) (seg := [.int .i64 t291, .int .i64 t292, .int .i64 t293, .int .i64 t294]) (j := 0) hcl12 hcc12 (show 4 ≤ 4 from by decide) (x' := (⟨t291, t292, t293, t294⟩ : SimplWindow)) (kimplWindow_mkM _ _ _ (⟨t291, t292, t293, t294⟩ : SimplWindow) ) (fun _ hk => hk); have hx12_0 := hcc12 0 _ rfl; (try simp only [show (kimplWindow).sz = 4 from rfl, Nat.mul_one, Nat.add_zero] at hx12_0); have hf12_0 := hfr12 0; (try simp only [show (kimplWindow).sz = 4 from rfl, Nat.mul_one, Nat.add_zero] at hf12_0); have hx12_1 := hcc12 1 _ rfl; (try simp only [show (kimplWindow).sz = 4 from rfl, Nat.mul_one, Nat.add_zero] at hx12_1); have hf12_1 := hfr12 1; (try simp only [show (kimplWindow).sz = 4 from rfl, Nat.mul_one, Nat.add_zero] at hf12_1); have hx12_2 := hcc12 2 _ rfl; (try simp only [show (kimplWindow).sz = 4 from rfl, Nat.mul_one, Nat.add_zero] at hx12_2); have hf12_2 := hfr12 2; (try simp only [show (kimplWindow).sz = 4 from rfl, Nat.mul_one, Nat.add_zero] at hf12_2); have hx12_3 := hcc12 3 _ rfl; (try simp only [show (kimplWindow).sz = 4 from rfl, Nat.mul_one, Nat.add_zero] at hx12_3); have hf12_3 := hfr12 3; (try simp only [show (kimplWindow).sz = 4 from rfl, Nat.mul_one, Nat.add_zero] at hf12_3); clear hcl12 hcc12 hfr12 hM12) | ((with_reducible refine gate_store (t := 48) (p := 21) rfl ?_); refine store_event (t := 48) (p := 21) (v := ?vo_w13) (w1 := ((((w11.setCell ⟨go10, (x4_1 : Int).toNat * 4, none⟩ (.int .i64 t291)).setCell ⟨go10, (x4_1 : Int).toNat * 4 + 1, none⟩ (.int .i64 t292)).setCell ⟨go10, (x4_1 : Int).toNat * 4 + 2, none⟩ (.int .i64 t293)).setCell ⟨go10, (x4_1 : Int).toNat * 4 + 3, none⟩ (.int .i64 t294))) ?hg ?ho ?hn ?hr ?_; (case ho => rfl); (case hg => rfl); (case hn => rfl); (case hr => first | (go_simp; done) | (go_simp; rfl)); intro w13 hw; have hg : w11.grownBy w13 (some go10) := (by rw [hw]; exact HP12.2); have hp_ : Kd.R kimplWindow 48 w13 w.heap.size (fun _ => True) (.slice (some ⟨go10, 0, none⟩) x3_1.length co10) y295 := (by rw [hw, Ny295.out]; exact HP12.1); clear HP12; have n0_ := Aside0.mk (hp_); have n1_ := Aside0.mk ((by rw [hw]; exact below_set (below_set (below_set (below_set (HB.out) GB10.out) GB10.out) GB10.out) GB10.out : Below w.heap.size w w13)); clear HO_3; clear HB; have HO_3 := n0_; have HB := n1_; clear n0_ n1_; clear hg hw hp_))
                go_roundg k1
                case measure => have := HK1.out; omega
                case rel => exact ⟨(y295), (wrap64 (x4_1 + 1)), (by first | rfl | (simp; done) | (simp [*]; done)), H', ⟨by have := HK1.out; omega⟩, ⟨by (with_reducible repeat (first | apply Kd.R_alloc | apply Kd.R_drewN | apply Kd.R_drew)); exact HO_3.out⟩, ⟨by repeat (first | (with_reducible first | exact HB.out | apply below_alloc | apply pw_below_drewN | apply below_drew1) | exact HB.out)⟩⟩
              · rw [if_neg c9] at H
                exact absurd H (by simp)
            · rw [if_neg c7] at H
              exact absurd H (by simp)
          · rw [if_neg c6] at H
            have c6b0 : decide (x4_1 < (l0.length : Int)) = false := decide_eq_false c6
            clear c6
            obtain rfl := Option.some.inj H
            go_wp2
            go_ret
            exact ⟨_, by first | rfl | (simp [errW_none, errW_some] <;> rfl) | (simp [*, errW_none, errW_some] <;> rfl), by (with_reducible repeat (first | apply Kd.R_alloc | apply Kd.R_drewN | apply Kd.R_drew)); exact HO_3.out, by repeat (first | (with_reducible first | exact HB.out | apply below_alloc | apply pw_below_drewN | apply below_drew1) | exact HB.out)⟩
    · rw [if_neg c3] at H
      exact absurd H (by simp)
  · rw [if_neg c2] at H
    exact absurd H (by simp)

end Go.Proofs.Ytoomjghabiojkaa.P


/- A row of a memory, written in place: words for what a window sees. -/
namespace Go.Proofs.YtoomjghabiojkaaW.Mine
open Go.RowKit Go.Proofs.YtoomjghabiojkaaW.PrintWords
set_option linter.unusedVariables false
theorem S_row {e2 e base n c g0 : Nat} {ok : Nat → Prop} {w : World} {m : List (List Int)} (h : Kd.S (Kd.slice e2 (Kd.int .u8)) e w base ok (.slice (some ⟨g0, 0, none⟩) n c) m) (i : Nat) (hi : i < m.length) (hp : 0 < (m.getD i []).length) :
    ∃ g cap cur, w.cell? ⟨g0, i, none⟩ = some (.slice (some ⟨g, 0, none⟩) (m.getD i []).length cap) ∧ base ≤ g ∧ ok g ∧ w.heap[g]? = some (.cells cur e2 (0, 0)) ∧ (m.getD i []).length ≤ cap ∧ cap ≤ maxLen ∧ cur.size = cap ∧ cur.toList.take (m.getD i []).length = (m.getD i []).map (fun x => Value.int .u8 x) ∧
      ∀ (w1 : World) (cur' : Array Value) (row' : List Int), Kept w w1 (fun k => k = g) → w1.heap[g]? = some (.cells cur' e2 (0, 0)) → cur'.size = cap → row'.length = (m.getD i []).length → cur'.toList.take (m.getD i []).length = row'.map (fun x => Value.int .u8 x) →
        Kd.S (Kd.slice e2 (Kd.int .u8)) e w1 base ok (.slice (some ⟨g0, 0, none⟩) n c) (m.set i row') := by
  have hn : n = m.length := (Kd.S_reads' h).1
  obtain ⟨v, hcell, hR, hk, hback⟩ := S_inner rfl h (i : Int) (by omega) (by omega)
  rw [Int.toNat_natCast] at hcell hR
  have hback' := @hback
  simp only [Int.toNat_natCast] at hback'
  have ho := Kd.own_of_R hR
  rcases ho.2 with ⟨_, h0⟩ | ⟨g, cap, cur, rfl, hb, hh, hle, hmax, hsz, htk⟩
  · omega
  · simp only [Nat.mul_one] at hsz htk
    refine ⟨g, cap, cur, hcell, hb, (hk g (by simp [Value.ownBlock])).1, hh, hle, hmax, hsz, htk, ?_⟩
    intro w1 cur' row' hK hh' hsz' hl' htk'
    refine hback' (w1 := w1) (ok1 := fun _ => True) (y := row') (hK.mono (fun k hk => by subst hk; rfl)) ?_
    refine Kd.R_of_own ⟨by rw [encs_length, Nat.mul_one], .inr ⟨g, cap, cur', by rw [hl'], hb, hh', by rw [hl']; exact hle, hmax, by rw [hsz', Nat.mul_one], ?_⟩⟩ (fun _ _ => trivial)
    rw [hl', Nat.mul_one, htk']
    rfl
theorem row_cell {w : World} {g e2 : Nat} {cur : Array Value} {row : List Int} (hh : w.heap[g]? = some (.cells cur e2 (0, 0))) (ht : cur.toList.take row.length = row.map (fun x => Value.int .u8 x)) (j : Nat) (hj : j < row.length) : w.cell? ⟨g, j, none⟩ = some (.int .u8 (row.getD j 0)) := by
  rw [blk_cell hh j]
  have h1 : (cur.toList.take row.length)[j]? = cur.toList[j]? := by rw [List.getElem?_take]; simp [hj]
  rw [ht] at h1
  rw [← Array.getElem?_toList, ← h1]
  simp [hj]
theorem row_take_set {row : List Int} {l : List Value} (ht : l.take row.length = row.map (fun x => Value.int .u8 x)) (j : Nat) (b : Int) : (l.set j (.int .u8 b)).take row.length = (row.set j b).map (fun x => Value.int .u8 x) := by
  rw [List.take_set, ht, List.map_set]
def RowAt (e2 e base lo hi n c g0 : Nat) (m : List (List Int)) (i g cap : Nat) (cur : Array Value) (row : List Int) (w : World) : Prop :=
  (lo ≤ g ∧ g < hi) ∧ w.heap[g]? = some (.cells cur e2 (0, 0)) ∧ row.length ≤ cap ∧ cap ≤ maxLen ∧ cur.size = cap ∧ cur.toList.take row.length = row.map (fun x => Value.int .u8 x) ∧
    ∀ (w1 : World) (cur' : Array Value) (row' : List Int), (∀ k, lo ≤ k → k < hi → k ≠ g → w1.heap[k]? = w.heap[k]?) → w1.heap[g]? = some (.cells cur' e2 (0, 0)) → cur'.size = cap → row'.length = row.length → cur'.toList.take row.length = row'.map (fun x => Value.int .u8 x) →
      Kd.S (Kd.slice e2 (Kd.int .u8)) e w1 base (fun k => lo ≤ k ∧ k < hi) (.slice (some ⟨g0, 0, none⟩) n c) (m.set i row')
section
variable {e2 e base lo hi n c g0 : Nat} {m : List (List Int)} {i g cap : Nat} {cur : Array Value} {row : List Int} {w w1 : World}
theorem RowAt.of (h : Kd.S (Kd.slice e2 (Kd.int .u8)) e w base (fun k => lo ≤ k ∧ k < hi) (.slice (some ⟨g0, 0, none⟩) n c) m) (hi' : i < m.length) (hr : m.getD i [] = row) (hp : 0 < row.length) :
    ∃ g cap cur, w.cell? ⟨g0, i, none⟩ = some (.slice (some ⟨g, 0, none⟩) row.length cap) ∧ RowAt e2 e base lo hi n c g0 m i g cap cur row w := by
  subst hr
  obtain ⟨g, cap, cur, h1, h2, h3, h4, h5, h6, h7, h8, h9⟩ := S_row h i hi' hp
  refine ⟨g, cap, cur, h1, h3, h4, h5, h6, h7, h8, ?_⟩
  intro w1 cur' row' hk hh hs hl ht
  have hS := h9 (w.setRow g cur') cur' row' ⟨by simp [World.setRow], fun k _ hn => setRow_other w g k cur' hn⟩ (setRow_heap w g _ _ _ _ h4) hs hl ht
  refine Kd.S_move hS (fun k hk' => ?_)
  by_cases hg : k = g
  · subst hg
    exact hh.trans (setRow_heap w k _ _ _ _ h4).symm
  · rw [setRow_other w g k cur' hg]
    exact hk k hk'.1 hk'.2 hg
theorem RowAt.agree (h : RowAt e2 e base lo hi n c g0 m i g cap cur row w) (ha : Agree lo hi w w1) : RowAt e2 e base lo hi n c g0 m i g cap cur row w1 := by
  obtain ⟨h1, h2, h3, h4, h5, h6, h7⟩ := h
  exact ⟨h1, (ha g h1.1 h1.2).trans h2, h3, h4, h5, h6, fun w2 cur' row' hk => h7 w2 cur' row' (fun k hl hh hn => (hk k hl hh hn).trans (ha k hl hh))⟩
theorem RowAt.write (h : RowAt e2 e base lo hi n c g0 m i g cap cur row w) {cur' : Array Value} {row' : List Int} (hk : ∀ k, k ≠ g → w1.heap[k]? = w.heap[k]?) (hh : w1.heap[g]? = some (.cells cur' e2 (0, 0))) (hs : cur'.size = cur.size) (hl : row'.length = row.length) (ht : cur'.toList.take row.length = row'.map (fun x => Value.int .u8 x)) :
    RowAt e2 e base lo hi n c g0 m i g cap cur' row' w1 := by
  obtain ⟨h1, h2, h3, h4, h5, h6, h7⟩ := h
  refine ⟨h1, hh, by omega, h4, by omega, by rw [hl]; exact ht, fun w2 cur2 row2 hk2 hh2 hs2 hl2 ht2 => h7 w2 cur2 row2 (fun k hlo hhi hn => (hk2 k hlo hhi hn).trans (hk k hn)) hh2 hs2 (by omega) (by rw [← hl]; exact ht2)⟩
theorem RowAt.put (h : RowAt e2 e base lo hi n c g0 m i g cap cur row w) (j : Nat) (b : Int) : RowAt e2 e base lo hi n c g0 m i g cap (cur.setIfInBounds j (.int .u8 b)) (row.set j b) (w.setCell ⟨g, j, none⟩ (.int .u8 b)) := by
  refine h.write (fun k hn => Below.heap_setCell w ⟨g, j, none⟩ _ k hn) (blk_set h.2.1 j _) (by simp) (by simp) ?_
  rw [Array.toList_setIfInBounds]
  exact row_take_set h.2.2.2.2.2.1 j b
theorem RowAt.cell (h : RowAt e2 e base lo hi n c g0 m i g cap cur row w) (j : Nat) (hj : j < row.length) : w.cell? ⟨g, j, none⟩ = some (.int .u8 (row.getD j 0)) := row_cell h.2.1 h.2.2.2.2.2.1 j hj
end
end Go.Proofs.YtoomjghabiojkaaW.Mine


-- written by wip/gen_fun.py
namespace Go.Proofs.Ytoomjghabiojkaa.P
open Go.RowKit Go.Proofs.YtoomjghabiojkaaW.PrintWords Go.Proofs.YtoomjghabiojkaaW.PrintLast Go.Proofs.YtoomjghabiojkaaW.PrintMore Go.Proofs.YtoomjghabiojkaaW.Mine
open List (setIfInBounds_toArray set_cons_zero set_cons_succ)
attribute [local go_sem] max2_int min2_int max_two min_two max_three min_three max_four min_four
set_option linter.unusedVariables false
set_option linter.unusedSimpArgs false
set_option maxHeartbeats 8000000 in
set_option maxRecDepth 100000 in
theorem laws_eqWindow_w0 (a0_0 : Int) (a0_1 : Int) (a0_2 : Int) (a0_3 : Int) (a1_0 : Int) (a1_1 : Int) (a1_2 : Int) (a1_3 : Int) (w : World) (T0 : (a0_0 != a1_0) = false) (T1 : (a0_1 != a1_1) = false) (T2 : (a0_2 != a1_2) = false) (T3 : (a0_3 != a1_3) = false) :
    Calls Try.prog 43 #[.agg #[.int .i64 a0_0, .int .i64 a0_1, .int .i64 a0_2, .int .i64 a0_3], .agg #[.int .i64 a1_0, .int .i64 a1_1, .int .i64 a1_2, .int .i64 a1_3]] w fun e w' => e = .returned (.bool true) ∧ Below w.heap.size w w' := by
  have HS0 : Aside0 (Stk w [] w) := ⟨Stk.nil w⟩
  go_enter Try.func43, Try.ntmps43
  go_wp2_with (first | ((with_reducible refine gate_dst (N := 2) rfl ?_); refine box_event ?hg (N := 2) ?hd (cs := #[.int .i64 a0_0, .int .i64 a0_1, .int .i64 a0_2, .int .i64 a0_3]) (t := 48) ?hr ?_; (case hd => rfl); (case hg => rfl); (case hr => first | (go_simp; done) | (go_simp; rfl)); intro g1 hg w1 hbox hb; have HS1 := Aside0.mk (HS0.out.box hb hg hbox); clear hb hbox hg HS0) | ((with_reducible refine gate_dst (N := 3) rfl ?_); refine box_event ?hg (N := 3) ?hd (cs := #[.int .i64 a1_0, .int .i64 a1_1, .int .i64 a1_2, .int .i64 a1_3]) (t := 48) ?hr ?_; (case hd => rfl); (case hg => rfl); (case hr => first | (go_simp; done) | (go_simp; rfl)); intro g2 hg w2 hbox hb; have HS2 := Aside0.mk (HS1.out.box hb hg hbox); clear hb hbox hg HS1; have B2_g1 : bx g1 #[.int .i64 a0_0, .int .i64 a0_1, .int .i64 a0_2, .int .i64 a0_3] 48 w2 := HS2.out.get 1 rfl; have hcz2_g1_0 : (w2).cell? ⟨g1, 0, none⟩ = some (.int .i64 a0_0) := (blk_cell B2_g1 0).trans rfl; have hfz2_g1_0 := blk_frozen B2_g1 0; have hcz2_g1_1 : (w2).cell? ⟨g1, 1, none⟩ = some (.int .i64 a0_1) := (blk_cell B2_g1 1).trans rfl; have hfz2_g1_1 := blk_frozen B2_g1 1; have hcz2_g1_2 : (w2).cell? ⟨g1, 2, none⟩ = some (.int .i64 a0_2) := (blk_cell B2_g1 2).trans rfl; have hfz2_g1_2 := blk_frozen B2_g1 2; have hcz2_g1_3 : (w2).cell? ⟨g1, 3, none⟩ = some (.int .i64 a0_3) := (blk_cell B2_g1 3).trans rfl; have hfz2_g1_3 := blk_frozen B2_g1 3; clear B2_g1; have B2_g2 : bx g2 #[.int .i64 a1_0, .int .i64 a1_1, .int .i64 a1_2, .int .i64 a1_3] 48 w2 := HS2.out.get 0 rfl; have hcz2_g2_0 : (w2).cell? ⟨g2, 0, none⟩ = some (.int .i64 a1_0) := (blk_cell B2_g2 0).trans rfl; have hfz2_g2_0 := blk_frozen B2_g2 0; have hcz2_g2_1 : (w2).cell? ⟨g2, 1, none⟩ = some (.int .i64 a1_1) := (blk_cell B2_g2 1).trans rfl; have hfz2_g2_1 := blk_frozen B2_g2 1; have hcz2_g2_2 : (w2).cell? ⟨g2, 2, none⟩ = some (.int .i64 a1_2) := (blk_cell B2_g2 2).trans rfl; have hfz2_g2_2 := blk_frozen B2_g2 2; have hcz2_g2_3 : (w2).cell? ⟨g2, 3, none⟩ = some (.int .i64 a1_3) := (blk_cell B2_g2 3).trans rfl; have hfz2_g2_3 := blk_frozen B2_g2 3; clear B2_g2))
  go_ret
  exact ⟨by first | rfl | simp, HS2.out.hb⟩
end Go.Proofs.Ytoomjghabiojkaa.P


/- eqWindow, as far as the laws need it: equal Windows are equal. -/
namespace Go.Proofs.Ytoomjghabiojkaa.P
open Go.RowKit Go.Proofs.YtoomjghabiojkaaW.PrintWords
set_option linter.unusedVariables false
def laws_eqWindow.f (a0_0 a0_1 a0_2 a0_3 a1_0 a1_1 a1_2 a1_3 : Int) : Option Bool := if a0_0 = a1_0 ∧ a0_1 = a1_1 ∧ a0_2 = a1_2 ∧ a0_3 = a1_3 then some true else none
theorem laws_eqWindow.calls (a0_0 : Int) (a0_1 : Int) (a0_2 : Int) (a0_3 : Int) (a1_0 : Int) (a1_1 : Int) (a1_2 : Int) (a1_3 : Int) (r : Bool) (w : World) (h : laws_eqWindow.f a0_0 a0_1 a0_2 a0_3 a1_0 a1_1 a1_2 a1_3 = some r) :
    Calls Try.prog 43 #[.agg #[.int .i64 a0_0, .int .i64 a0_1, .int .i64 a0_2, .int .i64 a0_3], .agg #[.int .i64 a1_0, .int .i64 a1_1, .int .i64 a1_2, .int .i64 a1_3]] w fun e w' => e = .returned (.bool r) ∧ Below w.heap.size w w' := by
  unfold laws_eqWindow.f at h
  split at h
  next hh =>
    obtain rfl := Option.some.inj h
    obtain ⟨rfl, rfl, rfl, rfl⟩ := hh
    exact laws_eqWindow_w0 _ _ _ _ _ _ _ _ w (by simp) (by simp) (by simp) (by simp)
  next => cases h
end Go.Proofs.Ytoomjghabiojkaa.P


namespace Go.Proofs.Ytoomjghabiojkaa.P
open Go.RowKit Go.Proofs.YtoomjghabiojkaaW.PrintWords Go.Proofs.YtoomjghabiojkaaW.PrintLast Go.Proofs.YtoomjghabiojkaaW.PrintMore
attribute [local go_sem] max2_int min2_int max_two min_two max_three min_three max_four min_four   -- for this text's walks alone
set_option linter.unusedVariables false
set_option linter.unusedSimpArgs false

def laws_szWindowS.f (l0 : List (SlawsWindow)) (a1 : Int) : Option (Int) := if (wrap64 (a1 - (l0.length : Int))) < 0 then (some (-1)) else (some (wrap64 (a1 - (l0.length : Int))))
set_option maxHeartbeats 8000000 in
set_option maxRecDepth 100000 in
theorem laws_szWindowS.calls (A0 : Option Addr) (c0 : Nat) (l0 : List (SlawsWindow)) (a1 : Int) (r : Int) (w : World) (hr0 : Kd.C klawsWindow w A0 l0.length l0) (hc0 : l0.length ≤ c0) (h : laws_szWindowS.f l0 a1 = some r) :
    Calls Try.prog 80 #[.slice A0 l0.length c0, .int .i64 a1] w fun e w' => e = .returned (.int .i64 r) ∧ Drawn0 w w' := by
  have HR0 := Aside0.mk hr0
  have HC0 := Aside0.mk hc0
  clear hr0 hc0
  have H : (if (wrap64 (a1 - (l0.length : Int))) < 0 then (some (-1)) else (some (wrap64 (a1 - (l0.length : Int))))) = some r := h
  clear h
  by_cases c3 : (wrap64 (a1 - (l0.length : Int))) < 0
  · rw [if_pos c3] at H
    have c3b0 : decide ((wrap64 (a1 - (l0.length : Int))) < 0) = true := decide_eq_true c3
    clear c3
    obtain rfl := Option.some.inj H
    go_enter Try.func80, Try.ntmps80
    go_wp2
    go_ret
    exact ⟨by first | rfl | (simp; done) | (simp [*]; done), by repeat (first | exact Drawn0.refl _ | apply Drawn0.step)⟩
  · rw [if_neg c3] at H
    have c3b0 : decide ((wrap64 (a1 - (l0.length : Int))) < 0) = false := decide_eq_false c3
    clear c3
    obtain rfl := Option.some.inj H
    go_enter Try.func80, Try.ntmps80
    go_wp2
    go_ret
    exact ⟨by first | rfl | (simp; done) | (simp [*]; done), by repeat (first | exact Drawn0.refl _ | apply Drawn0.step)⟩

end Go.Proofs.Ytoomjghabiojkaa.P


/- What the printed functions over lists of windows come to. -/
namespace Go.Proofs.Ytoomjghabiojkaa.P
open Go.RowKit Go.Proofs.YtoomjghabiojkaaW.PrintWords
set_option linter.unusedVariables false
def winOf (x : SlawsWindow) : SimplWindow := ⟨x.f0, x.f1, x.f2, x.f3⟩
theorem szWindowS_f (l : List SlawsWindow) (a : Int) (h0 : 0 ≤ a) (h1 : a ≤ 1048576) (hl : l.length ≤ 9223372036854775807) :
    laws_szWindowS.f l a = some (if (l.length : Int) ≤ a then a - l.length else -1) := by
  unfold laws_szWindowS.f
  rw [wrap_ok (by omega) (by omega)]
  by_cases h : (l.length : Int) ≤ a
  · rw [if_neg (by omega), if_pos h]
  · rw [if_pos (by omega), if_neg h]
theorem rdLW_mid (pre : List SlawsWindow) (x : SlawsWindow) (suf : List SlawsWindow) : rd_TlawsWindow (pre ++ x :: suf) (pre.length : Int) = x := by
  unfold rd_TlawsWindow
  simp
theorem rdW_mid (pre : List SimplWindow) (x : SimplWindow) (suf : List SimplWindow) : rd_TimplWindow (pre ++ x :: suf) (pre.length : Int) = x := by
  unfold rd_TimplWindow
  simp
theorem toWindowS_ev (suf : List SlawsWindow) : ∀ (pre : List SlawsWindow) (zs : List SimplWindow), zs.length = suf.length → pre.length + suf.length ≤ 4611686018427387904 →
    Ev (fun k => laws_toWindowS.l0 k (pre ++ suf) (pre.map winOf ++ zs) (pre.length : Int)) ((pre ++ suf).map winOf) := by
  induction suf with
  | nil =>
    intro pre zs hz h2
    obtain rfl : zs = [] := List.eq_nil_of_length_eq_zero hz
    refine Ev.step (fun k => ?_) (Ev.now _)
    simp [laws_toWindowS.l0]
  | cons x suf ih =>
    intro pre zs hz h2
    obtain ⟨z, zs, rfl⟩ : ∃ z zs', zs = z :: zs' := by
      cases zs with
      | nil => simp at hz
      | cons z zs => exact ⟨z, zs, rfl⟩
    simp only [List.length_cons] at h2 hz
    refine Ev.step (f := fun k => laws_toWindowS.l0 k ((pre ++ [x]) ++ suf) ((pre ++ [x]).map winOf ++ zs) ((pre ++ [x]).length : Int)) (fun k => ?_) ?_
    · simp only [laws_toWindowS.l0, laws_toWindow.f, Option.bind_some]
      rw [if_pos (by simp; omega), if_pos (by omega), if_pos (by simp; omega), rdLW_mid, wrap_len (by omega)]
      have := set_mid (pre.map winOf) z (⟨x.f0, x.f1, x.f2, x.f3⟩ : SimplWindow) zs
      rw [List.length_map] at this
      rw [Int.toNat_natCast, this]
      simp [winOf]
    · have := ih (pre ++ [x]) zs (by omega) (by simp; omega)
      simpa using this
theorem toWindowS_f (l : List SlawsWindow) (h : l.length ≤ 1048576) : Ev (fun k => laws_toWindowS.f k l) (l.map winOf) := by
  refine Ev.congr (fun k => ?_) (toWindowS_ev l [] (List.replicate l.length zimplWindow) (by simp) (by simp; omega))
  unfold laws_toWindowS.f
  rw [if_pos (by omega), if_pos (by simp; omega)]
  simp
theorem eqWindow_f (a b c d : Int) : laws_eqWindow.f a b c d a b c d = some true := by
  exact if_pos ⟨rfl, rfl, rfl, rfl⟩
end Go.Proofs.Ytoomjghabiojkaa.P


namespace Go.Proofs.Ytoomjghabiojkaa.P
open Go.RowKit Go.Proofs.YtoomjghabiojkaaW.PrintWords Go.Proofs.YtoomjghabiojkaaW.PrintLast Go.Proofs.YtoomjghabiojkaaW.PrintMore
attribute [local go_sem] max2_int min2_int max_two min_two max_three min_three max_four min_four   -- for this text's walks alone
set_option linter.unusedVariables false
set_option linter.unusedSimpArgs false

def laws_eqWindowS.l0 : Nat → List (SimplWindow) → List (SimplWindow) → Int → Option (Bool)
  | 0, _, _, _ => none
  | k + 1, x0, x1, x5 => if x5 < (x0.length : Int) then (if 0 ≤ x5 then (if x5 < (x1.length : Int) then ((laws_eqWindow.f ((rd_TimplWindow x0 x5).f0) ((rd_TimplWindow x0 x5).f1) ((rd_TimplWindow x0 x5).f2) ((rd_TimplWindow x0 x5).f3) ((rd_TimplWindow x1 x5).f0) ((rd_TimplWindow x1 x5).f1) ((rd_TimplWindow x1 x5).f2) ((rd_TimplWindow x1 x5).f3)).bind fun t185 => (if t185 = true then (laws_eqWindowS.l0 k x0 x1 (wrap64 (x5 + 1))) else (some false))) else (none)) else (none)) else (some true)
def laws_eqWindowS.f (k : Nat) (l0 : List (SimplWindow)) (l1 : List (SimplWindow)) : Option (Bool) := if (l0.length : Int) = (l1.length : Int) then (laws_eqWindowS.l0 k l0 l1 0) else (some false)
def laws_eqWindowS.T6 : Bool × List (List Nat × List Nat) := (true, [([], []), ([], []), ([0, 1], [0, 1]), ([2], [2]), ([], []), ([], []), ([4, 5], [4, 5]), ([6], [6]), ([3, 7], [3, 7]), ([8], [8])])
def laws_eqWindowS.B6 : List Nat := [0, 0, 3, 7, 0, 0, 48, 112, 255, 511]
theorem laws_eqWindowS.tab6 : rtab .any (opsOf Try.f77 6) = laws_eqWindowS.T6 := by kernel_rfl
theorem laws_eqWindowS.bits6 : waitsOk laws_eqWindowS.T6.2 laws_eqWindowS.B6 = true := by kernel_rfl
set_option maxHeartbeats 8000000 in
set_option maxRecDepth 100000 in
theorem laws_eqWindowS.calls (k : Nat) (A0 : Option Addr) (c0 : Nat) (l0 : List (SimplWindow)) (A1 : Option Addr) (c1 : Nat) (l1 : List (SimplWindow)) (r : Bool) (w : World) (hr0 : Kd.C kimplWindow w A0 l0.length l0) (hc0 : l0.length ≤ c0) (hr1 : Kd.C kimplWindow w A1 l1.length l1) (hc1 : l1.length ≤ c1) (h : laws_eqWindowS.f k l0 l1 = some r) :
    Calls Try.prog 77 #[.slice A0 l0.length c0, .slice A1 l1.length c1] w fun e w' => e = .returned (.bool r) ∧ Below w.heap.size w w' := by
  have hu48 := Try.underlying48
  have HR0 := Aside0.mk hr0
  have HC0 := Aside0.mk hc0
  clear hr0 hc0
  have HR1 := Aside0.mk hr1
  have HC1 := Aside0.mk hc1
  clear hr1 hc1
  have HB := Aside0.mk (Below.refl w.heap.size w)
  have H : (if (l0.length : Int) = (l1.length : Int) then (laws_eqWindowS.l0 k l0 l1 0) else (some false)) = some r := h
  clear h
  by_cases c3 : (l0.length : Int) = (l1.length : Int)
  · rw [if_pos c3] at H
    have c3b0 : ((l0.length : Int) == (l1.length : Int)) = true := beq_iff_eq.mpr c3
    have c3b1 : ((l0.length : Int) != (l1.length : Int)) = false := bne_eq_false_iff_eq.mpr c3
    have c3b2 : (l0.length == l1.length) = true := by first | simpa using c3 | (simp at c3 ⊢; omega)
    clear c3
    have H' := Aside0.mk H
    clear H
    go_enter Try.func77, Try.ntmps77
    go_wp2
    go_loopg [5] k (fun kq v5 w' => ∃ (x5_1 : Int), v5 = .int .i64 x5_1 ∧ Aside0 (laws_eqWindowS.l0 kq l0 l1 x5_1 = some r) ∧ Aside0 (kq ≤ k) ∧ Aside0 (Below w.heap.size w w'))
    case atStart => exact ⟨(0), (by first | rfl | (simp; done) | (simp [*]; done)), H', ⟨Nat.le_refl _⟩, ⟨by repeat (first | (with_reducible first | exact HB.out | apply below_alloc | apply pw_below_drewN | apply below_drew1) | exact HB.out)⟩⟩
    case round =>
      clear H'
      try clear c1
      try clear p2
      try clear c3
      try clear c3b0
      try clear c3b1
      try clear c3b2
      obtain ⟨x5_1, rfl, HA, HK1, HB⟩ := hrel
      cases gk with
      | zero => exact absurd HA.out (by simp [laws_eqWindowS.l0])
      | succ k1 =>
        have H := HA.out
        clear HA
        simp only [laws_eqWindowS.l0] at H
        by_cases c4 : x5_1 < (l0.length : Int)
        · rw [if_pos c4] at H
          have c4b0 : decide (x5_1 < (l0.length : Int)) = true := decide_eq_true c4
          clear c4
          by_cases c5 : 0 ≤ x5_1
          · rw [if_pos c5] at H
            have c5b0 : decide (0 ≤ x5_1) = true := decide_eq_true c5
            clear c5
            by_cases c6 : x5_1 < (l1.length : Int)
            · rw [if_pos c6] at H
              have c6b0 : decide (x5_1 < (l1.length : Int)) = true := decide_eq_true c6
              clear c6
              replace H := Option.bind_eq_some_iff.mp H
              obtain ⟨t185, A70, H⟩ := H
              replace H : (if t185 = true then (laws_eqWindowS.l0 k1 l0 l1 (wrap64 (x5_1 + 1))) else (some false)) = some r := H
              have A7 := Aside0.mk A70
              clear A70
              by_cases c8 : t185 = true
              · subst c8
                have H1 : (laws_eqWindowS.l0 k1 l0 l1 (wrap64 (x5_1 + 1))) = some r := by rw [if_pos rfl] at H; exact H
                clear H
                have H := H1
                clear H1
                have H' := Aside0.mk H
                clear H
                try go_wp2
                have n0_ := Aside0.mk (below_drew1 HB.out)
                clear HB
                have HB := n0_
                clear n0_
                have p183 : 0 ≤ (x5_1 : Int) := of_decide_eq_true (by first | (with_reducible assumption) | assumption)
                have q183 : x5_1 < (l0.length : Int) := of_decide_eq_true (by first | (with_reducible assumption) | assumption)
                obtain ⟨ad183, e183, hx183_0, hx183_1, hx183_2, hx183_3⟩ := at_TimplWindow HR0.out x5_1 p183 q183
                have hw183_3 := hx183_3
                have hw183_2 := hx183_2
                have hw183_1 := hx183_1
                have hw183_0 := hx183_0
                cases e183
                replace hx183_0 := (HB.out.cell (World.block_lt_of_cell? w _ hx183_0)).trans hx183_0
                replace hx183_1 := (HB.out.cell (World.block_lt_of_cell? w _ hx183_1)).trans hx183_1
                replace hx183_2 := (HB.out.cell (World.block_lt_of_cell? w _ hx183_2)).trans hx183_2
                replace hx183_3 := (HB.out.cell (World.block_lt_of_cell? w _ hx183_3)).trans hx183_3
                replace p183 := eq_true p183
                replace q183 := eq_true q183
                have p184 : 0 ≤ (x5_1 : Int) := of_decide_eq_true (by first | (with_reducible assumption) | assumption)
                have q184 : x5_1 < (l1.length : Int) := of_decide_eq_true (by first | (with_reducible assumption) | assumption)
                obtain ⟨ad184, e184, hx184_0, hx184_1, hx184_2, hx184_3⟩ := at_TimplWindow HR1.out x5_1 p184 q184
                have hw184_3 := hx184_3
                have hw184_2 := hx184_2
                have hw184_1 := hx184_1
                have hw184_0 := hx184_0
                cases e184
                replace hx184_0 := (HB.out.cell (World.block_lt_of_cell? w _ hx184_0)).trans hx184_0
                replace hx184_1 := (HB.out.cell (World.block_lt_of_cell? w _ hx184_1)).trans hx184_1
                replace hx184_2 := (HB.out.cell (World.block_lt_of_cell? w _ hx184_2)).trans hx184_2
                replace hx184_3 := (HB.out.cell (World.block_lt_of_cell? w _ hx184_3)).trans hx184_3
                replace p184 := eq_true p184
                replace q184 := eq_true q184
                refine start_ (n := 10) (S := fun w' => w'.cell? (ad183.add ((x5_1).toNat * 4)) = some (.int .i64 ((rd_TimplWindow l0 x5_1).f0)) ∧ w'.cell? ⟨(ad183.add ((x5_1).toNat * 4)).block, (ad183.add ((x5_1).toNat * 4)).off + 1, none⟩ = some (.int .i64 ((rd_TimplWindow l0 x5_1).f1)) ∧ w'.cell? ⟨(ad183.add ((x5_1).toNat * 4)).block, (ad183.add ((x5_1).toNat * 4)).off + 2, none⟩ = some (.int .i64 ((rd_TimplWindow l0 x5_1).f2)) ∧ w'.cell? ⟨(ad183.add ((x5_1).toNat * 4)).block, (ad183.add ((x5_1).toNat * 4)).off + 3, none⟩ = some (.int .i64 ((rd_TimplWindow l0 x5_1).f3)) ∧ w'.cell? (ad184.add ((x5_1).toNat * 4)) = some (.int .i64 ((rd_TimplWindow l1 x5_1).f0)) ∧ w'.cell? ⟨(ad184.add ((x5_1).toNat * 4)).block, (ad184.add ((x5_1).toNat * 4)).off + 1, none⟩ = some (.int .i64 ((rd_TimplWindow l1 x5_1).f1)) ∧ w'.cell? ⟨(ad184.add ((x5_1).toNat * 4)).block, (ad184.add ((x5_1).toNat * 4)).off + 2, none⟩ = some (.int .i64 ((rd_TimplWindow l1 x5_1).f2)) ∧ w'.cell? ⟨(ad184.add ((x5_1).toNat * 4)).block, (ad184.add ((x5_1).toNat * 4)).off + 3, none⟩ = some (.int .i64 ((rd_TimplWindow l1 x5_1).f3))) (ds := []) #[false, false, false, false, false, false, false, false, false, false] (by kernel_rfl) rfl rfl ⟨(by have h_ := ((HB.out.cell (World.block_lt_of_cell? w _ hw183_0)).trans hw183_0); first | exact h_ | (simp only [*] at h_; exact h_) | (simp [*]; done) | simpa [*] using h_), (by have h_ := ((HB.out.cell (World.block_lt_of_cell? w _ hw183_1)).trans hw183_1); first | exact h_ | (simp only [*] at h_; exact h_) | (simp [*]; done) | simpa [*] using h_), (by have h_ := ((HB.out.cell (World.block_lt_of_cell? w _ hw183_2)).trans hw183_2); first | exact h_ | (simp only [*] at h_; exact h_) | (simp [*]; done) | simpa [*] using h_), (by have h_ := ((HB.out.cell (World.block_lt_of_cell? w _ hw183_3)).trans hw183_3); first | exact h_ | (simp only [*] at h_; exact h_) | (simp [*]; done) | simpa [*] using h_), (by have h_ := ((HB.out.cell (World.block_lt_of_cell? w _ hw184_0)).trans hw184_0); first | exact h_ | (simp only [*] at h_; exact h_) | (simp [*]; done) | simpa [*] using h_), (by have h_ := ((HB.out.cell (World.block_lt_of_cell? w _ hw184_1)).trans hw184_1); first | exact h_ | (simp only [*] at h_; exact h_) | (simp [*]; done) | simpa [*] using h_), (by have h_ := ((HB.out.cell (World.block_lt_of_cell? w _ hw184_2)).trans hw184_2); first | exact h_ | (simp only [*] at h_; exact h_) | (simp [*]; done) | simpa [*] using h_), (by have h_ := ((HB.out.cell (World.block_lt_of_cell? w _ hw184_3)).trans hw184_3); first | exact h_ | (simp only [*] at h_; exact h_) | (simp [*]; done) | simpa [*] using h_)⟩ (fun hHeld => ?_); refine with_tabW laws_eqWindowS.tab6 laws_eqWindowS.bits6 (fun HT_ HW_ => ?_)
                generalize wr.drew = w9 at HB hx183_0 hx183_1 hx183_2 hx183_3 hx184_0 hx184_1 hx184_2 hx184_3 hHeld ⊢
                refine pure_ (i := 0) (N := some 17) (v := ?_) (a' := ?_) #[true, false, false, false, false, false, false, false, false, false] rfl rfl (any_of HT_.out (by kernel_rfl)) (fun _ _ _ h => h) (Or.inl ⟨by rfl, ?_⟩) ?_ ?_
                rotate_left
                · intro w'
                  go_simp
                  with_reducible rfl
                rotate_left
                · simp only [Act.put, List.setIfInBounds_toArray, List.set_cons_zero, List.set_cons_succ, i64_w, i32_w]
                  rfl
                refine pure_ (i := 1) (N := some 18) (v := ?_) (a' := ?_) #[true, true, false, false, false, false, false, false, false, false] rfl rfl (any_of HT_.out (by kernel_rfl)) (fun _ _ _ h => h) (Or.inl ⟨by rfl, ?_⟩) ?_ ?_
                rotate_left
                · intro w'
                  go_simp
                  with_reducible rfl
                rotate_left
                · simp only [Act.put, List.setIfInBounds_toArray, List.set_cons_zero, List.set_cons_succ, i64_w, i32_w]
                  rfl
                refine pure_ (i := 2) (N := some 19) (v := ?_) (a' := ?_) #[true, true, true, false, false, false, false, false, false, false] rfl rfl (any_of HT_.out (by kernel_rfl)) (fun _ _ _ h => h) (Or.inl ⟨by rfl, ?_⟩) ?_ ?_
                rotate_left
                · intro w'
                  go_simp
                  with_reducible rfl
                rotate_left
                · simp only [Act.put, List.setIfInBounds_toArray, List.set_cons_zero, List.set_cons_succ, i64_w, i32_w]
                  rfl
                refine pure_ (i := 4) (N := some 21) (v := ?_) (a' := ?_) #[true, true, true, false, true, false, false, false, false, false] rfl rfl (any_of HT_.out (by kernel_rfl)) (fun _ _ _ h => h) (Or.inl ⟨by rfl, ?_⟩) ?_ ?_
                rotate_left
                · intro w'
                  go_simp
                  with_reducible rfl
                rotate_left
                · simp only [Act.put, List.setIfInBounds_toArray, List.set_cons_zero, List.set_cons_succ, i64_w, i32_w]
                  rfl
                refine pure_ (i := 5) (N := some 22) (v := ?_) (a' := ?_) #[true, true, true, false, true, true, false, false, false, false] rfl rfl (any_of HT_.out (by kernel_rfl)) (fun _ _ _ h => h) (Or.inl ⟨by rfl, ?_⟩) ?_ ?_
                rotate_left
                · intro w'
                  go_simp
                  with_reducible rfl
                rotate_left
                · simp only [Act.put, List.setIfInBounds_toArray, List.set_cons_zero, List.set_cons_succ, i64_w, i32_w]
                  rfl
                refine pure_ (i := 6) (N := some 23) (v := ?_) (a' := ?_) #[true, true, true, false, true, true, true, false, false, false] rfl rfl (any_of HT_.out (by kernel_rfl)) (fun _ _ _ h => h) (Or.inl ⟨by rfl, ?_⟩) ?_ ?_
                rotate_left
                · intro w'
                  go_simp
                  with_reducible rfl
                rotate_left
                · simp only [Act.put, List.setIfInBounds_toArray, List.set_cons_zero, List.set_cons_succ, i64_w, i32_w]
                  rfl
                refine take_ (i := 3) (N := some 20) (v := ?_) (a' := ?_) #[true, true, true, true, true, true, true, false, false, false] rfl rfl (take_ofW HT_.out HW_.out (by kernel_rfl)) (fun _ _ _ h => h) (Or.inl ⟨by rfl, ?_⟩) hHeld ?_ ?_
                rotate_left
                · rintro w' ⟨s0, s1, s2, s3, s4, s5, s6, s7⟩
                  go_simp
                  with_reducible rfl
                rotate_left
                · simp only [Act.put, List.setIfInBounds_toArray, List.set_cons_zero, List.set_cons_succ, i64_w, i32_w]
                  rfl
                refine take_ (i := 7) (N := some 24) (v := ?_) (a' := ?_) #[true, true, true, true, true, true, true, true, false, false] rfl rfl (take_ofW HT_.out HW_.out (by kernel_rfl)) (fun _ _ _ h => h) (Or.inl ⟨by rfl, ?_⟩) hHeld ?_ ?_
                rotate_left
                · rintro w' ⟨s0, s1, s2, s3, s4, s5, s6, s7⟩
                  go_simp
                  with_reducible rfl
                rotate_left
                · simp only [Act.put, List.setIfInBounds_toArray, List.set_cons_zero, List.set_cons_succ, i64_w, i32_w]
                  rfl
                refine one_ (i := 8) (N := some 25) #[true, true, true, true, true, true, true, true, true, false] rfl rfl (one_of HT_.out (by kernel_rfl)) (by decide) (fun K hK => ?_)
                refine goes_ Try.func43 (by kernel_rfl) rfl #[.agg #[.int .i64 ((rd_TimplWindow l0 x5_1).f0), .int .i64 ((rd_TimplWindow l0 x5_1).f1), .int .i64 ((rd_TimplWindow l0 x5_1).f2), .int .i64 ((rd_TimplWindow l0 x5_1).f3)], .agg #[.int .i64 ((rd_TimplWindow l1 x5_1).f0), .int .i64 ((rd_TimplWindow l1 x5_1).f1), .int .i64 ((rd_TimplWindow l1 x5_1).f2), .int .i64 ((rd_TimplWindow l1 x5_1).f3)]] (by rfl) rfl rfl (by (try simp only [List.map_toArray, List.map_cons, List.map_nil]); first | done | rfl | (simp only [List.length_drop, List.length_take]; rfl)) ?_
                with_reducible refine (laws_eqWindow.calls ((rd_TimplWindow l0 x5_1).f0) ((rd_TimplWindow l0 x5_1).f1) ((rd_TimplWindow l0 x5_1).f2) ((rd_TimplWindow l0 x5_1).f3) ((rd_TimplWindow l1 x5_1).f0) ((rd_TimplWindow l1 x5_1).f1) ((rd_TimplWindow l1 x5_1).f2) ((rd_TimplWindow l1 x5_1).f3) true _ A7.out).mono ?_
                rintro e w10 ⟨rfl, hb⟩
                refine ⟨_, rfl, ?_⟩
                have n0_ := Aside0.mk (below_step (by repeat (first | (with_reducible first | exact HB.out | apply below_alloc | apply pw_below_drewN | apply below_drew1) | exact HB.out)) hb)
                clear HB
                have HB := n0_
                clear n0_
                (try clear hb)
                (try clear hb2)
                (try clear hk)
                (try clear hi)
                refine hK.out _ _ ⟨(by have h_ := ((HB.out.cell (World.block_lt_of_cell? w _ hw183_0)).trans hw183_0); first | exact h_ | (simp only [*] at h_; exact h_) | (simp [*]; done) | simpa [*] using h_), (by have h_ := ((HB.out.cell (World.block_lt_of_cell? w _ hw183_1)).trans hw183_1); first | exact h_ | (simp only [*] at h_; exact h_) | (simp [*]; done) | simpa [*] using h_), (by have h_ := ((HB.out.cell (World.block_lt_of_cell? w _ hw183_2)).trans hw183_2); first | exact h_ | (simp only [*] at h_; exact h_) | (simp [*]; done) | simpa [*] using h_), (by have h_ := ((HB.out.cell (World.block_lt_of_cell? w _ hw183_3)).trans hw183_3); first | exact h_ | (simp only [*] at h_; exact h_) | (simp [*]; done) | simpa [*] using h_), (by have h_ := ((HB.out.cell (World.block_lt_of_cell? w _ hw184_0)).trans hw184_0); first | exact h_ | (simp only [*] at h_; exact h_) | (simp [*]; done) | simpa [*] using h_), (by have h_ := ((HB.out.cell (World.block_lt_of_cell? w _ hw184_1)).trans hw184_1); first | exact h_ | (simp only [*] at h_; exact h_) | (simp [*]; done) | simpa [*] using h_), (by have h_ := ((HB.out.cell (World.block_lt_of_cell? w _ hw184_2)).trans hw184_2); first | exact h_ | (simp only [*] at h_; exact h_) | (simp [*]; done) | simpa [*] using h_), (by have h_ := ((HB.out.cell (World.block_lt_of_cell? w _ hw184_3)).trans hw184_3); first | exact h_ | (simp only [*] at h_; exact h_) | (simp [*]; done) | simpa [*] using h_)⟩ (fun hHeld => ?_)
                clear hK K
                refine norm_ (a' := ?_) ?_ ?_
                rotate_left
                · show Act.put _ (some 25) _ = _
                  simp only [Act.put, List.setIfInBounds_toArray, List.set_cons_zero, List.set_cons_succ, i64_w, i32_w]
                  rfl
                refine pure_ (i := 9) (N := some 26) (v := ?_) (a' := ?_) #[true, true, true, true, true, true, true, true, true, true] rfl rfl (any_of HT_.out (by kernel_rfl)) (fun _ _ _ h => h) (Or.inl ⟨by rfl, ?_⟩) ?_ ?_
                rotate_left
                · intro w'
                  go_simp
                  with_reducible rfl
                rotate_left
                · simp only [Act.put, List.setIfInBounds_toArray, List.set_cons_zero, List.set_cons_succ, i64_w, i32_w]
                  rfl
                refine done_ (done_of HT_.out (by kernel_rfl)) ?_
                try go_wp2
                go_roundg k1
                case measure => have := HK1.out; omega
                case rel => exact ⟨(wrap64 (x5_1 + 1)), (by first | rfl | (simp; done) | (simp [*]; done)), H', ⟨by have := HK1.out; omega⟩, ⟨by repeat (first | (with_reducible first | exact HB.out | apply below_alloc | apply pw_below_drewN | apply below_drew1) | exact HB.out)⟩⟩
              · replace c8 := Bool.eq_false_iff.mpr c8
                subst c8
                have H1 : (some false) = some r := by rw [if_neg (show ¬ (false = true) by decide)] at H; exact H
                clear H
                have H := H1
                clear H1
                obtain rfl := Option.some.inj H
                try go_wp2
                have n0_ := Aside0.mk (below_drew1 HB.out)
                clear HB
                have HB := n0_
                clear n0_
                have p183 : 0 ≤ (x5_1 : Int) := of_decide_eq_true (by first | (with_reducible assumption) | assumption)
                have q183 : x5_1 < (l0.length : Int) := of_decide_eq_true (by first | (with_reducible assumption) | assumption)
                obtain ⟨ad183, e183, hx183_0, hx183_1, hx183_2, hx183_3⟩ := at_TimplWindow HR0.out x5_1 p183 q183
                have hw183_3 := hx183_3
                have hw183_2 := hx183_2
                have hw183_1 := hx183_1
                have hw183_0 := hx183_0
                cases e183
                replace hx183_0 := (HB.out.cell (World.block_lt_of_cell? w _ hx183_0)).trans hx183_0
                replace hx183_1 := (HB.out.cell (World.block_lt_of_cell? w _ hx183_1)).trans hx183_1
                replace hx183_2 := (HB.out.cell (World.block_lt_of_cell? w _ hx183_2)).trans hx183_2
                replace hx183_3 := (HB.out.cell (World.block_lt_of_cell? w _ hx183_3)).trans hx183_3
                replace p183 := eq_true p183
                replace q183 := eq_true q183
                have p184 : 0 ≤ (x5_1 : Int) := of_decide_eq_true (by first | (with_reducible assumption) | assumption)
                have q184 : x5_1 < (l1.length : Int) := of_decide_eq_true (by first | (with_reducible assumption) | assumption)
                obtain ⟨ad184, e184, hx184_0, hx184_1, hx184_2, hx184_3⟩ := at_TimplWindow HR1.out x5_1 p184 q184
                have hw184_3 := hx184_3
                have hw184_2 := hx184_2
                have hw184_1 := hx184_1
                have hw184_0 := hx184_0
                cases e184
                replace hx184_0 := (HB.out.cell (World.block_lt_of_cell? w _ hx184_0)).trans hx184_0
                replace hx184_1 := (HB.out.cell (World.block_lt_of_cell? w _ hx184_1)).trans hx184_1
                replace hx184_2 := (HB.out.cell (World.block_lt_of_cell? w _ hx184_2)).trans hx184_2
                replace hx184_3 := (HB.out.cell (World.block_lt_of_cell? w _ hx184_3)).trans hx184_3
                replace p184 := eq_true p184
                replace q184 := eq_true q184
                refine start_ (n := 10) (S := fun w' => w'.cell? (ad183.add ((x5_1).toNat * 4)) = some (.int .i64 ((rd_TimplWindow l0 x5_1).f0)) ∧ w'.cell? ⟨(ad183.add ((x5_1).toNat * 4)).block, (ad183.add ((x5_1).toNat * 4)).off + 1, none⟩ = some (.int .i64 ((rd_TimplWindow l0 x5_1).f1)) ∧ w'.cell? ⟨(ad183.add ((x5_1).toNat * 4)).block, (ad183.add ((x5_1).toNat * 4)).off + 2, none⟩ = some (.int .i64 ((rd_TimplWindow l0 x5_1).f2)) ∧ w'.cell? ⟨(ad183.add ((x5_1).toNat * 4)).block, (ad183.add ((x5_1).toNat * 4)).off + 3, none⟩ = some (.int .i64 ((rd_TimplWindow l0 x5_1).f3)) ∧ w'.cell? (ad184.add ((x5_1).toNat * 4)) = some (.int .i64 ((rd_TimplWindow l1 x5_1).f0)) ∧ w'.cell? ⟨(ad184.add ((x5_1).toNat * 4)).block, (ad184.add ((x5_1).toNat * 4)).off + 1, none⟩ = some (.int .i64 ((rd_TimplWindow l1 x5_1).f1)) ∧ w'.cell? ⟨(ad184.add ((x5_1).toNat * 4)).block, (ad184.add ((x5_1).toNat * 4)).off + 2, none⟩ = some (.int .i64 ((rd_TimplWindow l1 x5_1).f2)) ∧ w'.cell? ⟨(ad184.add ((x5_1).toNat * 4)).block, (ad184.add ((x5_1).toNat * 4)).off + 3, none⟩ = some (.int .i64 ((rd_TimplWindow l1 x5_1).f3))) (ds := []) #[false, false, false, false, false, false, false, false, false, false] (by kernel_rfl) rfl rfl ⟨(by have h_ := ((HB.out.cell (World.block_lt_of_cell? w _ hw183_0)).trans hw183_0); first | exact h_ | (simp only [*] at h_; exact h_) | (simp [*]; done) | simpa [*] using h_), (by have h_ := ((HB.out.cell (World.block_lt_of_cell? w _ hw183_1)).trans hw183_1); first | exact h_ | (simp only [*] at h_; exact h_) | (simp [*]; done) | simpa [*] using h_), (by have h_ := ((HB.out.cell (World.block_lt_of_cell? w _ hw183_2)).trans hw183_2); first | exact h_ | (simp only [*] at h_; exact h_) | (simp [*]; done) | simpa [*] using h_), (by have h_ := ((HB.out.cell (World.block_lt_of_cell? w _ hw183_3)).trans hw183_3); first | exact h_ | (simp only [*] at h_; exact h_) | (simp [*]; done) | simpa [*] using h_), (by have h_ := ((HB.out.cell (World.block_lt_of_cell? w _ hw184_0)).trans hw184_0); first | exact h_ | (simp only [*] at h_; exact h_) | (simp [*]; done) | simpa [*] using h_), (by have h_ := ((HB.out.cell (World.block_lt_of_cell? w _ hw184_1)).trans hw184_1); first | exact h_ | (simp only [*] at h_; exact h_) | (simp [*]; done) | simpa [*] using h_), (by have h_ := ((HB.out.cell (World.block_lt_of_cell? w _ hw184_2)).trans hw184_2); first | exact h_ | (simp only [*] at h_; exact h_) | (simp [*]; done) | simpa [*] using h_), (by have h_ := ((HB.out.cell (World.block_lt_of_cell? w _ hw184_3)).trans hw184_3); first | exact h_ | (simp only [*] at h_; exact h_) | (simp [*]; done) | simpa [*] using h_)⟩ (fun hHeld => ?_); refine with_tabW laws_eqWindowS.tab6 laws_eqWindowS.bits6 (fun HT_ HW_ => ?_)
                generalize wr.drew = w11 at HB hx183_0 hx183_1 hx183_2 hx183_3 hx184_0 hx184_1 hx184_2 hx184_3 hHeld ⊢
                refine pure_ (i := 0) (N := some 17) (v := ?_) (a' := ?_) #[true, false, false, false, false, false, false, false, false, false] rfl rfl (any_of HT_.out (by kernel_rfl)) (fun _ _ _ h => h) (Or.inl ⟨by rfl, ?_⟩) ?_ ?_
                rotate_left
                · intro w'
                  go_simp
                  with_reducible rfl
                rotate_left
                · simp only [Act.put, List.setIfInBounds_toArray, List.set_cons_zero, List.set_cons_succ, i64_w, i32_w]
                  rfl
                refine pure_ (i := 1) (N := some 18) (v := ?_) (a' := ?_) #[true, true, false, false, false, false, false, false, false, false] rfl rfl (any_of HT_.out (by kernel_rfl)) (fun _ _ _ h => h) (Or.inl ⟨by rfl, ?_⟩) ?_ ?_
                rotate_left
                · intro w'
                  go_simp
                  with_reducible rfl
                rotate_left
                · simp only [Act.put, List.setIfInBounds_toArray, List.set_cons_zero, List.set_cons_succ, i64_w, i32_w]
                  rfl
                refine pure_ (i := 2) (N := some 19) (v := ?_) (a' := ?_) #[true, true, true, false, false, false, false, false, false, false] rfl rfl (any_of HT_.out (by kernel_rfl)) (fun _ _ _ h => h) (Or.inl ⟨by rfl, ?_⟩) ?_ ?_
                rotate_left
                · intro w'
                  go_simp
                  with_reducible rfl
                rotate_left
                · simp only [Act.put, List.setIfInBounds_toArray, List.set_cons_zero, List.set_cons_succ, i64_w, i32_w]
                  rfl
                refine pure_ (i := 4) (N := some 21) (v := ?_) (a' := ?_) #[true, true, true, false, true, false, false, false, false, false] rfl rfl (any_of HT_.out (by kernel_rfl)) (fun _ _ _ h => h) (Or.inl ⟨by rfl, ?_⟩) ?_ ?_
                rotate_left
                · intro w'
                  go_simp
                  with_reducible rfl
                rotate_left
                · simp only [Act.put, List.setIfInBounds_toArray, List.set_cons_zero, List.set_cons_succ, i64_w, i32_w]
                  rfl
                refine pure_ (i := 5) (N := some 22) (v := ?_) (a' := ?_) #[true, true, true, false, true, true, false, false, false, false] rfl rfl (any_of HT_.out (by kernel_rfl)) (fun _ _ _ h => h) (Or.inl ⟨by rfl, ?_⟩) ?_ ?_
                rotate_left
                · intro w'
                  go_simp
                  with_reducible rfl
                rotate_left
                · simp only [Act.put, List.setIfInBounds_toArray, List.set_cons_zero, List.set_cons_succ, i64_w, i32_w]
                  rfl
                refine pure_ (i := 6) (N := some 23) (v := ?_) (a' := ?_) #[true, true, true, false, true, true, true, false, false, false] rfl rfl (any_of HT_.out (by kernel_rfl)) (fun _ _ _ h => h) (Or.inl ⟨by rfl, ?_⟩) ?_ ?_
                rotate_left
                · intro w'
                  go_simp
                  with_reducible rfl
                rotate_left
                · simp only [Act.put, List.setIfInBounds_toArray, List.set_cons_zero, List.set_cons_succ, i64_w, i32_w]
                  rfl
                refine take_ (i := 3) (N := some 20) (v := ?_) (a' := ?_) #[true, true, true, true, true, true, true, false, false, false] rfl rfl (take_ofW HT_.out HW_.out (by kernel_rfl)) (fun _ _ _ h => h) (Or.inl ⟨by rfl, ?_⟩) hHeld ?_ ?_
                rotate_left
                · rintro w' ⟨s0, s1, s2, s3, s4, s5, s6, s7⟩
                  go_simp
                  with_reducible rfl
                rotate_left
                · simp only [Act.put, List.setIfInBounds_toArray, List.set_cons_zero, List.set_cons_succ, i64_w, i32_w]
                  rfl
                refine take_ (i := 7) (N := some 24) (v := ?_) (a' := ?_) #[true, true, true, true, true, true, true, true, false, false] rfl rfl (take_ofW HT_.out HW_.out (by kernel_rfl)) (fun _ _ _ h => h) (Or.inl ⟨by rfl, ?_⟩) hHeld ?_ ?_
                rotate_left
                · rintro w' ⟨s0, s1, s2, s3, s4, s5, s6, s7⟩
                  go_simp
                  with_reducible rfl
                rotate_left
                · simp only [Act.put, List.setIfInBounds_toArray, List.set_cons_zero, List.set_cons_succ, i64_w, i32_w]
                  rfl
                refine one_ (i := 8) (N := some 25) #[true, true, true, true, true, true, true, true, true, false] rfl rfl (one_of HT_.out (by kernel_rfl)) (by decide) (fun K hK => ?_)
                refine goes_ Try.func43 (by kernel_rfl) rfl #[.agg #[.int .i64 ((rd_TimplWindow l0 x5_1).f0), .int .i64 ((rd_TimplWindow l0 x5_1).f1), .int .i64 ((rd_TimplWindow l0 x5_1).f2), .int .i64 ((rd_TimplWindow l0 x5_1).f3)], .agg #[.int .i64 ((rd_TimplWindow l1 x5_1).f0), .int .i64 ((rd_TimplWindow l1 x5_1).f1), .int .i64 ((rd_TimplWindow l1 x5_1).f2), .int .i64 ((rd_TimplWindow l1 x5_1).f3)]] (by rfl) rfl rfl (by (try simp only [List.map_toArray, List.map_cons, List.map_nil]); first | done | rfl | (simp only [List.length_drop, List.length_take]; rfl)) ?_
                with_reducible refine (laws_eqWindow.calls ((rd_TimplWindow l0 x5_1).f0) ((rd_TimplWindow l0 x5_1).f1) ((rd_TimplWindow l0 x5_1).f2) ((rd_TimplWindow l0 x5_1).f3) ((rd_TimplWindow l1 x5_1).f0) ((rd_TimplWindow l1 x5_1).f1) ((rd_TimplWindow l1 x5_1).f2) ((rd_TimplWindow l1 x5_1).f3) false _ A7.out).mono ?_
                rintro e w12 ⟨rfl, hb⟩
                refine ⟨_, rfl, ?_⟩
                have n0_ := Aside0.mk (below_step (by repeat (first | (with_reducible first | exact HB.out | apply below_alloc | apply pw_below_drewN | apply below_drew1) | exact HB.out)) hb)
                clear HB
                have HB := n0_
                clear n0_
                (try clear hb)
                (try clear hb2)
                (try clear hk)
                (try clear hi)
                refine hK.out _ _ ⟨(by have h_ := ((HB.out.cell (World.block_lt_of_cell? w _ hw183_0)).trans hw183_0); first | exact h_ | (simp only [*] at h_; exact h_) | (simp [*]; done) | simpa [*] using h_), (by have h_ := ((HB.out.cell (World.block_lt_of_cell? w _ hw183_1)).trans hw183_1); first | exact h_ | (simp only [*] at h_; exact h_) | (simp [*]; done) | simpa [*] using h_), (by have h_ := ((HB.out.cell (World.block_lt_of_cell? w _ hw183_2)).trans hw183_2); first | exact h_ | (simp only [*] at h_; exact h_) | (simp [*]; done) | simpa [*] using h_), (by have h_ := ((HB.out.cell (World.block_lt_of_cell? w _ hw183_3)).trans hw183_3); first | exact h_ | (simp only [*] at h_; exact h_) | (simp [*]; done) | simpa [*] using h_), (by have h_ := ((HB.out.cell (World.block_lt_of_cell? w _ hw184_0)).trans hw184_0); first | exact h_ | (simp only [*] at h_; exact h_) | (simp [*]; done) | simpa [*] using h_), (by have h_ := ((HB.out.cell (World.block_lt_of_cell? w _ hw184_1)).trans hw184_1); first | exact h_ | (simp only [*] at h_; exact h_) | (simp [*]; done) | simpa [*] using h_), (by have h_ := ((HB.out.cell (World.block_lt_of_cell? w _ hw184_2)).trans hw184_2); first | exact h_ | (simp only [*] at h_; exact h_) | (simp [*]; done) | simpa [*] using h_), (by have h_ := ((HB.out.cell (World.block_lt_of_cell? w _ hw184_3)).trans hw184_3); first | exact h_ | (simp only [*] at h_; exact h_) | (simp [*]; done) | simpa [*] using h_)⟩ (fun hHeld => ?_)
                clear hK K
                refine norm_ (a' := ?_) ?_ ?_
                rotate_left
                · show Act.put _ (some 25) _ = _
                  simp only [Act.put, List.setIfInBounds_toArray, List.set_cons_zero, List.set_cons_succ, i64_w, i32_w]
                  rfl
                refine pure_ (i := 9) (N := some 26) (v := ?_) (a' := ?_) #[true, true, true, true, true, true, true, true, true, true] rfl rfl (any_of HT_.out (by kernel_rfl)) (fun _ _ _ h => h) (Or.inl ⟨by rfl, ?_⟩) ?_ ?_
                rotate_left
                · intro w'
                  go_simp
                  with_reducible rfl
                rotate_left
                · simp only [Act.put, List.setIfInBounds_toArray, List.set_cons_zero, List.set_cons_succ, i64_w, i32_w]
                  rfl
                refine done_ (done_of HT_.out (by kernel_rfl)) ?_
                try go_wp2
                go_ret
                exact ⟨by first | rfl | (simp [errW_none, errW_some] <;> rfl) | (simp [*, errW_none, errW_some] <;> rfl), by repeat (first | (with_reducible first | exact HB.out | apply below_alloc | apply pw_below_drewN | apply below_drew1) | exact HB.out)⟩
            · rw [if_neg c6] at H
              exact absurd H (by simp)
          · rw [if_neg c5] at H
            exact absurd H (by simp)
        · rw [if_neg c4] at H
          have c4b0 : decide (x5_1 < (l0.length : Int)) = false := decide_eq_false c4
          clear c4
          obtain rfl := Option.some.inj H
          go_wp2
          go_ret
          exact ⟨by first | rfl | (simp [errW_none, errW_some] <;> rfl) | (simp [*, errW_none, errW_some] <;> rfl), by repeat (first | (with_reducible first | exact HB.out | apply below_alloc | apply pw_below_drewN | apply below_drew1) | exact HB.out)⟩
  · rw [if_neg c3] at H
    have c3b0 : ((l0.length : Int) == (l1.length : Int)) = false := beq_eq_false_iff_ne.mpr c3
    have c3b1 : ((l0.length : Int) != (l1.length : Int)) = true := bne_iff_ne.mpr c3
    have c3b2 : (l0.length == l1.length) = false := by first | simpa using c3 | (simp at c3 ⊢; omega)
    obtain rfl := Option.some.inj H
    go_enter Try.func77, Try.ntmps77
    go_wp2
    go_ret
    exact ⟨by first | rfl | (simp [errW_none, errW_some] <;> rfl) | (simp [*, errW_none, errW_some] <;> rfl), by repeat (first | (with_reducible first | exact HB.out | apply below_alloc | apply pw_below_drewN | apply below_drew1) | exact HB.out)⟩

end Go.Proofs.Ytoomjghabiojkaa.P


/- Equality and validity of lists of windows. -/
namespace Go.Proofs.Ytoomjghabiojkaa.P
open Go.RowKit Go.Proofs.YtoomjghabiojkaaW.PrintWords
set_option linter.unusedVariables false
theorem eqWindowS_ev (suf : List SimplWindow) : ∀ (pre : List SimplWindow), pre.length + suf.length ≤ 9223372036854775807 → Ev (fun k => laws_eqWindowS.l0 k (pre ++ suf) (pre ++ suf) (pre.length : Int)) true := by
  induction suf with
  | nil =>
    intro pre h2
    refine Ev.step (fun k => ?_) (Ev.now _)
    simp [laws_eqWindowS.l0]
  | cons x suf ih =>
    intro pre h2
    simp only [List.length_cons] at h2
    refine Ev.step (f := fun k => laws_eqWindowS.l0 k ((pre ++ [x]) ++ suf) ((pre ++ [x]) ++ suf) ((pre ++ [x]).length : Int)) (fun k => ?_) (ih (pre ++ [x]) (by simp; omega))
    simp only [laws_eqWindowS.l0]
    rw [if_pos (by simp; omega), if_pos (by omega), if_pos (by simp; omega), eqWindow_f, Option.bind_some, if_pos rfl, wrap_len (by omega)]
    simp
theorem eqWindowS_f (l : List SimplWindow) (h : l.length ≤ 9223372036854775807) : Ev (fun k => laws_eqWindowS.f k l l) true := by
  refine Ev.congr (fun k => ?_) (eqWindowS_ev l [] (by simpa using h))
  unfold laws_eqWindowS.f
  rw [if_pos rfl]
  rfl
end Go.Proofs.Ytoomjghabiojkaa.P


/- spec.l3Watched: a memory is valid and has all windows of a list, which is not too long. -/
namespace Go.Proofs.Ytoomjghabiojkaa.P
open Go.RowKit Go.Proofs.YtoomjghabiojkaaW.PrintWords
set_option linter.unusedVariables false
def wfW (x : SimplWindow) : Prop := (-9223372036854775808 ≤ x.f0 ∧ x.f0 ≤ 9223372036854775807) ∧ (-9223372036854775808 ≤ x.f1 ∧ x.f1 ≤ 9223372036854775807) ∧ (-9223372036854775808 ≤ x.f2 ∧ x.f2 ≤ 9223372036854775807) ∧ (-9223372036854775808 ≤ x.f3 ∧ x.f3 ≤ 9223372036854775807)
end Go.Proofs.Ytoomjghabiojkaa.P


/- markMemory: a memory's bytes written in place. -/
namespace Go.Proofs.Ytoomjghabiojkaa.P
open Go.RowKit Go.Proofs.YtoomjghabiojkaaW.PrintWords Go.Proofs.YtoomjghabiojkaaW.PrintLast Go.Proofs.YtoomjghabiojkaaW.PrintMore Go.Proofs.YtoomjghabiojkaaW.Mine
set_option linter.unusedVariables false
set_option linter.unusedSimpArgs false
def laws_markMemory.f (l : List (List Int)) (a : Int) : Option (Int × List (List Int)) :=
  if 0 ≤ a ∧ a + sizeBB l ≤ 4611686018427387904 ∧ l.length ≤ 4611686018427387904 then some (a + sizeBB l, marksBB a l) else none
set_option maxHeartbeats 1600000 in
set_option maxRecDepth 100000 in
theorem laws_markMemory.calls (P_ : Nat → Prop) (u : Value) (l : List (List Int)) (a : Int) (r1 : Int) (r2 : List (List Int)) (w0 w : World) (hB : Below w0.heap.size w0 w) (ho : Kd.S (Kd.slice 5 (Kd.int .u8)) 119 w w0.heap.size P_ u l)
    (h : laws_markMemory.f l a = some (r1, r2)) :
    Calls Try.prog 20 #[.agg #[u], .int .i64 a] w fun e w' => e = .returned (.int .i64 r1) ∧ Kd.S (Kd.slice 5 (Kd.int .u8)) 119 w' w0.heap.size P_ u r2 ∧ Below w0.heap.size w0 w' ∧ Kept w w' P_ := by
  unfold laws_markMemory.f at h
  by_cases hh : 0 ≤ a ∧ a + sizeBB l ≤ 4611686018427387904 ∧ l.length ≤ 4611686018427387904
  · rw [if_pos hh] at h
    obtain ⟨rfl, rfl⟩ : a + sizeBB l = r1 ∧ marksBB a l = r2 := by simpa using h
    obtain ⟨h1, h2, h3⟩ := hh
    obtain ⟨A, c, rfl⟩ := Kd.S_slice ho
    have HO0 := Aside0.mk (show Kd.S (Kd.slice 5 (Kd.int .u8)) 119 w w0.heap.size (fun k => P_ k ∧ k < w.heap.size) (.slice A l.length c) l from Kd.S_mono (Kd.S_bound ho) (fun k hk => ⟨hk.1, hk.2.2.1⟩))
    have HB0 := Aside0.mk hB
    have H1 := Aside0.mk h1
    have H2 := Aside0.mk h2
    have H3 := Aside0.mk h3
    clear h h1 h2 h3 ho hB
    go_enter Try.func20, Try.ntmps20
    go_wp2_with (first | ((with_reducible refine gate_dst (N := 2) rfl ?_); refine box_event ?hg (N := 2) ?hd (cs := #[.slice A l.length c]) (t := 26) ?hr ?_; (case hd => rfl); (case hg => rfl); (case hr => first | (go_simp; done) | (go_simp; rfl)); intro g hg w1 hbox hb; have HO := Aside0.mk (Kd.S_below HO0.out hb); have HB := Aside0.mk (below_step HB0.out hb); have HK := Aside0.mk (Kept.of_below hb P_); have HX := Aside0.mk hbox; have HG := Aside0.mk hg; have hcz : w1.cell? ⟨g, 0, none⟩ = some (.slice A l.length c) := (blk_cell hbox 0).trans rfl; have hfz := blk_frozen hbox 0; clear hg hb hbox) | ((with_reducible refine gate_callee (f := 53) rfl ?_); refine goesL_ (some 8) rfl rfl Try.func53 (by kernel_rfl) rfl #[.slice A l.length c, .int .i64 a] rfl (by (try simp only [List.map_toArray, List.map_cons, List.map_nil]); first | done | rfl) ?_; (refine (markByteSS_c (fun k => P_ k ∧ k < w.heap.size) (.slice A l.length c) l a w0 _ HB.out HO.out H1.out H2.out H3.out).mono ?_); rintro e w2 ⟨rfl, hr2, hb2, hk2⟩; refine ⟨_, rfl, ?_⟩; have HO2 := Aside0.mk hr2; have HB2 := Aside0.mk hb2; have HK2 := Aside0.mk (HK.out.then_ hk2 (fun k hk => .inl hk.1)); clear hr2 hb2 hk2 hcz hfz))
    go_ret
    exact ⟨by first | rfl | simp, Kd.S_mono HO2.out (fun k hk => hk.1), HB2.out, HK2.out⟩
  · rw [if_neg hh] at h
    cases h
end Go.Proofs.Ytoomjghabiojkaa.P


/- Marks and equality of a memory that is small enough. -/
namespace Go.Proofs.Ytoomjghabiojkaa.P
open Go.RowKit Go.Proofs.YtoomjghabiojkaaW.PrintWords
set_option linter.unusedVariables false
theorem eqM (m : List (List Int)) (h : okM m) : Ev (fun k => laws_eqMemory.f k m m) true := eqMemory_f m h.len h.rows
end Go.Proofs.Ytoomjghabiojkaa.P


namespace Go.Proofs.Ytoomjghabiojkaa.P
open Go.RowKit Go.Proofs.YtoomjghabiojkaaW.PrintWords Go.Proofs.YtoomjghabiojkaaW.PrintLast Go.Proofs.YtoomjghabiojkaaW.PrintMore
attribute [local go_sem] max2_int min2_int max_two min_two max_three min_three max_four min_four   -- for this text's walks alone
set_option linter.unusedVariables false
set_option linter.unusedSimpArgs false

def laws_eqBoolS.l0 : Nat → List Bool → List Bool → Int → Option (Bool)
  | 0, _, _, _ => none
  | k + 1, x0, x1, x5 => if x5 < (x0.length : Int) then (if 0 ≤ x5 then (if x5 < (x1.length : Int) then (if ((rdOf false x0 x5) != (rdOf false x1 x5)) = true then (some false) else (laws_eqBoolS.l0 k x0 x1 (wrap64 (x5 + 1)))) else (none)) else (none)) else (some true)
def laws_eqBoolS.f (k : Nat) (l0 : List Bool) (l1 : List Bool) : Option (Bool) := if (l0.length : Int) = (l1.length : Int) then (laws_eqBoolS.l0 k l0 l1 0) else (some false)
set_option maxHeartbeats 8000000 in
set_option maxRecDepth 100000 in
theorem laws_eqBoolS.calls (k : Nat) (A0 : Option Addr) (c0 : Nat) (l0 : List Bool) (A1 : Option Addr) (c1 : Nat) (l1 : List Bool) (r : Bool) (w : World) (hr0 : Kd.C Kd.bool w A0 l0.length l0) (hc0 : l0.length ≤ c0) (hr1 : Kd.C Kd.bool w A1 l1.length l1) (hc1 : l1.length ≤ c1) (h : laws_eqBoolS.f k l0 l1 = some r) :
    Calls Try.prog 94 #[.slice A0 l0.length c0, .slice A1 l1.length c1] w fun e w' => e = .returned (.bool r) ∧ Drawn0 w w' := by
  have HR0 := Aside0.mk hr0
  have HC0 := Aside0.mk hc0
  clear hr0 hc0
  have HR1 := Aside0.mk hr1
  have HC1 := Aside0.mk hc1
  clear hr1 hc1
  have H : (if (l0.length : Int) = (l1.length : Int) then (laws_eqBoolS.l0 k l0 l1 0) else (some false)) = some r := h
  clear h
  by_cases c3 : (l0.length : Int) = (l1.length : Int)
  · rw [if_pos c3] at H
    have c3b0 : ((l0.length : Int) == (l1.length : Int)) = true := beq_iff_eq.mpr c3
    have c3b1 : ((l0.length : Int) != (l1.length : Int)) = false := bne_eq_false_iff_eq.mpr c3
    have c3b2 : (l0.length == l1.length) = true := by first | simpa using c3 | (simp at c3 ⊢; omega)
    clear c3
    have H' := Aside0.mk H
    clear H
    go_enter Try.func94, Try.ntmps94
    go_wp2
    repeat (go_quiet (fail); try go_wp2)
    go_loopg [5] k (fun kq v5 w' => ∃ (x5_1 : Int), v5 = .int .i64 x5_1 ∧ Aside0 (laws_eqBoolS.l0 kq l0 l1 x5_1 = some r) ∧ Aside0 (kq ≤ k) ∧ Drawn0 w w')
    case atStart => exact ⟨(0), (by first | rfl | (simp; done) | (simp [*]; done)), H', ⟨Nat.le_refl _⟩, by repeat (first | exact Drawn0.refl _ | apply Drawn0.step)⟩
    case round =>
      clear H'
      try clear c1
      try clear p2
      try clear c3
      try clear c3b0
      try clear c3b1
      try clear c3b2
      obtain ⟨x5_1, rfl, HA, HK1, ⟨m1, rfl⟩⟩ := hrel
      cases gk with
      | zero => exact absurd HA.out (by simp [laws_eqBoolS.l0])
      | succ k1 =>
        have H := HA.out
        clear HA
        simp only [laws_eqBoolS.l0] at H
        by_cases c4 : x5_1 < (l0.length : Int)
        · rw [if_pos c4] at H
          have c4b0 : decide (x5_1 < (l0.length : Int)) = true := decide_eq_true c4
          clear c4
          by_cases c5 : 0 ≤ x5_1
          · rw [if_pos c5] at H
            have c5b0 : decide (0 ≤ x5_1) = true := decide_eq_true c5
            clear c5
            by_cases c6 : x5_1 < (l1.length : Int)
            · rw [if_pos c6] at H
              have c6b0 : decide (x5_1 < (l1.length : Int)) = true := decide_eq_true c6
              clear c6
              by_cases c7 : ((rdOf false l0 x5_1) != (rdOf false l1 x5_1)) = true
              · rw [if_pos c7] at H
                have c7b0 : ((rdOf false l0 x5_1) != (rdOf false l1 x5_1)) = true := c7
                (try (have c7b1 : decide ((rdOf false l0 x5_1) = (rdOf false l1 x5_1)) = false := by simpa using c7))
                (try (have c7b2 : ((rdOf false l0 x5_1) == (rdOf false l1 x5_1)) = false := by simpa using c7))
                (try (have c7b3 : ¬ ((rdOf false l0 x5_1) = (rdOf false l1 x5_1)) := by simpa using c7))
                clear c7
                obtain rfl := Option.some.inj H
                have p438 : 0 ≤ (x5_1 : Int) := of_decide_eq_true (by first | (with_reducible assumption) | assumption)
                have q438 : x5_1 < (l0.length : Int) := of_decide_eq_true (by first | (with_reducible assumption) | assumption)
                obtain ⟨ad438, e438, hx438_0⟩ := Kd.at_bool HR0.out x5_1 p438 q438
                cases e438
                replace p438 := eq_true p438
                replace q438 := eq_true q438
                have p439 : 0 ≤ (x5_1 : Int) := of_decide_eq_true (by first | (with_reducible assumption) | assumption)
                have q439 : x5_1 < (l1.length : Int) := of_decide_eq_true (by first | (with_reducible assumption) | assumption)
                obtain ⟨ad439, e439, hx439_0⟩ := Kd.at_bool HR1.out x5_1 p439 q439
                cases e439
                replace p439 := eq_true p439
                replace q439 := eq_true q439
                go_wp2
                repeat (go_quiet (fail); try go_wp2)
                go_ret
                exact ⟨by first | rfl | (simp; done) | (simp [*]; done), by repeat (first | exact Drawn0.refl _ | apply Drawn0.step)⟩
              · rw [if_neg c7] at H
                have c7b0 : ((rdOf false l0 x5_1) != (rdOf false l1 x5_1)) = false := by simpa using c7
                (try (have c7b1 : decide ((rdOf false l0 x5_1) = (rdOf false l1 x5_1)) = true := by simpa using c7))
                (try (have c7b2 : ((rdOf false l0 x5_1) == (rdOf false l1 x5_1)) = true := by simpa using c7))
                clear c7
                have H' := Aside0.mk H
                clear H
                have p438 : 0 ≤ (x5_1 : Int) := of_decide_eq_true (by first | (with_reducible assumption) | assumption)
                have q438 : x5_1 < (l0.length : Int) := of_decide_eq_true (by first | (with_reducible assumption) | assumption)
                obtain ⟨ad438, e438, hx438_0⟩ := Kd.at_bool HR0.out x5_1 p438 q438
                cases e438
                replace p438 := eq_true p438
                replace q438 := eq_true q438
                have p439 : 0 ≤ (x5_1 : Int) := of_decide_eq_true (by first | (with_reducible assumption) | assumption)
                have q439 : x5_1 < (l1.length : Int) := of_decide_eq_true (by first | (with_reducible assumption) | assumption)
                obtain ⟨ad439, e439, hx439_0⟩ := Kd.at_bool HR1.out x5_1 p439 q439
                cases e439
                replace p439 := eq_true p439
                replace q439 := eq_true q439
                go_wp2
                repeat (go_quiet (fail); try go_wp2)
                go_roundg k1
                case measure => have := HK1.out; omega
                case rel => exact ⟨(wrap64 (x5_1 + 1)), (by first | rfl | (simp; done) | (simp [*]; done)), H', ⟨by have := HK1.out; omega⟩, by repeat (first | exact Drawn0.refl _ | apply Drawn0.step)⟩
            · rw [if_neg c6] at H
              exact absurd H (by simp)
          · rw [if_neg c5] at H
            exact absurd H (by simp)
        · rw [if_neg c4] at H
          have c4b0 : decide (x5_1 < (l0.length : Int)) = false := decide_eq_false c4
          clear c4
          obtain rfl := Option.some.inj H
          go_wp2
          repeat (go_quiet (fail); try go_wp2)
          go_ret
          exact ⟨by first | rfl | (simp; done) | (simp [*]; done), by repeat (first | exact Drawn0.refl _ | apply Drawn0.step)⟩
  · rw [if_neg c3] at H
    have c3b0 : ((l0.length : Int) == (l1.length : Int)) = false := beq_eq_false_iff_ne.mpr c3
    have c3b1 : ((l0.length : Int) != (l1.length : Int)) = true := bne_iff_ne.mpr c3
    have c3b2 : (l0.length == l1.length) = false := by first | simpa using c3 | (simp at c3 ⊢; omega)
    obtain rfl := Option.some.inj H
    go_enter Try.func94, Try.ntmps94
    go_wp2
    repeat (go_quiet (fail); try go_wp2)
    go_ret
    exact ⟨by first | rfl | (simp; done) | (simp [*]; done), by repeat (first | exact Drawn0.refl _ | apply Drawn0.step)⟩

end Go.Proofs.Ytoomjghabiojkaa.P


/- Equality of lists of flags. -/
namespace Go.Proofs.Ytoomjghabiojkaa.P
open Go.RowKit Go.Proofs.YtoomjghabiojkaaW.PrintWords
set_option linter.unusedVariables false
theorem rdF_mid (pre : List Bool) (x : Bool) (suf : List Bool) : rdOf false (pre ++ x :: suf) (pre.length : Int) = x := by
  unfold rdOf
  simp
theorem eqBoolS_ev (suf : List Bool) : ∀ (pre : List Bool), pre.length + suf.length ≤ 9223372036854775807 → Ev (fun k => laws_eqBoolS.l0 k (pre ++ suf) (pre ++ suf) (pre.length : Int)) true := by
  induction suf with
  | nil =>
    intro pre h2
    refine Ev.step (fun k => ?_) (Ev.now _)
    simp [laws_eqBoolS.l0]
  | cons x suf ih =>
    intro pre h2
    simp only [List.length_cons] at h2
    refine Ev.step (f := fun k => laws_eqBoolS.l0 k ((pre ++ [x]) ++ suf) ((pre ++ [x]) ++ suf) ((pre ++ [x]).length : Int)) (fun k => ?_) (ih (pre ++ [x]) (by simp; omega))
    simp only [laws_eqBoolS.l0]
    rw [if_pos (by simp; omega), if_pos (by omega), if_pos (by simp; omega), if_neg (by simp), wrap_len (by omega)]
    simp
theorem eqBoolS_f (l : List Bool) (h : l.length ≤ 9223372036854775807) : Ev (fun k => laws_eqBoolS.f k l l) true := by
  refine Ev.congr (fun k => ?_) (eqBoolS_ev l [] (by simpa using h))
  unfold laws_eqBoolS.f
  rw [if_pos rfl]
  rfl
end Go.Proofs.Ytoomjghabiojkaa.P


namespace Go.Proofs.Ytoomjghabiojkaa.P
open Go.RowKit Go.Proofs.YtoomjghabiojkaaW.PrintWords Go.Proofs.YtoomjghabiojkaaW.PrintLast Go.Proofs.YtoomjghabiojkaaW.PrintMore
attribute [local go_sem] max2_int min2_int max_two min_two max_three min_three max_four min_four   -- for this text's walks alone
set_option linter.unusedVariables false
set_option linter.unusedSimpArgs false

def laws_eqMachine.f (k : Nat) (l0_0 : List (List Int)) (l0_1 : List (SimplWindow)) (l0_2 : List Bool) (l1_0 : List (List Int)) (l1_1 : List (SimplWindow)) (l1_2 : List Bool) : Option (Bool) := (laws_eqMemory.f k l0_0 l1_0).bind fun t442 => (if t442 = true then ((laws_eqWindowS.f k l0_1 l1_1).bind fun t443 => (if t443 = true then ((laws_eqBoolS.f k l0_2 l1_2).bind fun t444 => (if t444 = true then (some true) else (some false))) else (some false))) else (some false))
set_option maxHeartbeats 8000000 in
set_option maxRecDepth 100000 in
theorem laws_eqMachine.calls (k : Nat) (A0_0 : Option Addr) (c0_0 : Nat) (l0_0 : List (List Int)) (A0_1 : Option Addr) (c0_1 : Nat) (l0_1 : List (SimplWindow)) (A0_2 : Option Addr) (c0_2 : Nat) (l0_2 : List Bool) (A1_0 : Option Addr) (c1_0 : Nat) (l1_0 : List (List Int)) (A1_1 : Option Addr) (c1_1 : Nat) (l1_1 : List (SimplWindow)) (A1_2 : Option Addr) (c1_2 : Nat) (l1_2 : List Bool) (r : Bool) (w : World) (hr0_0 : Kd.C (Kd.slice 5 (Kd.int .u8)) w A0_0 l0_0.length l0_0) (hc0_0 : l0_0.length ≤ c0_0) (hr0_1 : Kd.C kimplWindow w A0_1 l0_1.length l0_1) (hc0_1 : l0_1.length ≤ c0_1) (hr0_2 : Kd.C Kd.bool w A0_2 l0_2.length l0_2) (hc0_2 : l0_2.length ≤ c0_2) (hr1_0 : Kd.C (Kd.slice 5 (Kd.int .u8)) w A1_0 l1_0.length l1_0) (hc1_0 : l1_0.length ≤ c1_0) (hr1_1 : Kd.C kimplWindow w A1_1 l1_1.length l1_1) (hc1_1 : l1_1.length ≤ c1_1) (hr1_2 : Kd.C Kd.bool w A1_2 l1_2.length l1_2) (hc1_2 : l1_2.length ≤ c1_2) (h : laws_eqMachine.f k l0_0 l0_1 l0_2 l1_0 l1_1 l1_2 = some r) :
    Calls Try.prog 35 #[.agg #[.slice A0_0 l0_0.length c0_0, .slice A0_1 l0_1.length c0_1, .slice A0_2 l0_2.length c0_2], .agg #[.slice A1_0 l1_0.length c1_0, .slice A1_1 l1_1.length c1_1, .slice A1_2 l1_2.length c1_2]] w fun e w' => e = .returned (.bool r) ∧ Below w.heap.size w w' := by
  have hu60 := Try.underlying60
  have hu26 := Try.underlying26
  have HR0_0 := Aside0.mk hr0_0
  have HC0_0 := Aside0.mk hc0_0
  clear hr0_0 hc0_0
  have HR0_1 := Aside0.mk hr0_1
  have HC0_1 := Aside0.mk hc0_1
  clear hr0_1 hc0_1
  have HR0_2 := Aside0.mk hr0_2
  have HC0_2 := Aside0.mk hc0_2
  clear hr0_2 hc0_2
  have HR1_0 := Aside0.mk hr1_0
  have HC1_0 := Aside0.mk hc1_0
  clear hr1_0 hc1_0
  have HR1_1 := Aside0.mk hr1_1
  have HC1_1 := Aside0.mk hc1_1
  clear hr1_1 hc1_1
  have HR1_2 := Aside0.mk hr1_2
  have HC1_2 := Aside0.mk hc1_2
  clear hr1_2 hc1_2
  have HB := Aside0.mk (Below.refl w.heap.size w)
  have H : ((laws_eqMemory.f k l0_0 l1_0).bind fun t442 => (if t442 = true then ((laws_eqWindowS.f k l0_1 l1_1).bind fun t443 => (if t443 = true then ((laws_eqBoolS.f k l0_2 l1_2).bind fun t444 => (if t444 = true then (some true) else (some false))) else (some false))) else (some false))) = some r := h
  clear h
  replace H := Option.bind_eq_some_iff.mp H
  obtain ⟨t442, A30, H⟩ := H
  replace H : (if t442 = true then ((laws_eqWindowS.f k l0_1 l1_1).bind fun t443 => (if t443 = true then ((laws_eqBoolS.f k l0_2 l1_2).bind fun t444 => (if t444 = true then (some true) else (some false))) else (some false))) else (some false)) = some r := H
  have A3 := Aside0.mk A30
  clear A30
  by_cases c4 : t442 = true
  · subst c4
    have H1 : ((laws_eqWindowS.f k l0_1 l1_1).bind fun t443 => (if t443 = true then ((laws_eqBoolS.f k l0_2 l1_2).bind fun t444 => (if t444 = true then (some true) else (some false))) else (some false))) = some r := by rw [if_pos rfl] at H; exact H
    clear H
    have H := H1
    clear H1
    replace H := Option.bind_eq_some_iff.mp H
    obtain ⟨t443, A50, H⟩ := H
    replace H : (if t443 = true then ((laws_eqBoolS.f k l0_2 l1_2).bind fun t444 => (if t444 = true then (some true) else (some false))) else (some false)) = some r := H
    have A5 := Aside0.mk A50
    clear A50
    by_cases c6 : t443 = true
    · subst c6
      have H1 : ((laws_eqBoolS.f k l0_2 l1_2).bind fun t444 => (if t444 = true then (some true) else (some false))) = some r := by rw [if_pos rfl] at H; exact H
      clear H
      have H := H1
      clear H1
      replace H := Option.bind_eq_some_iff.mp H
      obtain ⟨t444, A70, H⟩ := H
      replace H : (if t444 = true then (some true) else (some false)) = some r := H
      have A7 := Aside0.mk A70
      clear A70
      by_cases c8 : t444 = true
      · subst c8
        have H1 : (some true) = some r := by rw [if_pos rfl] at H; exact H
        clear H
        have H := H1
        clear H1
        obtain rfl := Option.some.inj H
        go_enter Try.func35, Try.ntmps35
        go_wp2_with (first | ((with_reducible refine gate_dst (N := 2) rfl ?_); refine box_event ?hg (N := 2) ?hd (cs := #[.slice A0_0 l0_0.length c0_0, .slice A0_1 l0_1.length c0_1, .slice A0_2 l0_2.length c0_2]) (t := 60) ?hr ?_; (case hd => rfl); (case hg => rfl); (case hr => first | (go_simp; done) | (go_simp; rfl)); intro gb440 hg w9 hbox hb; have n0_ := Aside0.mk (below_step (by repeat (first | (with_reducible first | exact HB.out | apply below_alloc | apply pw_below_drewN | apply below_drew1) | exact HB.out)) hb); have n1_ := Aside0.mk (hbox); have n2_ := Aside0.mk ((by rw [hg]; exact (below_size (by repeat (first | (with_reducible first | exact HB.out | apply below_alloc | apply pw_below_drewN | apply below_drew1) | exact HB.out))) : w.heap.size ≤ gb440)); have n3_ := Aside0.mk ((by rw [hg]; exact (below_size (by repeat (first | (with_reducible first | exact HB.out | apply below_alloc | apply pw_below_drewN | apply below_drew1) | exact HB.out))) : w.heap.size ≤ gb440)); clear HB; have HB := n0_; have BK440 := n1_; have GW440 := n2_; have GE440 := n3_; clear n0_ n1_ n2_ n3_; clear hb hbox hg) | ((with_reducible refine gate_dst (N := 3) rfl ?_); refine box_event ?hg (N := 3) ?hd (cs := #[.slice A1_0 l1_0.length c1_0, .slice A1_1 l1_1.length c1_1, .slice A1_2 l1_2.length c1_2]) (t := 60) ?hr ?_; (case hd => rfl); (case hg => rfl); (case hr => first | (go_simp; done) | (go_simp; rfl)); intro gb441 hg w10 hbox hb; have n0_ := Aside0.mk (blk_below (g := gb440) (o := .cells #[.slice A0_0 l0_0.length c0_0, .slice A0_1 l0_1.length c0_1, .slice A0_2 l0_2.length c0_2] 60 (0, 0)) (by (with_reducible repeat (first | refine blk_drewN ?_ _ | refine blk_drew ?_ | refine blk_alloc ?_ _)); exact BK440.out) hb); have n1_ := Aside0.mk (below_step (by repeat (first | (with_reducible first | exact HB.out | apply below_alloc | apply pw_below_drewN | apply below_drew1 | refine below_set ?_ GE440.out) | exact HB.out)) hb); have n2_ := Aside0.mk (hbox); have n3_ := Aside0.mk ((by rw [hg]; exact (below_size (by repeat (first | (with_reducible first | exact HB.out | apply below_alloc | apply pw_below_drewN | apply below_drew1 | refine below_set ?_ GE440.out) | exact HB.out))) : w.heap.size ≤ gb441)); have n4_ := Aside0.mk ((by rw [hg]; exact (below_size (by repeat (first | (with_reducible first | exact HB.out | apply below_alloc | apply pw_below_drewN | apply below_drew1 | refine below_set ?_ GE440.out) | exact HB.out))) : w.heap.size ≤ gb441)); have n5_ := Aside0.mk ((by rw [hg]; exact Nat.ne_of_lt (blk_lt (g := gb440) (o := .cells #[.slice A0_0 l0_0.length c0_0, .slice A0_1 l0_1.length c0_1, .slice A0_2 l0_2.length c0_2] 60 (0, 0)) (by (with_reducible repeat (first | refine blk_drewN ?_ _ | refine blk_drew ?_ | refine blk_alloc ?_ _)); exact BK440.out)) : gb440 ≠ gb441)); have n6_ := Aside0.mk ((by rw [hg]; exact Nat.ne_of_gt (blk_lt (g := gb440) (o := .cells #[.slice A0_0 l0_0.length c0_0, .slice A0_1 l0_1.length c0_1, .slice A0_2 l0_2.length c0_2] 60 (0, 0)) (by (with_reducible repeat (first | refine blk_drewN ?_ _ | refine blk_drew ?_ | refine blk_alloc ?_ _)); exact BK440.out)) : gb441 ≠ gb440)); clear BK440; clear HB; have BK440 := n0_; have HB := n1_; have BK441 := n2_; have GW441 := n3_; have GE441 := n4_; have NB440_441 := n5_; have NB441_440 := n6_; clear n0_ n1_ n2_ n3_ n4_ n5_ n6_; clear hb hbox hg; have hnb11 := NB440_441.out; have hnc11 := NB441_440.out; have hcz12_0 : w10.cell? ⟨gb440, 0, none⟩ = some (.slice A0_0 l0_0.length c0_0) := (blk_cell BK440.out 0).trans rfl; have hcz12_1 : w10.cell? ⟨gb440, 1, none⟩ = some (.slice A0_1 l0_1.length c0_1) := (blk_cell BK440.out 1).trans rfl; have hcz12_2 : w10.cell? ⟨gb440, 2, none⟩ = some (.slice A0_2 l0_2.length c0_2) := (blk_cell BK440.out 2).trans rfl; have hfz12_0 := blk_frozen BK440.out 0; have hfz12_1 := blk_frozen BK440.out 1; have hfz12_2 := blk_frozen BK440.out 2; have hcz13_0 : w10.cell? ⟨gb441, 0, none⟩ = some (.slice A1_0 l1_0.length c1_0) := (blk_cell BK441.out 0).trans rfl; have hcz13_1 : w10.cell? ⟨gb441, 1, none⟩ = some (.slice A1_1 l1_1.length c1_1) := (blk_cell BK441.out 1).trans rfl; have hcz13_2 : w10.cell? ⟨gb441, 2, none⟩ = some (.slice A1_2 l1_2.length c1_2) := (blk_cell BK441.out 2).trans rfl; have hfz13_0 := blk_frozen BK441.out 0; have hfz13_1 := blk_frozen BK441.out 1; have hfz13_2 := blk_frozen BK441.out 2) | ((with_reducible refine gate_callee (f := 19) rfl ?_); refine goesL_ (some 9) rfl rfl Try.func19 (by kernel_rfl) rfl #[.agg #[.slice A0_0 l0_0.length c0_0], .agg #[.slice A1_0 l1_0.length c1_0]] rfl (by (try simp only [List.map_toArray, List.map_cons, List.map_nil]); first | done | rfl | (simp only [List.length_drop, List.length_take]; rfl)) ?_; (with_reducible refine (laws_eqMemory.calls k _ _ l0_0 _ _ l1_0 true _ ?side1 ?side2 ?side3 ?side4 A3.out).mono ?_); (case side1 => repeat (first | exact (Kd.C_below HR0_0.out HB.out) | (with_reducible refine Kd.C_alloc ?_ _) | (with_reducible refine Kd.C_drewN ?_ _) | (with_reducible refine Kd.C_drew ?_))); (case side2 => exact HC0_0.out); (case side3 => repeat (first | exact (Kd.C_below HR1_0.out HB.out) | (with_reducible refine Kd.C_alloc ?_ _) | (with_reducible refine Kd.C_drewN ?_ _) | (with_reducible refine Kd.C_drew ?_))); (case side4 => exact HC1_0.out); rintro e w14 ⟨rfl, hb⟩; refine ⟨_, rfl, ?_⟩; have n0_ := Aside0.mk (blk_below (g := gb440) (o := .cells #[.slice A0_0 l0_0.length c0_0, .slice A0_1 l0_1.length c0_1, .slice A0_2 l0_2.length c0_2] 60 (0, 0)) (by (with_reducible repeat (first | refine blk_drewN ?_ _ | refine blk_drew ?_ | refine blk_alloc ?_ _)); exact BK440.out) hb); have n1_ := Aside0.mk (blk_below (g := gb441) (o := .cells #[.slice A1_0 l1_0.length c1_0, .slice A1_1 l1_1.length c1_1, .slice A1_2 l1_2.length c1_2] 60 (0, 0)) (by (with_reducible repeat (first | refine blk_drewN ?_ _ | refine blk_drew ?_ | refine blk_alloc ?_ _)); exact BK441.out) hb); have n2_ := Aside0.mk (below_step (by repeat (first | (with_reducible first | exact HB.out | apply below_alloc | apply pw_below_drewN | apply below_drew1 | refine below_set ?_ GE440.out | refine below_set ?_ GE441.out) | exact HB.out)) hb); clear BK440; clear BK441; clear HB; have BK440 := n0_; have BK441 := n1_; have HB := n2_; clear n0_ n1_ n2_; (try clear hb); (try clear hb2); (try clear hk); (try clear hi); have hcz15_0 : w14.cell? ⟨gb440, 0, none⟩ = some (.slice A0_0 l0_0.length c0_0) := (blk_cell BK440.out 0).trans rfl; have hcz15_1 : w14.cell? ⟨gb440, 1, none⟩ = some (.slice A0_1 l0_1.length c0_1) := (blk_cell BK440.out 1).trans rfl; have hcz15_2 : w14.cell? ⟨gb440, 2, none⟩ = some (.slice A0_2 l0_2.length c0_2) := (blk_cell BK440.out 2).trans rfl; have hfz15_0 := blk_frozen BK440.out 0; have hfz15_1 := blk_frozen BK440.out 1; have hfz15_2 := blk_frozen BK440.out 2; have hcz16_0 : w14.cell? ⟨gb441, 0, none⟩ = some (.slice A1_0 l1_0.length c1_0) := (blk_cell BK441.out 0).trans rfl; have hcz16_1 : w14.cell? ⟨gb441, 1, none⟩ = some (.slice A1_1 l1_1.length c1_1) := (blk_cell BK441.out 1).trans rfl; have hcz16_2 : w14.cell? ⟨gb441, 2, none⟩ = some (.slice A1_2 l1_2.length c1_2) := (blk_cell BK441.out 2).trans rfl; have hfz16_0 := blk_frozen BK441.out 0; have hfz16_1 := blk_frozen BK441.out 1; have hfz16_2 := blk_frozen BK441.out 2) | ((with_reducible refine gate_callee (f := 77) rfl ?_); refine goesL_ (some 15) rfl rfl Try.func77 (by kernel_rfl) rfl #[.slice A0_1 l0_1.length c0_1, .slice A1_1 l1_1.length c1_1] rfl (by (try simp only [List.map_toArray, List.map_cons, List.map_nil]); first | done | rfl | (simp only [List.length_drop, List.length_take]; rfl)) ?_; (with_reducible refine (laws_eqWindowS.calls k _ _ l0_1 _ _ l1_1 true _ ?side1 ?side2 ?side3 ?side4 A5.out).mono ?_); (case side1 => repeat (first | exact (Kd.C_below HR0_1.out HB.out) | (with_reducible refine Kd.C_alloc ?_ _) | (with_reducible refine Kd.C_drewN ?_ _) | (with_reducible refine Kd.C_drew ?_))); (case side2 => exact HC0_1.out); (case side3 => repeat (first | exact (Kd.C_below HR1_1.out HB.out) | (with_reducible refine Kd.C_alloc ?_ _) | (with_reducible refine Kd.C_drewN ?_ _) | (with_reducible refine Kd.C_drew ?_))); (case side4 => exact HC1_1.out); rintro e w17 ⟨rfl, hb⟩; refine ⟨_, rfl, ?_⟩; have n0_ := Aside0.mk (blk_below (g := gb440) (o := .cells #[.slice A0_0 l0_0.length c0_0, .slice A0_1 l0_1.length c0_1, .slice A0_2 l0_2.length c0_2] 60 (0, 0)) (by (with_reducible repeat (first | refine blk_drewN ?_ _ | refine blk_drew ?_ | refine blk_alloc ?_ _)); exact BK440.out) hb); have n1_ := Aside0.mk (blk_below (g := gb441) (o := .cells #[.slice A1_0 l1_0.length c1_0, .slice A1_1 l1_1.length c1_1, .slice A1_2 l1_2.length c1_2] 60 (0, 0)) (by (with_reducible repeat (first | refine blk_drewN ?_ _ | refine blk_drew ?_ | refine blk_alloc ?_ _)); exact BK441.out) hb); have n2_ := Aside0.mk (below_step (by repeat (first | (with_reducible first | exact HB.out | apply below_alloc | apply pw_below_drewN | apply below_drew1 | refine below_set ?_ GE440.out | refine below_set ?_ GE441.out) | exact HB.out)) hb); clear BK440; clear BK441; clear HB; have BK440 := n0_; have BK441 := n1_; have HB := n2_; clear n0_ n1_ n2_; (try clear hb); (try clear hb2); (try clear hk); (try clear hi); have hcz18_0 : w17.cell? ⟨gb440, 0, none⟩ = some (.slice A0_0 l0_0.length c0_0) := (blk_cell BK440.out 0).trans rfl; have hcz18_1 : w17.cell? ⟨gb440, 1, none⟩ = some (.slice A0_1 l0_1.length c0_1) := (blk_cell BK440.out 1).trans rfl; have hcz18_2 : w17.cell? ⟨gb440, 2, none⟩ = some (.slice A0_2 l0_2.length c0_2) := (blk_cell BK440.out 2).trans rfl; have hfz18_0 := blk_frozen BK440.out 0; have hfz18_1 := blk_frozen BK440.out 1; have hfz18_2 := blk_frozen BK440.out 2; have hcz19_0 : w17.cell? ⟨gb441, 0, none⟩ = some (.slice A1_0 l1_0.length c1_0) := (blk_cell BK441.out 0).trans rfl; have hcz19_1 : w17.cell? ⟨gb441, 1, none⟩ = some (.slice A1_1 l1_1.length c1_1) := (blk_cell BK441.out 1).trans rfl; have hcz19_2 : w17.cell? ⟨gb441, 2, none⟩ = some (.slice A1_2 l1_2.length c1_2) := (blk_cell BK441.out 2).trans rfl; have hfz19_0 := blk_frozen BK441.out 0; have hfz19_1 := blk_frozen BK441.out 1; have hfz19_2 := blk_frozen BK441.out 2) | ((with_reducible refine gate_callee (f := 94) rfl ?_); refine goesL_ (some 21) rfl rfl Try.func94 (by kernel_rfl) rfl #[.slice A0_2 l0_2.length c0_2, .slice A1_2 l1_2.length c1_2] rfl (by (try simp only [List.map_toArray, List.map_cons, List.map_nil]); first | done | rfl | (simp only [List.length_drop, List.length_take]; rfl)) ?_; (with_reducible refine (laws_eqBoolS.calls k _ _ l0_2 _ _ l1_2 true _ ?side1 ?side2 ?side3 ?side4 A7.out).mono ?_); (case side1 => repeat (first | exact (Kd.C_below HR0_2.out HB.out) | (with_reducible refine Kd.C_alloc ?_ _) | (with_reducible refine Kd.C_drewN ?_ _) | (with_reducible refine Kd.C_drew ?_))); (case side2 => exact HC0_2.out); (case side3 => repeat (first | exact (Kd.C_below HR1_2.out HB.out) | (with_reducible refine Kd.C_alloc ?_ _) | (with_reducible refine Kd.C_drewN ?_ _) | (with_reducible refine Kd.C_drew ?_))); (case side4 => exact HC1_2.out); rintro e w' ⟨rfl, ⟨nd, rfl⟩⟩; refine ⟨_, rfl, ?_⟩))
        go_ret
        exact ⟨by first | rfl | (simp [errW_none, errW_some] <;> rfl) | (simp [*, errW_none, errW_some] <;> rfl), by repeat (first | (with_reducible first | exact HB.out | apply below_alloc | apply pw_below_drewN | apply below_drew1 | refine below_set ?_ GE440.out | refine below_set ?_ GE441.out) | exact HB.out)⟩
      · replace c8 := Bool.eq_false_iff.mpr c8
        subst c8
        have H1 : (some false) = some r := by rw [if_neg (show ¬ (false = true) by decide)] at H; exact H
        clear H
        have H := H1
        clear H1
        obtain rfl := Option.some.inj H
        go_enter Try.func35, Try.ntmps35
        go_wp2_with (first | ((with_reducible refine gate_dst (N := 2) rfl ?_); refine box_event ?hg (N := 2) ?hd (cs := #[.slice A0_0 l0_0.length c0_0, .slice A0_1 l0_1.length c0_1, .slice A0_2 l0_2.length c0_2]) (t := 60) ?hr ?_; (case hd => rfl); (case hg => rfl); (case hr => first | (go_simp; done) | (go_simp; rfl)); intro gb440 hg w20 hbox hb; have n0_ := Aside0.mk (below_step (by repeat (first | (with_reducible first | exact HB.out | apply below_alloc | apply pw_below_drewN | apply below_drew1) | exact HB.out)) hb); have n1_ := Aside0.mk (hbox); have n2_ := Aside0.mk ((by rw [hg]; exact (below_size (by repeat (first | (with_reducible first | exact HB.out | apply below_alloc | apply pw_below_drewN | apply below_drew1) | exact HB.out))) : w.heap.size ≤ gb440)); have n3_ := Aside0.mk ((by rw [hg]; exact (below_size (by repeat (first | (with_reducible first | exact HB.out | apply below_alloc | apply pw_below_drewN | apply below_drew1) | exact HB.out))) : w.heap.size ≤ gb440)); clear HB; have HB := n0_; have BK440 := n1_; have GW440 := n2_; have GE440 := n3_; clear n0_ n1_ n2_ n3_; clear hb hbox hg) | ((with_reducible refine gate_dst (N := 3) rfl ?_); refine box_event ?hg (N := 3) ?hd (cs := #[.slice A1_0 l1_0.length c1_0, .slice A1_1 l1_1.length c1_1, .slice A1_2 l1_2.length c1_2]) (t := 60) ?hr ?_; (case hd => rfl); (case hg => rfl); (case hr => first | (go_simp; done) | (go_simp; rfl)); intro gb441 hg w21 hbox hb; have n0_ := Aside0.mk (blk_below (g := gb440) (o := .cells #[.slice A0_0 l0_0.length c0_0, .slice A0_1 l0_1.length c0_1, .slice A0_2 l0_2.length c0_2] 60 (0, 0)) (by (with_reducible repeat (first | refine blk_drewN ?_ _ | refine blk_drew ?_ | refine blk_alloc ?_ _)); exact BK440.out) hb); have n1_ := Aside0.mk (below_step (by repeat (first | (with_reducible first | exact HB.out | apply below_alloc | apply pw_below_drewN | apply below_drew1 | refine below_set ?_ GE440.out) | exact HB.out)) hb); have n2_ := Aside0.mk (hbox); have n3_ := Aside0.mk ((by rw [hg]; exact (below_size (by repeat (first | (with_reducible first | exact HB.out | apply below_alloc | apply pw_below_drewN | apply below_drew1 | refine below_set ?_ GE440.out) | exact HB.out))) : w.heap.size ≤ gb441)); have n4_ := Aside0.mk ((by rw [hg]; exact (below_size (by repeat (first | (with_reducible first | exact HB.out | apply below_alloc | apply pw_below_drewN | apply below_drew1 | refine below_set ?_ GE440.out) | exact HB.out))) : w.heap.size ≤ gb441)); have n5_ := Aside0.mk ((by rw [hg]; exact Nat.ne_of_lt (blk_lt (g := gb440) (o := .cells #[.slice A0_0 l0_0.length c0_0, .slice A0_1 l0_1.length c0_1, .slice A0_2 l0_2.length c0_2] 60 (0, 0)) (by (with_reducible repeat (first | refine blk_drewN ?_ _ | refine blk_drew ?_ | refine blk_alloc ?_ _)); exact BK440.out)) : gb440 ≠ gb441)); have n6_ := Aside0.mk ((by rw [hg]; exact Nat.ne_of_gt (blk_lt (g := gb440) (o := .cells #[.slice A0_0 l0_0.length c0_0, .slice A0_1 l0_1.length c0_1, .slice A0_2 l0_2.length c0_2] 60 (0, 0)) (by (with_reducible repeat (first | refine blk_drewN ?_ _ | refine blk_drew ?_ | refine blk_alloc ?_ _)); exact BK440.out)) : gb441 ≠ gb440)); clear BK440; clear HB; have BK440 := n0_; have HB := n1_; have BK441 := n2_; have GW441 := n3_; have GE441 := n4_; have NB440_441 := n5_; have NB441_440 := n6_; clear n0_ n1_ n2_ n3_ n4_ n5_ n6_; clear hb hbox hg; have hnb22 := NB440_441.out; have hnc22 := NB441_440.out; have hcz23_0 : w21.cell? ⟨gb440, 0, none⟩ = some (.slice A0_0 l0_0.length c0_0) := (blk_cell BK440.out 0).trans rfl; have hcz23_1 : w21.cell? ⟨gb440, 1, none⟩ = some (.slice A0_1 l0_1.length c0_1) := (blk_cell BK440.out 1).trans rfl; have hcz23_2 : w21.cell? ⟨gb440, 2, none⟩ = some (.slice A0_2 l0_2.length c0_2) := (blk_cell BK440.out 2).trans rfl; have hfz23_0 := blk_frozen BK440.out 0; have hfz23_1 := blk_frozen BK440.out 1; have hfz23_2 := blk_frozen BK440.out 2; have hcz24_0 : w21.cell? ⟨gb441, 0, none⟩ = some (.slice A1_0 l1_0.length c1_0) := (blk_cell BK441.out 0).trans rfl; have hcz24_1 : w21.cell? ⟨gb441, 1, none⟩ = some (.slice A1_1 l1_1.length c1_1) := (blk_cell BK441.out 1).trans rfl; have hcz24_2 : w21.cell? ⟨gb441, 2, none⟩ = some (.slice A1_2 l1_2.length c1_2) := (blk_cell BK441.out 2).trans rfl; have hfz24_0 := blk_frozen BK441.out 0; have hfz24_1 := blk_frozen BK441.out 1; have hfz24_2 := blk_frozen BK441.out 2) | ((with_reducible refine gate_callee (f := 19) rfl ?_); refine goesL_ (some 9) rfl rfl Try.func19 (by kernel_rfl) rfl #[.agg #[.slice A0_0 l0_0.length c0_0], .agg #[.slice A1_0 l1_0.length c1_0]] rfl (by (try simp only [List.map_toArray, List.map_cons, List.map_nil]); first | done | rfl | (simp only [List.length_drop, List.length_take]; rfl)) ?_; (with_reducible refine (laws_eqMemory.calls k _ _ l0_0 _ _ l1_0 true _ ?side1 ?side2 ?side3 ?side4 A3.out).mono ?_); (case side1 => repeat (first | exact (Kd.C_below HR0_0.out HB.out) | (with_reducible refine Kd.C_alloc ?_ _) | (with_reducible refine Kd.C_drewN ?_ _) | (with_reducible refine Kd.C_drew ?_))); (case side2 => exact HC0_0.out); (case side3 => repeat (first | exact (Kd.C_below HR1_0.out HB.out) | (with_reducible refine Kd.C_alloc ?_ _) | (with_reducible refine Kd.C_drewN ?_ _) | (with_reducible refine Kd.C_drew ?_))); (case side4 => exact HC1_0.out); rintro e w25 ⟨rfl, hb⟩; refine ⟨_, rfl, ?_⟩; have n0_ := Aside0.mk (blk_below (g := gb440) (o := .cells #[.slice A0_0 l0_0.length c0_0, .slice A0_1 l0_1.length c0_1, .slice A0_2 l0_2.length c0_2] 60 (0, 0)) (by (with_reducible repeat (first | refine blk_drewN ?_ _ | refine blk_drew ?_ | refine blk_alloc ?_ _)); exact BK440.out) hb); have n1_ := Aside0.mk (blk_below (g := gb441) (o := .cells #[.slice A1_0 l1_0.length c1_0, .slice A1_1 l1_1.length c1_1, .slice A1_2 l1_2.length c1_2] 60 (0, 0)) (by (with_reducible repeat (first | refine blk_drewN ?_ _ | refine blk_drew ?_ | refine blk_alloc ?_ _)); exact BK441.out) hb); have n2_ := Aside0.mk (below_step (by repeat (first | (with_reducible first | exact HB.out | apply below_alloc | apply pw_below_drewN | apply below_drew1 | refine below_set ?_ GE440.out | refine below_set ?_ GE441.out) | exact HB.out)) hb); clear BK440; clear BK441; clear HB; have BK440 := n0_; have BK441 := n1_; have HB := n2_; clear n0_ n1_ n2_; (try clear hb); (try clear hb2); (try clear hk); (try clear hi); have hcz26_0 : w25.cell? ⟨gb440, 0, none⟩ = some (.slice A0_0 l0_0.length c0_0) := (blk_cell BK440.out 0).trans rfl; have hcz26_1 : w25.cell? ⟨gb440, 1, none⟩ = some (.slice A0_1 l0_1.length c0_1) := (blk_cell BK440.out 1).trans rfl; have hcz26_2 : w25.cell? ⟨gb440, 2, none⟩ = some (.slice A0_2 l0_2.length c0_2) := (blk_cell BK440.out 2).trans rfl; have hfz26_0 := blk_frozen BK440.out 0; have hfz26_1 := blk_frozen BK440.out 1; have hfz26_2 := blk_frozen BK440.out 2; have hcz27_0 : w25.cell? ⟨gb441, 0, none⟩ = some (.slice A1_0 l1_0.length c1_0) := (blk_cell BK441.out 0).trans rfl; have hcz27_1 : w25.cell? ⟨gb441, 1, none⟩ = some (.slice A1_1 l1_1.length c1_1) := (blk_cell BK441.out 1).trans rfl; have hcz27_2 : w25.cell? ⟨gb441, 2, none⟩ = some (.slice A1_2 l1_2.length c1_2) := (blk_cell BK441.out 2).trans rfl; have hfz27_0 := blk_frozen BK441.out 0; have hfz27_1 := blk_frozen BK441.out 1; have hfz27_2 := blk_frozen BK441.out 2) | ((with_reducible refine gate_callee (f := 77) rfl ?_); refine goesL_ (some 15) rfl rfl Try.func77 (by kernel_rfl) rfl #[.slice A0_1 l0_1.length c0_1, .slice A1_1 l1_1.length c1_1] rfl (by (try simp only [List.map_toArray, List.map_cons, List.map_nil]); first | done | rfl | (simp only [List.length_drop, List.length_take]; rfl)) ?_; (with_reducible refine (laws_eqWindowS.calls k _ _ l0_1 _ _ l1_1 true _ ?side1 ?side2 ?side3 ?side4 A5.out).mono ?_); (case side1 => repeat (first | exact (Kd.C_below HR0_1.out HB.out) | (with_reducible refine Kd.C_alloc ?_ _) | (with_reducible refine Kd.C_drewN ?_ _) | (with_reducible refine Kd.C_drew ?_))); (case side2 => exact HC0_1.out); (case side3 => repeat (first | exact (Kd.C_below HR1_1.out HB.out) | (with_reducible refine Kd.C_alloc ?_ _) | (with_reducible refine Kd.C_drewN ?_ _) | (with_reducible refine Kd.C_drew ?_))); (case side4 => exact HC1_1.out); rintro e w28 ⟨rfl, hb⟩; refine ⟨_, rfl, ?_⟩; have n0_ := Aside0.mk (blk_below (g := gb440) (o := .cells #[.slice A0_0 l0_0.length c0_0, .slice A0_1 l0_1.length c0_1, .slice A0_2 l0_2.length c0_2] 60 (0, 0)) (by (with_reducible repeat (first | refine blk_drewN ?_ _ | refine blk_drew ?_ | refine blk_alloc ?_ _)); exact BK440.out) hb); have n1_ := Aside0.mk (blk_below (g := gb441) (o := .cells #[.slice A1_0 l1_0.length c1_0, .slice A1_1 l1_1.length c1_1, .slice A1_2 l1_2.length c1_2] 60 (0, 0)) (by (with_reducible repeat (first | refine blk_drewN ?_ _ | refine blk_drew ?_ | refine blk_alloc ?_ _)); exact BK441.out) hb); have n2_ := Aside0.mk (below_step (by repeat (first | (with_reducible first | exact HB.out | apply below_alloc | apply pw_below_drewN | apply below_drew1 | refine below_set ?_ GE440.out | refine below_set ?_ GE441.out) | exact HB.out)) hb); clear BK440; clear BK441; clear HB; have BK440 := n0_; have BK441 := n1_; have HB := n2_; clear n0_ n1_ n2_; (try clear hb); (try clear hb2); (try clear hk); (try clear hi); have hcz29_0 : w28.cell? ⟨gb440, 0, none⟩ = some (.slice A0_0 l0_0.length c0_0) := (blk_cell BK440.out 0).trans rfl; have hcz29_1 : w28.cell? ⟨gb440, 1, none⟩ = some (.slice A0_1 l0_1.length c0_1) := (blk_cell BK440.out 1).trans rfl; have hcz29_2 : w28.cell? ⟨gb440, 2, none⟩ = some (.slice A0_2 l0_2.length c0_2) := (blk_cell BK440.out 2).trans rfl; have hfz29_0 := blk_frozen BK440.out 0; have hfz29_1 := blk_frozen BK440.out 1; have hfz29_2 := blk_frozen BK440.out 2; have hcz30_0 : w28.cell? ⟨gb441, 0, none⟩ = some (.slice A1_0 l1_0.length c1_0) := (blk_cell BK441.out 0).trans rfl; have hcz30_1 : w28.cell? ⟨gb441, 1, none⟩ = some (.slice A1_1 l1_1.length c1_1) := (blk_cell BK441.out 1).trans rfl; have hcz30_2 : w28.cell? ⟨gb441, 2, none⟩ = some (.slice A1_2 l1_2.length c1_2) := (blk_cell BK441.out 2).trans rfl; have hfz30_0 := blk_frozen BK441.out 0; have hfz30_1 := blk_frozen BK441.out 1; have hfz30_2 := blk_frozen BK441.out 2) | ((with_reducible refine gate_callee (f := 94) rfl ?_); refine goesL_ (some 21) rfl rfl Try.func94 (by kernel_rfl) rfl #[.slice A0_2 l0_2.length c0_2, .slice A1_2 l1_2.length c1_2] rfl (by (try simp only [List.map_toArray, List.map_cons, List.map_nil]); first | done | rfl | (simp only [List.length_drop, List.length_take]; rfl)) ?_; (with_reducible refine (laws_eqBoolS.calls k _ _ l0_2 _ _ l1_2 false _ ?side1 ?side2 ?side3 ?side4 A7.out).mono ?_); (case side1 => repeat (first | exact (Kd.C_below HR0_2.out HB.out) | (with_reducible refine Kd.C_alloc ?_ _) | (with_reducible refine Kd.C_drewN ?_ _) | (with_reducible refine Kd.C_drew ?_))); (case side2 => exact HC0_2.out); (case side3 => repeat (first | exact (Kd.C_below HR1_2.out HB.out) | (with_reducible refine Kd.C_alloc ?_ _) | (with_reducible refine Kd.C_drewN ?_ _) | (with_reducible refine Kd.C_drew ?_))); (case side4 => exact HC1_2.out); rintro e w' ⟨rfl, ⟨nd, rfl⟩⟩; refine ⟨_, rfl, ?_⟩))
        go_ret
        exact ⟨by first | rfl | (simp [errW_none, errW_some] <;> rfl) | (simp [*, errW_none, errW_some] <;> rfl), by repeat (first | (with_reducible first | exact HB.out | apply below_alloc | apply pw_below_drewN | apply below_drew1 | refine below_set ?_ GE440.out | refine below_set ?_ GE441.out) | exact HB.out)⟩
    · replace c6 := Bool.eq_false_iff.mpr c6
      subst c6
      have H1 : (some false) = some r := by rw [if_neg (show ¬ (false = true) by decide)] at H; exact H
      clear H
      have H := H1
      clear H1
      obtain rfl := Option.some.inj H
      go_enter Try.func35, Try.ntmps35
      go_wp2_with (first | ((with_reducible refine gate_dst (N := 2) rfl ?_); refine box_event ?hg (N := 2) ?hd (cs := #[.slice A0_0 l0_0.length c0_0, .slice A0_1 l0_1.length c0_1, .slice A0_2 l0_2.length c0_2]) (t := 60) ?hr ?_; (case hd => rfl); (case hg => rfl); (case hr => first | (go_simp; done) | (go_simp; rfl)); intro gb440 hg w31 hbox hb; have n0_ := Aside0.mk (below_step (by repeat (first | (with_reducible first | exact HB.out | apply below_alloc | apply pw_below_drewN | apply below_drew1) | exact HB.out)) hb); have n1_ := Aside0.mk (hbox); have n2_ := Aside0.mk ((by rw [hg]; exact (below_size (by repeat (first | (with_reducible first | exact HB.out | apply below_alloc | apply pw_below_drewN | apply below_drew1) | exact HB.out))) : w.heap.size ≤ gb440)); have n3_ := Aside0.mk ((by rw [hg]; exact (below_size (by repeat (first | (with_reducible first | exact HB.out | apply below_alloc | apply pw_below_drewN | apply below_drew1) | exact HB.out))) : w.heap.size ≤ gb440)); clear HB; have HB := n0_; have BK440 := n1_; have GW440 := n2_; have GE440 := n3_; clear n0_ n1_ n2_ n3_; clear hb hbox hg) | ((with_reducible refine gate_dst (N := 3) rfl ?_); refine box_event ?hg (N := 3) ?hd (cs := #[.slice A1_0 l1_0.length c1_0, .slice A1_1 l1_1.length c1_1, .slice A1_2 l1_2.length c1_2]) (t := 60) ?hr ?_; (case hd => rfl); (case hg => rfl); (case hr => first | (go_simp; done) | (go_simp; rfl)); intro gb441 hg w32 hbox hb; have n0_ := Aside0.mk (blk_below (g := gb440) (o := .cells #[.slice A0_0 l0_0.length c0_0, .slice A0_1 l0_1.length c0_1, .slice A0_2 l0_2.length c0_2] 60 (0, 0)) (by (with_reducible repeat (first | refine blk_drewN ?_ _ | refine blk_drew ?_ | refine blk_alloc ?_ _)); exact BK440.out) hb); have n1_ := Aside0.mk (below_step (by repeat (first | (with_reducible first | exact HB.out | apply below_alloc | apply pw_below_drewN | apply below_drew1 | refine below_set ?_ GE440.out) | exact HB.out)) hb); have n2_ := Aside0.mk (hbox); have n3_ := Aside0.mk ((by rw [hg]; exact (below_size (by repeat (first | (with_reducible first | exact HB.out | apply below_alloc | apply pw_below_drewN | apply below_drew1 | refine below_set ?_ GE440.out) | exact HB.out))) : w.heap.size ≤ gb441)); have n4_ := Aside0.mk ((by rw [hg]; exact (below_size (by repeat (first | (with_reducible first | exact HB.out | apply below_alloc | apply pw_below_drewN | apply below_drew1 | refine below_set ?_ GE440.out) | exact HB.out))) : w.heap.size ≤ gb441)); have n5_ := Aside0.mk ((by rw [hg]; exact Nat.ne_of_lt (blk_lt (g := gb440) (o := .cells #[.slice A0_0 l0_0.length c0_0, .slice A0_1 l0_1.length c0_1, .slice A0_2 l0_2.length c0_2] 60 (0, 0)) (by (with_reducible repeat (first | refine blk_drewN ?_ _ | refine blk_drew ?_ | refine blk_alloc ?_ _)); exact BK440.out)) : gb440 ≠ gb441)); have n6_ := Aside0.mk ((by rw [hg]; exact Nat.ne_of_gt (blk_lt (g := gb440) (o := .cells #[.slice A0_0 l0_0.length c0_0, .slice A0_1 l0_1.length c0_1, .slice A0_2 l0_2.length c0_2] 60 (0, 0)) (by (with_reducible repeat (first | refine blk_drewN ?_ _ | refine blk_drew ?_ | refine blk_alloc ?_ _)); exact BK440.out)) : gb441 ≠ gb440)); clear BK440; clear HB; have BK440 := n0_; have HB := n1_; have BK441 := n2_; have GW441 := n3_; have GE441 := n4_; have NB440_441 := n5_; have NB441_440 := n6_; clear n0_ n1_ n2_ n3_ n4_ n5_ n6_; clear hb hbox hg; have hnb33 := NB440_441.out; have hnc33 := NB441_440.out; have hcz34_0 : w32.cell? ⟨gb440, 0, none⟩ = some (.slice A0_0 l0_0.length c0_0) := (blk_cell BK440.out 0).trans rfl; have hcz34_1 : w32.cell? ⟨gb440, 1, none⟩ = some (.slice A0_1 l0_1.length c0_1) := (blk_cell BK440.out 1).trans rfl; have hcz34_2 : w32.cell? ⟨gb440, 2, none⟩ = some (.slice A0_2 l0_2.length c0_2) := (blk_cell BK440.out 2).trans rfl; have hfz34_0 := blk_frozen BK440.out 0; have hfz34_1 := blk_frozen BK440.out 1; have hfz34_2 := blk_frozen BK440.out 2; have hcz35_0 : w32.cell? ⟨gb441, 0, none⟩ = some (.slice A1_0 l1_0.length c1_0) := (blk_cell BK441.out 0).trans rfl; have hcz35_1 : w32.cell? ⟨gb441, 1, none⟩ = some (.slice A1_1 l1_1.length c1_1) := (blk_cell BK441.out 1).trans rfl; have hcz35_2 : w32.cell? ⟨gb441, 2, none⟩ = some (.slice A1_2 l1_2.length c1_2) := (blk_cell BK441.out 2).trans rfl; have hfz35_0 := blk_frozen BK441.out 0; have hfz35_1 := blk_frozen BK441.out 1; have hfz35_2 := blk_frozen BK441.out 2) | ((with_reducible refine gate_callee (f := 19) rfl ?_); refine goesL_ (some 9) rfl rfl Try.func19 (by kernel_rfl) rfl #[.agg #[.slice A0_0 l0_0.length c0_0], .agg #[.slice A1_0 l1_0.length c1_0]] rfl (by (try simp only [List.map_toArray, List.map_cons, List.map_nil]); first | done | rfl | (simp only [List.length_drop, List.length_take]; rfl)) ?_; (with_reducible refine (laws_eqMemory.calls k _ _ l0_0 _ _ l1_0 true _ ?side1 ?side2 ?side3 ?side4 A3.out).mono ?_); (case side1 => repeat (first | exact (Kd.C_below HR0_0.out HB.out) | (with_reducible refine Kd.C_alloc ?_ _) | (with_reducible refine Kd.C_drewN ?_ _) | (with_reducible refine Kd.C_drew ?_))); (case side2 => exact HC0_0.out); (case side3 => repeat (first | exact (Kd.C_below HR1_0.out HB.out) | (with_reducible refine Kd.C_alloc ?_ _) | (with_reducible refine Kd.C_drewN ?_ _) | (with_reducible refine Kd.C_drew ?_))); (case side4 => exact HC1_0.out); rintro e w36 ⟨rfl, hb⟩; refine ⟨_, rfl, ?_⟩; have n0_ := Aside0.mk (blk_below (g := gb440) (o := .cells #[.slice A0_0 l0_0.length c0_0, .slice A0_1 l0_1.length c0_1, .slice A0_2 l0_2.length c0_2] 60 (0, 0)) (by (with_reducible repeat (first | refine blk_drewN ?_ _ | refine blk_drew ?_ | refine blk_alloc ?_ _)); exact BK440.out) hb); have n1_ := Aside0.mk (blk_below (g := gb441) (o := .cells #[.slice A1_0 l1_0.length c1_0, .slice A1_1 l1_1.length c1_1, .slice A1_2 l1_2.length c1_2] 60 (0, 0)) (by (with_reducible repeat (first | refine blk_drewN ?_ _ | refine blk_drew ?_ | refine blk_alloc ?_ _)); exact BK441.out) hb); have n2_ := Aside0.mk (below_step (by repeat (first | (with_reducible first | exact HB.out | apply below_alloc | apply pw_below_drewN | apply below_drew1 | refine below_set ?_ GE440.out | refine below_set ?_ GE441.out) | exact HB.out)) hb); clear BK440; clear BK441; clear HB; have BK440 := n0_; have BK441 := n1_; have HB := n2_; clear n0_ n1_ n2_; (try clear hb); (try clear hb2); (try clear hk); (try clear hi); have hcz37_0 : w36.cell? ⟨gb440, 0, none⟩ = some (.slice A0_0 l0_0.length c0_0) := (blk_cell BK440.out 0).trans rfl; have hcz37_1 : w36.cell? ⟨gb440, 1, none⟩ = some (.slice A0_1 l0_1.length c0_1) := (blk_cell BK440.out 1).trans rfl; have hcz37_2 : w36.cell? ⟨gb440, 2, none⟩ = some (.slice A0_2 l0_2.length c0_2) := (blk_cell BK440.out 2).trans rfl; have hfz37_0 := blk_frozen BK440.out 0; have hfz37_1 := blk_frozen BK440.out 1; have hfz37_2 := blk_frozen BK440.out 2; have hcz38_0 : w36.cell? ⟨gb441, 0, none⟩ = some (.slice A1_0 l1_0.length c1_0) := (blk_cell BK441.out 0).trans rfl; have hcz38_1 : w36.cell? ⟨gb441, 1, none⟩ = some (.slice A1_1 l1_1.length c1_1) := (blk_cell BK441.out 1).trans rfl; have hcz38_2 : w36.cell? ⟨gb441, 2, none⟩ = some (.slice A1_2 l1_2.length c1_2) := (blk_cell BK441.out 2).trans rfl; have hfz38_0 := blk_frozen BK441.out 0; have hfz38_1 := blk_frozen BK441.out 1; have hfz38_2 := blk_frozen BK441.out 2) | ((with_reducible refine gate_callee (f := 77) rfl ?_); refine goesL_ (some 15) rfl rfl Try.func77 (by kernel_rfl) rfl #[.slice A0_1 l0_1.length c0_1, .slice A1_1 l1_1.length c1_1] rfl (by (try simp only [List.map_toArray, List.map_cons, List.map_nil]); first | done | rfl | (simp only [List.length_drop, List.length_take]; rfl)) ?_; (with_reducible refine (laws_eqWindowS.calls k _ _ l0_1 _ _ l1_1 false _ ?side1 ?side2 ?side3 ?side4 A5.out).mono ?_); (case side1 => repeat (first | exact (Kd.C_below HR0_1.out HB.out) | (with_reducible refine Kd.C_alloc ?_ _) | (with_reducible refine Kd.C_drewN ?_ _) | (with_reducible refine Kd.C_drew ?_))); (case side2 => exact HC0_1.out); (case side3 => repeat (first | exact (Kd.C_below HR1_1.out HB.out) | (with_reducible refine Kd.C_alloc ?_ _) | (with_reducible refine Kd.C_drewN ?_ _) | (with_reducible refine Kd.C_drew ?_))); (case side4 => exact HC1_1.out); rintro e w39 ⟨rfl, hb⟩; refine ⟨_, rfl, ?_⟩; have n0_ := Aside0.mk (blk_below (g := gb440) (o := .cells #[.slice A0_0 l0_0.length c0_0, .slice A0_1 l0_1.length c0_1, .slice A0_2 l0_2.length c0_2] 60 (0, 0)) (by (with_reducible repeat (first | refine blk_drewN ?_ _ | refine blk_drew ?_ | refine blk_alloc ?_ _)); exact BK440.out) hb); have n1_ := Aside0.mk (blk_below (g := gb441) (o := .cells #[.slice A1_0 l1_0.length c1_0, .slice A1_1 l1_1.length c1_1, .slice A1_2 l1_2.length c1_2] 60 (0, 0)) (by (with_reducible repeat (first | refine blk_drewN ?_ _ | refine blk_drew ?_ | refine blk_alloc ?_ _)); exact BK441.out) hb); have n2_ := Aside0.mk (below_step (by repeat (first | (with_reducible first | exact HB.out | apply below_alloc | apply pw_below_drewN | apply below_drew1 | refine below_set ?_ GE440.out | refine below_set ?_ GE441.out) | exact HB.out)) hb); clear BK440; clear BK441; clear HB; have BK440 := n0_; have BK441 := n1_; have HB := n2_; clear n0_ n1_ n2_; (try clear hb); (try clear hb2); (try clear hk); (try clear hi)))
      go_ret
      exact ⟨by first | rfl | (simp [errW_none, errW_some] <;> rfl) | (simp [*, errW_none, errW_some] <;> rfl), by repeat (first | (with_reducible first | exact HB.out | apply below_alloc | apply pw_below_drewN | apply below_drew1 | refine below_set ?_ GE440.out | refine below_set ?_ GE441.out) | exact HB.out)⟩
  · replace c4 := Bool.eq_false_iff.mpr c4
    subst c4
    have H1 : (some false) = some r := by rw [if_neg (show ¬ (false = true) by decide)] at H; exact H
    clear H
    have H := H1
    clear H1
    obtain rfl := Option.some.inj H
    go_enter Try.func35, Try.ntmps35
    go_wp2_with (first | ((with_reducible refine gate_dst (N := 2) rfl ?_); refine box_event ?hg (N := 2) ?hd (cs := #[.slice A0_0 l0_0.length c0_0, .slice A0_1 l0_1.length c0_1, .slice A0_2 l0_2.length c0_2]) (t := 60) ?hr ?_; (case hd => rfl); (case hg => rfl); (case hr => first | (go_simp; done) | (go_simp; rfl)); intro gb440 hg w40 hbox hb; have n0_ := Aside0.mk (below_step (by repeat (first | (with_reducible first | exact HB.out | apply below_alloc | apply pw_below_drewN | apply below_drew1) | exact HB.out)) hb); have n1_ := Aside0.mk (hbox); have n2_ := Aside0.mk ((by rw [hg]; exact (below_size (by repeat (first | (with_reducible first | exact HB.out | apply below_alloc | apply pw_below_drewN | apply below_drew1) | exact HB.out))) : w.heap.size ≤ gb440)); have n3_ := Aside0.mk ((by rw [hg]; exact (below_size (by repeat (first | (with_reducible first | exact HB.out | apply below_alloc | apply pw_below_drewN | apply below_drew1) | exact HB.out))) : w.heap.size ≤ gb440)); clear HB; have HB := n0_; have BK440 := n1_; have GW440 := n2_; have GE440 := n3_; clear n0_ n1_ n2_ n3_; clear hb hbox hg) | ((with_reducible refine gate_dst (N := 3) rfl ?_); refine box_event ?hg (N := 3) ?hd (cs := #[.slice A1_0 l1_0.length c1_0, .slice A1_1 l1_1.length c1_1, .slice A1_2 l1_2.length c1_2]) (t := 60) ?hr ?_; (case hd => rfl); (case hg => rfl); (case hr => first | (go_simp; done) | (go_simp; rfl)); intro gb441 hg w41 hbox hb; have n0_ := Aside0.mk (blk_below (g := gb440) (o := .cells #[.slice A0_0 l0_0.length c0_0, .slice A0_1 l0_1.length c0_1, .slice A0_2 l0_2.length c0_2] 60 (0, 0)) (by (with_reducible repeat (first | refine blk_drewN ?_ _ | refine blk_drew ?_ | refine blk_alloc ?_ _)); exact BK440.out) hb); have n1_ := Aside0.mk (below_step (by repeat (first | (with_reducible first | exact HB.out | apply below_alloc | apply pw_below_drewN | apply below_drew1 | refine below_set ?_ GE440.out) | exact HB.out)) hb); have n2_ := Aside0.mk (hbox); have n3_ := Aside0.mk ((by rw [hg]; exact (below_size (by repeat (first | (with_reducible first | exact HB.out | apply below_alloc | apply pw_below_drewN | apply below_drew1 | refine below_set ?_ GE440.out) | exact HB.out))) : w.heap.size ≤ gb441)); have n4_ := Aside0.mk ((by rw [hg]; exact (below_size (by repeat (first | (with_reducible first | exact HB.out | apply below_alloc | apply pw_below_drewN | apply below_drew1 | refine below_set ?_ GE440.out) | exact HB.out))) : w.heap.size ≤ gb441)); have n5_ := Aside0.mk ((by rw [hg]; exact Nat.ne_of_lt (blk_lt (g := gb440) (o := .cells #[.slice A0_0 l0_0.length c0_0, .slice A0_1 l0_1.length c0_1, .slice A0_2 l0_2.length c0_2] 60 (0, 0)) (by (with_reducible repeat (first | refine blk_drewN ?_ _ | refine blk_drew ?_ | refine blk_alloc ?_ _)); exact BK440.out)) : gb440 ≠ gb441)); have n6_ := Aside0.mk ((by rw [hg]; exact Nat.ne_of_gt (blk_lt (g := gb440) (o := .cells #[.slice A0_0 l0_0.length c0_0, .slice A0_1 l0_1.length c0_1, .slice A0_2 l0_2.length c0_2] 60 (0, 0)) (by (with_reducible repeat (first | refine blk_drewN ?_ _ | refine blk_drew ?_ | refine blk_alloc ?_ _)); exact BK440.out)) : gb441 ≠ gb440)); clear BK440; clear HB; have BK440 := n0_; have HB := n1_; have BK441 := n2_; have GW441 := n3_; have GE441 := n4_; have NB440_441 := n5_; have NB441_440 := n6_; clear n0_ n1_ n2_ n3_ n4_ n5_ n6_; clear hb hbox hg; have hnb42 := NB440_441.out; have hnc42 := NB441_440.out; have hcz43_0 : w41.cell? ⟨gb440, 0, none⟩ = some (.slice A0_0 l0_0.length c0_0) := (blk_cell BK440.out 0).trans rfl; have hcz43_1 : w41.cell? ⟨gb440, 1, none⟩ = some (.slice A0_1 l0_1.length c0_1) := (blk_cell BK440.out 1).trans rfl; have hcz43_2 : w41.cell? ⟨gb440, 2, none⟩ = some (.slice A0_2 l0_2.length c0_2) := (blk_cell BK440.out 2).trans rfl; have hfz43_0 := blk_frozen BK440.out 0; have hfz43_1 := blk_frozen BK440.out 1; have hfz43_2 := blk_frozen BK440.out 2; have hcz44_0 : w41.cell? ⟨gb441, 0, none⟩ = some (.slice A1_0 l1_0.length c1_0) := (blk_cell BK441.out 0).trans rfl; have hcz44_1 : w41.cell? ⟨gb441, 1, none⟩ = some (.slice A1_1 l1_1.length c1_1) := (blk_cell BK441.out 1).trans rfl; have hcz44_2 : w41.cell? ⟨gb441, 2, none⟩ = some (.slice A1_2 l1_2.length c1_2) := (blk_cell BK441.out 2).trans rfl; have hfz44_0 := blk_frozen BK441.out 0; have hfz44_1 := blk_frozen BK441.out 1; have hfz44_2 := blk_frozen BK441.out 2) | ((with_reducible refine gate_callee (f := 19) rfl ?_); refine goesL_ (some 9) rfl rfl Try.func19 (by kernel_rfl) rfl #[.agg #[.slice A0_0 l0_0.length c0_0], .agg #[.slice A1_0 l1_0.length c1_0]] rfl (by (try simp only [List.map_toArray, List.map_cons, List.map_nil]); first | done | rfl | (simp only [List.length_drop, List.length_take]; rfl)) ?_; (with_reducible refine (laws_eqMemory.calls k _ _ l0_0 _ _ l1_0 false _ ?side1 ?side2 ?side3 ?side4 A3.out).mono ?_); (case side1 => repeat (first | exact (Kd.C_below HR0_0.out HB.out) | (with_reducible refine Kd.C_alloc ?_ _) | (with_reducible refine Kd.C_drewN ?_ _) | (with_reducible refine Kd.C_drew ?_))); (case side2 => exact HC0_0.out); (case side3 => repeat (first | exact (Kd.C_below HR1_0.out HB.out) | (with_reducible refine Kd.C_alloc ?_ _) | (with_reducible refine Kd.C_drewN ?_ _) | (with_reducible refine Kd.C_drew ?_))); (case side4 => exact HC1_0.out); rintro e w45 ⟨rfl, hb⟩; refine ⟨_, rfl, ?_⟩; have n0_ := Aside0.mk (blk_below (g := gb440) (o := .cells #[.slice A0_0 l0_0.length c0_0, .slice A0_1 l0_1.length c0_1, .slice A0_2 l0_2.length c0_2] 60 (0, 0)) (by (with_reducible repeat (first | refine blk_drewN ?_ _ | refine blk_drew ?_ | refine blk_alloc ?_ _)); exact BK440.out) hb); have n1_ := Aside0.mk (blk_below (g := gb441) (o := .cells #[.slice A1_0 l1_0.length c1_0, .slice A1_1 l1_1.length c1_1, .slice A1_2 l1_2.length c1_2] 60 (0, 0)) (by (with_reducible repeat (first | refine blk_drewN ?_ _ | refine blk_drew ?_ | refine blk_alloc ?_ _)); exact BK441.out) hb); have n2_ := Aside0.mk (below_step (by repeat (first | (with_reducible first | exact HB.out | apply below_alloc | apply pw_below_drewN | apply below_drew1 | refine below_set ?_ GE440.out | refine below_set ?_ GE441.out) | exact HB.out)) hb); clear BK440; clear BK441; clear HB; have BK440 := n0_; have BK441 := n1_; have HB := n2_; clear n0_ n1_ n2_; (try clear hb); (try clear hb2); (try clear hk); (try clear hi)))
    go_ret
    exact ⟨by first | rfl | (simp [errW_none, errW_some] <;> rfl) | (simp [*, errW_none, errW_some] <;> rfl), by repeat (first | (with_reducible first | exact HB.out | apply below_alloc | apply pw_below_drewN | apply below_drew1 | refine below_set ?_ GE440.out | refine below_set ?_ GE441.out) | exact HB.out)⟩

end Go.Proofs.Ytoomjghabiojkaa.P


/- Equality of machines. -/
namespace Go.Proofs.Ytoomjghabiojkaa.P
open Go.RowKit Go.Proofs.YtoomjghabiojkaaW.PrintWords
set_option linter.unusedVariables false
theorem eqMachine_f (m : List (List Int)) (l : List SimplWindow) (s : List Bool) (h : okM m) (hl : l.length ≤ 1048576) (hs : s.length ≤ 1048576) : Ev (fun k => laws_eqMachine.f k m l s m l s) true := by
  refine Ev.bind (eqM m h) ?_
  simp only [if_true]
  refine Ev.bind (eqWindowS_f l (by omega)) ?_
  simp only [if_true]
  refine Ev.bind (eqBoolS_f s (by omega)) ?_
  simp only [if_true]
  exact Ev.now _
end Go.Proofs.Ytoomjghabiojkaa.P


namespace Go.Proofs.Ytoomjghabiojkaa.P
open Go.RowKit Go.Proofs.YtoomjghabiojkaaW.PrintWords Go.Proofs.YtoomjghabiojkaaW.PrintLast Go.Proofs.YtoomjghabiojkaaW.PrintMore
attribute [local go_sem] max2_int min2_int max_two min_two max_three min_three max_four min_four   -- for this text's walks alone
set_option linter.unusedVariables false
set_option linter.unusedSimpArgs false

def laws_szBoolS.f (l0 : List Bool) (a1 : Int) : Option (Int) := if (wrap64 (a1 - (l0.length : Int))) < 0 then (some (-1)) else (some (wrap64 (a1 - (l0.length : Int))))
set_option maxHeartbeats 8000000 in
set_option maxRecDepth 100000 in
theorem laws_szBoolS.calls (A0 : Option Addr) (c0 : Nat) (l0 : List Bool) (a1 : Int) (r : Int) (w : World) (hr0 : Kd.C Kd.bool w A0 l0.length l0) (hc0 : l0.length ≤ c0) (h : laws_szBoolS.f l0 a1 = some r) :
    Calls Try.prog 105 #[.slice A0 l0.length c0, .int .i64 a1] w fun e w' => e = .returned (.int .i64 r) ∧ Drawn0 w w' := by
  have HR0 := Aside0.mk hr0
  have HC0 := Aside0.mk hc0
  clear hr0 hc0
  have H : (if (wrap64 (a1 - (l0.length : Int))) < 0 then (some (-1)) else (some (wrap64 (a1 - (l0.length : Int))))) = some r := h
  clear h
  by_cases c3 : (wrap64 (a1 - (l0.length : Int))) < 0
  · rw [if_pos c3] at H
    have c3b0 : decide ((wrap64 (a1 - (l0.length : Int))) < 0) = true := decide_eq_true c3
    clear c3
    obtain rfl := Option.some.inj H
    go_enter Try.func105, Try.ntmps105
    go_wp2
    go_ret
    exact ⟨by first | rfl | (simp; done) | (simp [*]; done), by repeat (first | exact Drawn0.refl _ | apply Drawn0.step)⟩
  · rw [if_neg c3] at H
    have c3b0 : decide ((wrap64 (a1 - (l0.length : Int))) < 0) = false := decide_eq_false c3
    clear c3
    obtain rfl := Option.some.inj H
    go_enter Try.func105, Try.ntmps105
    go_wp2
    go_ret
    exact ⟨by first | rfl | (simp; done) | (simp [*]; done), by repeat (first | exact Drawn0.refl _ | apply Drawn0.step)⟩

end Go.Proofs.Ytoomjghabiojkaa.P


namespace Go.Proofs.Ytoomjghabiojkaa.P
open Go.RowKit Go.Proofs.YtoomjghabiojkaaW.PrintWords Go.Proofs.YtoomjghabiojkaaW.PrintLast Go.Proofs.YtoomjghabiojkaaW.PrintMore
attribute [local go_sem] max2_int min2_int max_two min_two max_three min_three max_four min_four   -- for this text's walks alone
set_option linter.unusedVariables false
set_option linter.unusedSimpArgs false

def laws_szMachine.f (k : Nat) (l0_0 : List (List Int)) (l0_1 : List (SlawsWindow)) (l0_2 : List Bool) (a1 : Int) : Option (Int) := (laws_szMemory.f k l0_0 a1).bind fun t658 => (if t658 < 0 then (some (-1)) else ((laws_szWindowS.f l0_1 t658).bind fun t659 => (if t659 < 0 then (some (-1)) else ((laws_szBoolS.f l0_2 t659).bind fun t660 => (if t660 < 0 then (some (-1)) else (some t660))))))
set_option maxHeartbeats 8000000 in
set_option maxRecDepth 100000 in
theorem laws_szMachine.calls (k : Nat) (A0_0 : Option Addr) (c0_0 : Nat) (l0_0 : List (List Int)) (A0_1 : Option Addr) (c0_1 : Nat) (l0_1 : List (SlawsWindow)) (A0_2 : Option Addr) (c0_2 : Nat) (l0_2 : List Bool) (a1 : Int) (r : Int) (w : World) (hr0_0 : Kd.C (Kd.slice 5 (Kd.int .u8)) w A0_0 l0_0.length l0_0) (hc0_0 : l0_0.length ≤ c0_0) (hr0_1 : Kd.C klawsWindow w A0_1 l0_1.length l0_1) (hc0_1 : l0_1.length ≤ c0_1) (hr0_2 : Kd.C Kd.bool w A0_2 l0_2.length l0_2) (hc0_2 : l0_2.length ≤ c0_2) (h : laws_szMachine.f k l0_0 l0_1 l0_2 a1 = some r) :
    Calls Try.prog 46 #[.agg #[.slice A0_0 l0_0.length c0_0, .slice A0_1 l0_1.length c0_1, .slice A0_2 l0_2.length c0_2], .int .i64 a1] w fun e w' => e = .returned (.int .i64 r) ∧ Below w.heap.size w w' := by
  have hu78 := Try.underlying78
  have hu24 := Try.underlying24
  have HR0_0 := Aside0.mk hr0_0
  have HC0_0 := Aside0.mk hc0_0
  clear hr0_0 hc0_0
  have HR0_1 := Aside0.mk hr0_1
  have HC0_1 := Aside0.mk hc0_1
  clear hr0_1 hc0_1
  have HR0_2 := Aside0.mk hr0_2
  have HC0_2 := Aside0.mk hc0_2
  clear hr0_2 hc0_2
  have HB := Aside0.mk (Below.refl w.heap.size w)
  have H : ((laws_szMemory.f k l0_0 a1).bind fun t658 => (if t658 < 0 then (some (-1)) else ((laws_szWindowS.f l0_1 t658).bind fun t659 => (if t659 < 0 then (some (-1)) else ((laws_szBoolS.f l0_2 t659).bind fun t660 => (if t660 < 0 then (some (-1)) else (some t660))))))) = some r := h
  clear h
  replace H := Option.bind_eq_some_iff.mp H
  obtain ⟨t658, A30, H⟩ := H
  replace H : (if t658 < 0 then (some (-1)) else ((laws_szWindowS.f l0_1 t658).bind fun t659 => (if t659 < 0 then (some (-1)) else ((laws_szBoolS.f l0_2 t659).bind fun t660 => (if t660 < 0 then (some (-1)) else (some t660)))))) = some r := H
  have A3 := Aside0.mk A30
  clear A30
  by_cases c4 : t658 < 0
  · rw [if_pos c4] at H
    have c4b0 : decide (t658 < 0) = true := decide_eq_true c4
    clear c4
    obtain rfl := Option.some.inj H
    go_enter Try.func46, Try.ntmps46
    go_wp2_with (first | ((with_reducible refine gate_dst (N := 2) rfl ?_); refine box_event ?hg (N := 2) ?hd (cs := #[.slice A0_0 l0_0.length c0_0, .slice A0_1 l0_1.length c0_1, .slice A0_2 l0_2.length c0_2]) (t := 78) ?hr ?_; (case hd => rfl); (case hg => rfl); (case hr => first | (go_simp; done) | (go_simp; rfl)); intro gb657 hg w5 hbox hb; have n0_ := Aside0.mk (below_step (by repeat (first | (with_reducible first | exact HB.out | apply below_alloc | apply pw_below_drewN | apply below_drew1) | exact HB.out)) hb); have n1_ := Aside0.mk (hbox); have n2_ := Aside0.mk ((by rw [hg]; exact (below_size (by repeat (first | (with_reducible first | exact HB.out | apply below_alloc | apply pw_below_drewN | apply below_drew1) | exact HB.out))) : w.heap.size ≤ gb657)); have n3_ := Aside0.mk ((by rw [hg]; exact (below_size (by repeat (first | (with_reducible first | exact HB.out | apply below_alloc | apply pw_below_drewN | apply below_drew1) | exact HB.out))) : w.heap.size ≤ gb657)); clear HB; have HB := n0_; have BK657 := n1_; have GW657 := n2_; have GE657 := n3_; clear n0_ n1_ n2_ n3_; clear hb hbox hg; have hcz6_0 : w5.cell? ⟨gb657, 0, none⟩ = some (.slice A0_0 l0_0.length c0_0) := (blk_cell BK657.out 0).trans rfl; have hcz6_1 : w5.cell? ⟨gb657, 1, none⟩ = some (.slice A0_1 l0_1.length c0_1) := (blk_cell BK657.out 1).trans rfl; have hcz6_2 : w5.cell? ⟨gb657, 2, none⟩ = some (.slice A0_2 l0_2.length c0_2) := (blk_cell BK657.out 2).trans rfl; have hfz6_0 := blk_frozen BK657.out 0; have hfz6_1 := blk_frozen BK657.out 1; have hfz6_2 := blk_frozen BK657.out 2) | ((with_reducible refine gate_callee (f := 14) rfl ?_); refine goesL_ (some 8) rfl rfl Try.func14 (by kernel_rfl) rfl #[.agg #[.slice A0_0 l0_0.length c0_0], .int .i64 a1] rfl (by (try simp only [List.map_toArray, List.map_cons, List.map_nil]); first | done | rfl | (simp only [List.length_drop, List.length_take]; rfl)) ?_; (with_reducible refine (laws_szMemory.calls k _ _ l0_0 a1 t658 _ ?side1 ?side2 A3.out).mono ?_); (case side1 => repeat (first | exact (Kd.C_below HR0_0.out HB.out) | (with_reducible refine Kd.C_alloc ?_ _) | (with_reducible refine Kd.C_drewN ?_ _) | (with_reducible refine Kd.C_drew ?_))); (case side2 => exact HC0_0.out); rintro e w7 ⟨rfl, hb⟩; refine ⟨_, rfl, ?_⟩; have n0_ := Aside0.mk (blk_below (g := gb657) (o := .cells #[.slice A0_0 l0_0.length c0_0, .slice A0_1 l0_1.length c0_1, .slice A0_2 l0_2.length c0_2] 78 (0, 0)) (by (with_reducible repeat (first | refine blk_drewN ?_ _ | refine blk_drew ?_ | refine blk_alloc ?_ _)); exact BK657.out) hb); have n1_ := Aside0.mk (below_step (by repeat (first | (with_reducible first | exact HB.out | apply below_alloc | apply pw_below_drewN | apply below_drew1 | refine below_set ?_ GE657.out) | exact HB.out)) hb); clear BK657; clear HB; have BK657 := n0_; have HB := n1_; clear n0_ n1_; (try clear hb); (try clear hb2); (try clear hk); (try clear hi)))
    go_ret
    exact ⟨by first | rfl | (simp [errW_none, errW_some] <;> rfl) | (simp [*, errW_none, errW_some] <;> rfl), by repeat (first | (with_reducible first | exact HB.out | apply below_alloc | apply pw_below_drewN | apply below_drew1 | refine below_set ?_ GE657.out) | exact HB.out)⟩
  · rw [if_neg c4] at H
    have c4b0 : decide (t658 < 0) = false := decide_eq_false c4
    clear c4
    replace H := Option.bind_eq_some_iff.mp H
    obtain ⟨t659, A80, H⟩ := H
    replace H : (if t659 < 0 then (some (-1)) else ((laws_szBoolS.f l0_2 t659).bind fun t660 => (if t660 < 0 then (some (-1)) else (some t660)))) = some r := H
    have A8 := Aside0.mk A80
    clear A80
    by_cases c9 : t659 < 0
    · rw [if_pos c9] at H
      have c9b0 : decide (t659 < 0) = true := decide_eq_true c9
      clear c9
      obtain rfl := Option.some.inj H
      go_enter Try.func46, Try.ntmps46
      go_wp2_with (first | ((with_reducible refine gate_dst (N := 2) rfl ?_); refine box_event ?hg (N := 2) ?hd (cs := #[.slice A0_0 l0_0.length c0_0, .slice A0_1 l0_1.length c0_1, .slice A0_2 l0_2.length c0_2]) (t := 78) ?hr ?_; (case hd => rfl); (case hg => rfl); (case hr => first | (go_simp; done) | (go_simp; rfl)); intro gb657 hg w10 hbox hb; have n0_ := Aside0.mk (below_step (by repeat (first | (with_reducible first | exact HB.out | apply below_alloc | apply pw_below_drewN | apply below_drew1) | exact HB.out)) hb); have n1_ := Aside0.mk (hbox); have n2_ := Aside0.mk ((by rw [hg]; exact (below_size (by repeat (first | (with_reducible first | exact HB.out | apply below_alloc | apply pw_below_drewN | apply below_drew1) | exact HB.out))) : w.heap.size ≤ gb657)); have n3_ := Aside0.mk ((by rw [hg]; exact (below_size (by repeat (first | (with_reducible first | exact HB.out | apply below_alloc | apply pw_below_drewN | apply below_drew1) | exact HB.out))) : w.heap.size ≤ gb657)); clear HB; have HB := n0_; have BK657 := n1_; have GW657 := n2_; have GE657 := n3_; clear n0_ n1_ n2_ n3_; clear hb hbox hg; have hcz11_0 : w10.cell? ⟨gb657, 0, none⟩ = some (.slice A0_0 l0_0.length c0_0) := (blk_cell BK657.out 0).trans rfl; have hcz11_1 : w10.cell? ⟨gb657, 1, none⟩ = some (.slice A0_1 l0_1.length c0_1) := (blk_cell BK657.out 1).trans rfl; have hcz11_2 : w10.cell? ⟨gb657, 2, none⟩ = some (.slice A0_2 l0_2.length c0_2) := (blk_cell BK657.out 2).trans rfl; have hfz11_0 := blk_frozen BK657.out 0; have hfz11_1 := blk_frozen BK657.out 1; have hfz11_2 := blk_frozen BK657.out 2) | ((with_reducible refine gate_callee (f := 14) rfl ?_); refine goesL_ (some 8) rfl rfl Try.func14 (by kernel_rfl) rfl #[.agg #[.slice A0_0 l0_0.length c0_0], .int .i64 a1] rfl (by (try simp only [List.map_toArray, List.map_cons, List.map_nil]); first | done | rfl | (simp only [List.length_drop, List.length_take]; rfl)) ?_; (with_reducible refine (laws_szMemory.calls k _ _ l0_0 a1 t658 _ ?side1 ?side2 A3.out).mono ?_); (case side1 => repeat (first | exact (Kd.C_below HR0_0.out HB.out) | (with_reducible refine Kd.C_alloc ?_ _) | (with_reducible refine Kd.C_drewN ?_ _) | (with_reducible refine Kd.C_drew ?_))); (case side2 => exact HC0_0.out); rintro e w12 ⟨rfl, hb⟩; refine ⟨_, rfl, ?_⟩; have n0_ := Aside0.mk (blk_below (g := gb657) (o := .cells #[.slice A0_0 l0_0.length c0_0, .slice A0_1 l0_1.length c0_1, .slice A0_2 l0_2.length c0_2] 78 (0, 0)) (by (with_reducible repeat (first | refine blk_drewN ?_ _ | refine blk_drew ?_ | refine blk_alloc ?_ _)); exact BK657.out) hb); have n1_ := Aside0.mk (below_step (by repeat (first | (with_reducible first | exact HB.out | apply below_alloc | apply pw_below_drewN | apply below_drew1 | refine below_set ?_ GE657.out) | exact HB.out)) hb); clear BK657; clear HB; have BK657 := n0_; have HB := n1_; clear n0_ n1_; (try clear hb); (try clear hb2); (try clear hk); (try clear hi); have hcz13_0 : w12.cell? ⟨gb657, 0, none⟩ = some (.slice A0_0 l0_0.length c0_0) := (blk_cell BK657.out 0).trans rfl; have hcz13_1 : w12.cell? ⟨gb657, 1, none⟩ = some (.slice A0_1 l0_1.length c0_1) := (blk_cell BK657.out 1).trans rfl; have hcz13_2 : w12.cell? ⟨gb657, 2, none⟩ = some (.slice A0_2 l0_2.length c0_2) := (blk_cell BK657.out 2).trans rfl; have hfz13_0 := blk_frozen BK657.out 0; have hfz13_1 := blk_frozen BK657.out 1; have hfz13_2 := blk_frozen BK657.out 2) | ((with_reducible refine gate_callee (f := 80) rfl ?_); refine goesL_ (some 14) rfl rfl Try.func80 (by kernel_rfl) rfl #[.slice A0_1 l0_1.length c0_1, .int .i64 t658] rfl (by (try simp only [List.map_toArray, List.map_cons, List.map_nil]); first | done | rfl | (simp only [List.length_drop, List.length_take]; rfl)) ?_; (with_reducible refine (laws_szWindowS.calls _ _ l0_1 t658 t659 _ ?side1 ?side2 A8.out).mono ?_); (case side1 => repeat (first | exact (Kd.C_below HR0_1.out HB.out) | (with_reducible refine Kd.C_alloc ?_ _) | (with_reducible refine Kd.C_drewN ?_ _) | (with_reducible refine Kd.C_drew ?_))); (case side2 => exact HC0_1.out); rintro e w' ⟨rfl, ⟨nd, rfl⟩⟩; refine ⟨_, rfl, ?_⟩))
      go_ret
      exact ⟨by first | rfl | (simp [errW_none, errW_some] <;> rfl) | (simp [*, errW_none, errW_some] <;> rfl), by repeat (first | (with_reducible first | exact HB.out | apply below_alloc | apply pw_below_drewN | apply below_drew1 | refine below_set ?_ GE657.out) | exact HB.out)⟩
    · rw [if_neg c9] at H
      have c9b0 : decide (t659 < 0) = false := decide_eq_false c9
      clear c9
      replace H := Option.bind_eq_some_iff.mp H
      obtain ⟨t660, A140, H⟩ := H
      replace H : (if t660 < 0 then (some (-1)) else (some t660)) = some r := H
      have A14 := Aside0.mk A140
      clear A140
      by_cases c15 : t660 < 0
      · rw [if_pos c15] at H
        have c15b0 : decide (t660 < 0) = true := decide_eq_true c15
        clear c15
        obtain rfl := Option.some.inj H
        go_enter Try.func46, Try.ntmps46
        go_wp2_with (first | ((with_reducible refine gate_dst (N := 2) rfl ?_); refine box_event ?hg (N := 2) ?hd (cs := #[.slice A0_0 l0_0.length c0_0, .slice A0_1 l0_1.length c0_1, .slice A0_2 l0_2.length c0_2]) (t := 78) ?hr ?_; (case hd => rfl); (case hg => rfl); (case hr => first | (go_simp; done) | (go_simp; rfl)); intro gb657 hg w16 hbox hb; have n0_ := Aside0.mk (below_step (by repeat (first | (with_reducible first | exact HB.out | apply below_alloc | apply pw_below_drewN | apply below_drew1) | exact HB.out)) hb); have n1_ := Aside0.mk (hbox); have n2_ := Aside0.mk ((by rw [hg]; exact (below_size (by repeat (first | (with_reducible first | exact HB.out | apply below_alloc | apply pw_below_drewN | apply below_drew1) | exact HB.out))) : w.heap.size ≤ gb657)); have n3_ := Aside0.mk ((by rw [hg]; exact (below_size (by repeat (first | (with_reducible first | exact HB.out | apply below_alloc | apply pw_below_drewN | apply below_drew1) | exact HB.out))) : w.heap.size ≤ gb657)); clear HB; have HB := n0_; have BK657 := n1_; have GW657 := n2_; have GE657 := n3_; clear n0_ n1_ n2_ n3_; clear hb hbox hg; have hcz17_0 : w16.cell? ⟨gb657, 0, none⟩ = some (.slice A0_0 l0_0.length c0_0) := (blk_cell BK657.out 0).trans rfl; have hcz17_1 : w16.cell? ⟨gb657, 1, none⟩ = some (.slice A0_1 l0_1.length c0_1) := (blk_cell BK657.out 1).trans rfl; have hcz17_2 : w16.cell? ⟨gb657, 2, none⟩ = some (.slice A0_2 l0_2.length c0_2) := (blk_cell BK657.out 2).trans rfl; have hfz17_0 := blk_frozen BK657.out 0; have hfz17_1 := blk_frozen BK657.out 1; have hfz17_2 := blk_frozen BK657.out 2) | ((with_reducible refine gate_callee (f := 14) rfl ?_); refine goesL_ (some 8) rfl rfl Try.func14 (by kernel_rfl) rfl #[.agg #[.slice A0_0 l0_0.length c0_0], .int .i64 a1] rfl (by (try simp only [List.map_toArray, List.map_cons, List.map_nil]); first | done | rfl | (simp only [List.length_drop, List.length_take]; rfl)) ?_; (with_reducible refine (laws_szMemory.calls k _ _ l0_0 a1 t658 _ ?side1 ?side2 A3.out).mono ?_); (case side1 => repeat (first | exact (Kd.C_below HR0_0.out HB.out) | (with_reducible refine Kd.C_alloc ?_ _) | (with_reducible refine Kd.C_drewN ?_ _) | (with_reducible refine Kd.C_drew ?_))); (case side2 => exact HC0_0.out); rintro e w18 ⟨rfl, hb⟩; refine ⟨_, rfl, ?_⟩; have n0_ := Aside0.mk (blk_below (g := gb657) (o := .cells #[.slice A0_0 l0_0.length c0_0, .slice A0_1 l0_1.length c0_1, .slice A0_2 l0_2.length c0_2] 78 (0, 0)) (by (with_reducible repeat (first | refine blk_drewN ?_ _ | refine blk_drew ?_ | refine blk_alloc ?_ _)); exact BK657.out) hb); have n1_ := Aside0.mk (below_step (by repeat (first | (with_reducible first | exact HB.out | apply below_alloc | apply pw_below_drewN | apply below_drew1 | refine below_set ?_ GE657.out) | exact HB.out)) hb); clear BK657; clear HB; have BK657 := n0_; have HB := n1_; clear n0_ n1_; (try clear hb); (try clear hb2); (try clear hk); (try clear hi); have hcz19_0 : w18.cell? ⟨gb657, 0, none⟩ = some (.slice A0_0 l0_0.length c0_0) := (blk_cell BK657.out 0).trans rfl; have hcz19_1 : w18.cell? ⟨gb657, 1, none⟩ = some (.slice A0_1 l0_1.length c0_1) := (blk_cell BK657.out 1).trans rfl; have hcz19_2 : w18.cell? ⟨gb657, 2, none⟩ = some (.slice A0_2 l0_2.length c0_2) := (blk_cell BK657.out 2).trans rfl; have hfz19_0 := blk_frozen BK657.out 0; have hfz19_1 := blk_frozen BK657.out 1; have hfz19_2 := blk_frozen BK657.out 2) | ((with_reducible refine gate_callee (f := 80) rfl ?_); refine goesL_ (some 14) rfl rfl Try.func80 (by kernel_rfl) rfl #[.slice A0_1 l0_1.length c0_1, .int .i64 t658] rfl (by (try simp only [List.map_toArray, List.map_cons, List.map_nil]); first | done | rfl | (simp only [List.length_drop, List.length_take]; rfl)) ?_; (with_reducible refine (laws_szWindowS.calls _ _ l0_1 t658 t659 _ ?side1 ?side2 A8.out).mono ?_); (case side1 => repeat (first | exact (Kd.C_below HR0_1.out HB.out) | (with_reducible refine Kd.C_alloc ?_ _) | (with_reducible refine Kd.C_drewN ?_ _) | (with_reducible refine Kd.C_drew ?_))); (case side2 => exact HC0_1.out); rintro e w' ⟨rfl, ⟨nd, rfl⟩⟩; refine ⟨_, rfl, ?_⟩) | ((with_reducible refine gate_callee (f := 105) rfl ?_); refine goesL_ (some 20) rfl rfl Try.func105 (by kernel_rfl) rfl #[.slice A0_2 l0_2.length c0_2, .int .i64 t659] rfl (by (try simp only [List.map_toArray, List.map_cons, List.map_nil]); first | done | rfl | (simp only [List.length_drop, List.length_take]; rfl)) ?_; (with_reducible refine (laws_szBoolS.calls _ _ l0_2 t659 t660 _ ?side1 ?side2 A14.out).mono ?_); (case side1 => repeat (first | exact (Kd.C_below HR0_2.out (by repeat (first | (with_reducible first | exact HB.out | apply below_alloc | apply pw_below_drewN | apply below_drew1 | refine below_set ?_ GE657.out) | exact HB.out))) | (with_reducible refine Kd.C_alloc ?_ _) | (with_reducible refine Kd.C_drewN ?_ _) | (with_reducible refine Kd.C_drew ?_))); (case side2 => exact HC0_2.out); rintro e w' ⟨rfl, ⟨nd, rfl⟩⟩; refine ⟨_, rfl, ?_⟩))
        go_ret
        exact ⟨by first | rfl | (simp [errW_none, errW_some] <;> rfl) | (simp [*, errW_none, errW_some] <;> rfl), by repeat (first | (with_reducible first | exact HB.out | apply below_alloc | apply pw_below_drewN | apply below_drew1 | refine below_set ?_ GE657.out) | exact HB.out)⟩
      · rw [if_neg c15] at H
        have c15b0 : decide (t660 < 0) = false := decide_eq_false c15
        clear c15
        obtain rfl := Option.some.inj H
        go_enter Try.func46, Try.ntmps46
        go_wp2_with (first | ((with_reducible refine gate_dst (N := 2) rfl ?_); refine box_event ?hg (N := 2) ?hd (cs := #[.slice A0_0 l0_0.length c0_0, .slice A0_1 l0_1.length c0_1, .slice A0_2 l0_2.length c0_2]) (t := 78) ?hr ?_; (case hd => rfl); (case hg => rfl); (case hr => first | (go_simp; done) | (go_simp; rfl)); intro gb657 hg w20 hbox hb; have n0_ := Aside0.mk (below_step (by repeat (first | (with_reducible first | exact HB.out | apply below_alloc | apply pw_below_drewN | apply below_drew1) | exact HB.out)) hb); have n1_ := Aside0.mk (hbox); have n2_ := Aside0.mk ((by rw [hg]; exact (below_size (by repeat (first | (with_reducible first | exact HB.out | apply below_alloc | apply pw_below_drewN | apply below_drew1) | exact HB.out))) : w.heap.size ≤ gb657)); have n3_ := Aside0.mk ((by rw [hg]; exact (below_size (by repeat (first | (with_reducible first | exact HB.out | apply below_alloc | apply pw_below_drewN | apply below_drew1) | exact HB.out))) : w.heap.size ≤ gb657)); clear HB; have HB := n0_; have BK657 := n1_; have GW657 := n2_; have GE657 := n3_; clear n0_ n1_ n2_ n3_; clear hb hbox hg; have hcz21_0 : w20.cell? ⟨gb657, 0, none⟩ = some (.slice A0_0 l0_0.length c0_0) := (blk_cell BK657.out 0).trans rfl; have hcz21_1 : w20.cell? ⟨gb657, 1, none⟩ = some (.slice A0_1 l0_1.length c0_1) := (blk_cell BK657.out 1).trans rfl; have hcz21_2 : w20.cell? ⟨gb657, 2, none⟩ = some (.slice A0_2 l0_2.length c0_2) := (blk_cell BK657.out 2).trans rfl; have hfz21_0 := blk_frozen BK657.out 0; have hfz21_1 := blk_frozen BK657.out 1; have hfz21_2 := blk_frozen BK657.out 2) | ((with_reducible refine gate_callee (f := 14) rfl ?_); refine goesL_ (some 8) rfl rfl Try.func14 (by kernel_rfl) rfl #[.agg #[.slice A0_0 l0_0.length c0_0], .int .i64 a1] rfl (by (try simp only [List.map_toArray, List.map_cons, List.map_nil]); first | done | rfl | (simp only [List.length_drop, List.length_take]; rfl)) ?_; (with_reducible refine (laws_szMemory.calls k _ _ l0_0 a1 t658 _ ?side1 ?side2 A3.out).mono ?_); (case side1 => repeat (first | exact (Kd.C_below HR0_0.out HB.out) | (with_reducible refine Kd.C_alloc ?_ _) | (with_reducible refine Kd.C_drewN ?_ _) | (with_reducible refine Kd.C_drew ?_))); (case side2 => exact HC0_0.out); rintro e w22 ⟨rfl, hb⟩; refine ⟨_, rfl, ?_⟩; have n0_ := Aside0.mk (blk_below (g := gb657) (o := .cells #[.slice A0_0 l0_0.length c0_0, .slice A0_1 l0_1.length c0_1, .slice A0_2 l0_2.length c0_2] 78 (0, 0)) (by (with_reducible repeat (first | refine blk_drewN ?_ _ | refine blk_drew ?_ | refine blk_alloc ?_ _)); exact BK657.out) hb); have n1_ := Aside0.mk (below_step (by repeat (first | (with_reducible first | exact HB.out | apply below_alloc | apply pw_below_drewN | apply below_drew1 | refine below_set ?_ GE657.out) | exact HB.out)) hb); clear BK657; clear HB; have BK657 := n0_; have HB := n1_; clear n0_ n1_; (try clear hb); (try clear hb2); (try clear hk); (try clear hi); have hcz23_0 : w22.cell? ⟨gb657, 0, none⟩ = some (.slice A0_0 l0_0.length c0_0) := (blk_cell BK657.out 0).trans rfl; have hcz23_1 : w22.cell? ⟨gb657, 1, none⟩ = some (.slice A0_1 l0_1.length c0_1) := (blk_cell BK657.out 1).trans rfl; have hcz23_2 : w22.cell? ⟨gb657, 2, none⟩ = some (.slice A0_2 l0_2.length c0_2) := (blk_cell BK657.out 2).trans rfl; have hfz23_0 := blk_frozen BK657.out 0; have hfz23_1 := blk_frozen BK657.out 1; have hfz23_2 := blk_frozen BK657.out 2) | ((with_reducible refine gate_callee (f := 80) rfl ?_); refine goesL_ (some 14) rfl rfl Try.func80 (by kernel_rfl) rfl #[.slice A0_1 l0_1.length c0_1, .int .i64 t658] rfl (by (try simp only [List.map_toArray, List.map_cons, List.map_nil]); first | done | rfl | (simp only [List.length_drop, List.length_take]; rfl)) ?_; (with_reducible refine (laws_szWindowS.calls _ _ l0_1 t658 t659 _ ?side1 ?side2 A8.out).mono ?_); (case side1 => repeat (first | exact (Kd.C_below HR0_1.out HB.out) | (with_reducible refine Kd.C_alloc ?_ _) | (with_reducible refine Kd.C_drewN ?_ _) | (with_reducible refine Kd.C_drew ?_))); (case side2 => exact HC0_1.out); rintro e w' ⟨rfl, ⟨nd, rfl⟩⟩; refine ⟨_, rfl, ?_⟩) | ((with_reducible refine gate_callee (f := 105) rfl ?_); refine goesL_ (some 20) rfl rfl Try.func105 (by kernel_rfl) rfl #[.slice A0_2 l0_2.length c0_2, .int .i64 t659] rfl (by (try simp only [List.map_toArray, List.map_cons, List.map_nil]); first | done | rfl | (simp only [List.length_drop, List.length_take]; rfl)) ?_; (with_reducible refine (laws_szBoolS.calls _ _ l0_2 t659 t660 _ ?side1 ?side2 A14.out).mono ?_); (case side1 => repeat (first | exact (Kd.C_below HR0_2.out (by repeat (first | (with_reducible first | exact HB.out | apply below_alloc | apply pw_below_drewN | apply below_drew1 | refine below_set ?_ GE657.out) | exact HB.out))) | (with_reducible refine Kd.C_alloc ?_ _) | (with_reducible refine Kd.C_drewN ?_ _) | (with_reducible refine Kd.C_drew ?_))); (case side2 => exact HC0_2.out); rintro e w' ⟨rfl, ⟨nd, rfl⟩⟩; refine ⟨_, rfl, ?_⟩))
        go_ret
        exact ⟨by first | rfl | (simp [errW_none, errW_some] <;> rfl) | (simp [*, errW_none, errW_some] <;> rfl), by repeat (first | (with_reducible first | exact HB.out | apply below_alloc | apply pw_below_drewN | apply below_drew1 | refine below_set ?_ GE657.out) | exact HB.out)⟩

end Go.Proofs.Ytoomjghabiojkaa.P


namespace Go.Proofs.Ytoomjghabiojkaa.P
open Go.RowKit Go.Proofs.YtoomjghabiojkaaW.PrintWords Go.Proofs.YtoomjghabiojkaaW.PrintLast Go.Proofs.YtoomjghabiojkaaW.PrintMore
attribute [local go_sem] max2_int min2_int max_two min_two max_three min_three max_four min_four   -- for this text's walks alone
set_option linter.unusedVariables false
set_option linter.unusedSimpArgs false

def laws_toBoolS.l0 : Nat → List Bool → List Bool → Int → Option (List Bool)
  | 0, _, _, _ => none
  | k + 1, x0, x3, x4 => if x4 < (x0.length : Int) then (if 0 ≤ x4 then (if x4 < (x3.length : Int) then (laws_toBoolS.l0 k x0 (x3.set (x4 : Int).toNat (rdOf false x0 x4)) (wrap64 (x4 + 1))) else (none)) else (none)) else (some x3)
def laws_toBoolS.f (k : Nat) (l0 : List Bool) : Option (List Bool) := if 0 ≤ (l0.length : Int) then (if ((l0.length : Int) : Int).toNat ≤ 281474976710656 then (laws_toBoolS.l0 k l0 (List.replicate ((l0.length : Int) : Int).toNat false) 0) else (none)) else (none)
set_option maxHeartbeats 8000000 in
set_option maxRecDepth 100000 in
theorem laws_toBoolS.calls (k : Nat) (A0 : Option Addr) (c0 : Nat) (l0 : List Bool) (r : List Bool) (w : World) (hr0 : Kd.C Kd.bool w A0 l0.length l0) (hc0 : l0.length ≤ c0) (h : laws_toBoolS.f k l0 = some r) :
    Calls Try.prog 108 #[.slice A0 l0.length c0] w fun e w' => ∃ v0_ : Value, e = .returned (v0_) ∧ Kd.R Kd.bool 4 w' w.heap.size (fun _ => True) v0_ r ∧ Below w.heap.size w w' := by
  have HR0 := Aside0.mk hr0
  have HC0 := Aside0.mk hc0
  clear hr0 hc0
  have HB := Aside0.mk (Below.refl w.heap.size w)
  have H : (if 0 ≤ (l0.length : Int) then (if ((l0.length : Int) : Int).toNat ≤ 281474976710656 then (laws_toBoolS.l0 k l0 (List.replicate ((l0.length : Int) : Int).toNat false) 0) else (none)) else (none)) = some r := h
  clear h
  by_cases c2 : 0 ≤ (l0.length : Int)
  · rw [if_pos c2] at H
    have c2b0 := eq_true c2
    have c2b1 : decide (0 ≤ (l0.length : Int)) = true := decide_eq_true c2
    clear c2
    by_cases c3 : ((l0.length : Int) : Int).toNat ≤ 281474976710656
    · rw [if_pos c3] at H
      have c3b0 := eq_true c3
      have c3b1 : decide (((l0.length : Int) : Int).toNat ≤ 281474976710656) = true := decide_eq_true c3
      clear c3
      obtain ⟨y710, hy710⟩ : ∃ y_ : List Bool, y_ = (List.replicate ((l0.length : Int) : Int).toNat false) := ⟨_, rfl⟩
      replace H : (laws_toBoolS.l0 k l0 y710 0) = some r := by first | (rw [hy710]; with_reducible exact H) | (have H2_ := (Option.bind_some _ _).symm.trans H; rw [hy710]; with_reducible exact H2_) | (have H2_ := (Option.bind_some _ _).symm.trans H; with_reducible exact H2_) | with_reducible exact H | (rw [hy710]; exact H) | exact H
      have Ny710 := Aside0.mk hy710
      clear hy710
      have H' := Aside0.mk H
      clear H
      go_enter Try.func108, Try.ntmps108
      go_wp2_with (first | ((with_reducible refine gate_dst (N := 7) rfl ?_); refine Kd.R_make Kd.bool _ 4 rfl (N := 7) rfl 58 _ _ rfl (l0.length : Int) rfl rfl Try.underlying58 (.bool false) 1 info4 rfl (by decide) (by omega) false (ok := fun _ => True) (okp := fun _ => True) rfl (fun _ hk => hk) trivial (of_decide_eq_true (by first | (with_reducible assumption) | assumption)) (Nat.le_trans (Nat.mul_le_mul_right _ (of_decide_eq_true (by first | (with_reducible assumption) | assumption) : (l0.length : Int).toNat ≤ 281474976710656)) (by omega)) (Below.refl _ _) (Nat.le_refl _) ?_; intro v711 w4 ho5 hb hg_ hnew_; clear hg_ hnew_; (first | rw [← Ny710.out] at ho5 | (simp only [Int.reduceToNat] at ho5; rw [← Ny710.out] at ho5)); have n0_ := Aside0.mk (Kd.R_lower ho5 (below_size (by repeat (first | (with_reducible first | exact HB.out | apply below_alloc | apply pw_below_drewN | apply below_drew1) | exact HB.out)))); have n1_ := Aside0.mk (below_step (by repeat (first | (with_reducible first | exact HB.out | apply below_alloc | apply pw_below_drewN | apply below_drew1) | exact HB.out)) hb); clear HB; have HO712 := n0_; have HB := n1_; clear n0_ n1_; clear hb ho5))
      go_loopg [4] k (fun kq v4 w' => ∃ (x3_1 : List Bool) (x4_1 : Int), v4 = .int .i64 x4_1 ∧ Aside0 (laws_toBoolS.l0 kq l0 x3_1 x4_1 = some r) ∧ Aside0 (kq ≤ k) ∧ Aside0 (Kd.R Kd.bool 4 w' w.heap.size (fun _ => True) v711 x3_1) ∧ Aside0 (Below w.heap.size w w'))
      case atStart => exact ⟨(y710), (0), (by first | rfl | (simp; done) | (simp [*]; done)), H', ⟨Nat.le_refl _⟩, ⟨by (with_reducible repeat (first | apply Kd.R_alloc | apply Kd.R_drewN | apply Kd.R_drew)); exact HO712.out⟩, ⟨by repeat (first | (with_reducible first | exact HB.out | apply below_alloc | apply pw_below_drewN | apply below_drew1) | exact HB.out)⟩⟩
      case round =>
        clear H'
        try clear c1
        try clear c2
        try clear c2b0
        try clear c2b1
        try clear p2
        try clear c3
        try clear c3b0
        try clear c3b1
        obtain ⟨x3_1, x4_1, rfl, HA, HK1, HO_3, HB⟩ := hrel
        cases gk with
        | zero => exact absurd HA.out (by simp [laws_toBoolS.l0])
        | succ k1 =>
          have H := HA.out
          clear HA
          simp only [laws_toBoolS.l0] at H
          by_cases c6 : x4_1 < (l0.length : Int)
          · rw [if_pos c6] at H
            have c6b0 : decide (x4_1 < (l0.length : Int)) = true := decide_eq_true c6
            clear c6
            by_cases c7 : 0 ≤ x4_1
            · rw [if_pos c7] at H
              have c7b0 : decide (0 ≤ x4_1) = true := decide_eq_true c7
              clear c7
              by_cases c8 : x4_1 < (x3_1.length : Int)
              · rw [if_pos c8] at H
                have c8b0 : decide (x4_1 < (x3_1.length : Int)) = true := decide_eq_true c8
                clear c8
                obtain ⟨y714, hy714⟩ : ∃ y_ : List Bool, y_ = (x3_1.set (x4_1 : Int).toNat (rdOf false l0 x4_1)) := ⟨_, rfl⟩
                replace H : (laws_toBoolS.l0 k1 l0 y714 (wrap64 (x4_1 + 1))) = some r := by first | (rw [hy714]; with_reducible exact H) | (have H2_ := (Option.bind_some _ _).symm.trans H; rw [hy714]; with_reducible exact H2_) | (have H2_ := (Option.bind_some _ _).symm.trans H; with_reducible exact H2_) | with_reducible exact H | (rw [hy714]; exact H) | exact H
                have Ny714 := Aside0.mk hy714
                clear hy714
                have H' := Aside0.mk H
                clear H
                have p713 : 0 ≤ (x4_1 : Int) := of_decide_eq_true (by first | (with_reducible assumption) | assumption)
                have q713 : x4_1 < (l0.length : Int) := of_decide_eq_true (by first | (with_reducible assumption) | assumption)
                obtain ⟨ad713, e713, hx713_0⟩ := Kd.at_bool HR0.out x4_1 p713 q713
                cases e713
                replace hx713_0 := (HB.out.cell (World.block_lt_of_cell? w _ hx713_0)).trans hx713_0
                replace p713 := eq_true p713
                replace q713 := eq_true q713
                have p9 : 0 ≤ (x4_1 : Int) := of_decide_eq_true (by first | (with_reducible assumption) | assumption)
                have q9 : (x4_1 : Int) < ((x3_1.length : Int) : Int) := of_decide_eq_true (by first | (with_reducible assumption) | assumption)
                obtain ⟨go9, co9, eo9, gb9, gl9, cl9, HG9⟩ := Kd.R_form HO_3.out (by omega)
                (first | cases eo9 | (injection eo9 with ea_ en_ ec_; (first | subst ea_ | (injection ea_ with ea_; subst ea_)); subst ec_; clear en_))
                have GB9 := Aside0.mk gb9
                have GG9 := Aside0.mk HG9
                clear gb9 gl9 HG9
                obtain ⟨hx9_0, hf9_0⟩ := Kd.R_celln false HO_3.out (x4_1 : Int) p9 q9
                replace p9 := eq_true p9
                replace q9 := eq_true q9
                have HP10 := Kd.R_putg HO_3.out (x4_1 : Int) (rdOf false l0 x4_1)
                go_wp2_with (first | ((with_reducible refine gate_store (t := 4) (p := 20) rfl ?_); refine store_event (t := 4) (p := 20) (v := ?vo_w11) (w1 := (wr.setCell ⟨go9, (x4_1 : Int).toNat, none⟩ (.bool (rdOf false l0 x4_1)))) ?hg ?ho ?hn ?hr ?_; (case ho => rfl); (case hg => rfl); (case hn => rfl); (case hr => first | (go_simp; done) | (go_simp; rfl)); intro w11 hw; have hg : wr.grownBy w11 (some go9) := (by rw [hw]; exact HP10.2); have hp_ : Kd.R Kd.bool 4 w11 w.heap.size (fun _ => True) (.slice (some ⟨go9, 0, none⟩) x3_1.length co9) y714 := (by rw [hw, Ny714.out]; exact HP10.1); clear HP10; have n0_ := Aside0.mk (hp_); have n1_ := Aside0.mk ((by rw [hw]; exact below_set (HB.out) GB9.out : Below w.heap.size w w11)); clear HO_3; clear HB; have HO_3 := n0_; have HB := n1_; clear n0_ n1_; clear hg hw hp_))
                go_roundg k1
                case measure => have := HK1.out; omega
                case rel => exact ⟨(y714), (wrap64 (x4_1 + 1)), (by first | rfl | (simp; done) | (simp [*]; done)), H', ⟨by have := HK1.out; omega⟩, ⟨by (with_reducible repeat (first | apply Kd.R_alloc | apply Kd.R_drewN | apply Kd.R_drew)); exact HO_3.out⟩, ⟨by repeat (first | (with_reducible first | exact HB.out | apply below_alloc | apply pw_below_drewN | apply below_drew1) | exact HB.out)⟩⟩
              · rw [if_neg c8] at H
                exact absurd H (by simp)
            · rw [if_neg c7] at H
              exact absurd H (by simp)
          · rw [if_neg c6] at H
            have c6b0 : decide (x4_1 < (l0.length : Int)) = false := decide_eq_false c6
            clear c6
            obtain rfl := Option.some.inj H
            go_wp2
            go_ret
            exact ⟨_, by first | rfl | (simp [errW_none, errW_some] <;> rfl) | (simp [*, errW_none, errW_some] <;> rfl), by (with_reducible repeat (first | apply Kd.R_alloc | apply Kd.R_drewN | apply Kd.R_drew)); exact HO_3.out, by repeat (first | (with_reducible first | exact HB.out | apply below_alloc | apply pw_below_drewN | apply below_drew1) | exact HB.out)⟩
    · rw [if_neg c3] at H
      exact absurd H (by simp)
  · rw [if_neg c2] at H
    exact absurd H (by simp)

end Go.Proofs.Ytoomjghabiojkaa.P


namespace Go.Proofs.Ytoomjghabiojkaa.P
open Go.RowKit Go.Proofs.YtoomjghabiojkaaW.PrintWords Go.Proofs.YtoomjghabiojkaaW.PrintLast Go.Proofs.YtoomjghabiojkaaW.PrintMore
attribute [local go_sem] max2_int min2_int max_two min_two max_three min_three max_four min_four   -- for this text's walks alone
set_option linter.unusedVariables false
set_option linter.unusedSimpArgs false

def laws_toMachine.f (k : Nat) (l0_0 : List (List Int)) (l0_1 : List (SlawsWindow)) (l0_2 : List Bool) : Option ((List (List Int)) × (List (SimplWindow)) × List Bool) := (laws_toMemory.f l0_0).bind fun t718 => ((laws_toWindowS.f k l0_1).bind fun t721 => ((laws_toBoolS.f k l0_2).bind fun t724 => (some (t718, t721, t724))))
set_option maxHeartbeats 8000000 in
set_option maxRecDepth 100000 in
theorem laws_toMachine.calls (k : Nat) (A0_0 : Option Addr) (c0_0 : Nat) (l0_0 : List (List Int)) (A0_1 : Option Addr) (c0_1 : Nat) (l0_1 : List (SlawsWindow)) (A0_2 : Option Addr) (c0_2 : Nat) (l0_2 : List Bool) (r1 : List (List Int)) (r2 : List (SimplWindow)) (r3 : List Bool) (w : World) (hr0_0 : Kd.C (Kd.slice 5 (Kd.int .u8)) w A0_0 l0_0.length l0_0) (hc0_0 : l0_0.length ≤ c0_0) (hr0_1 : Kd.C klawsWindow w A0_1 l0_1.length l0_1) (hc0_1 : l0_1.length ≤ c0_1) (hr0_2 : Kd.C Kd.bool w A0_2 l0_2.length l0_2) (hc0_2 : l0_2.length ≤ c0_2) (h : laws_toMachine.f k l0_0 l0_1 l0_2 = some (r1, r2, r3)) :
    Calls Try.prog 48 #[.agg #[.slice A0_0 l0_0.length c0_0, .slice A0_1 l0_1.length c0_1, .slice A0_2 l0_2.length c0_2]] w fun e w' => ∃ v0_ v1_ v2_ : Value, e = .returned (.agg #[v0_, v1_, v2_]) ∧ Kd.S (Kd.slice 5 (Kd.int .u8)) 119 w' w.heap.size (fun _ => True) v0_ r1 ∧ Kd.R kimplWindow 48 w' w.heap.size (fun _ => True) v1_ r2 ∧ Kd.R Kd.bool 4 w' w.heap.size (fun _ => True) v2_ r3 ∧ Below w.heap.size w w' := by
  have hu78 := Try.underlying78
  have hu60 := Try.underlying60
  have hu24 := Try.underlying24
  have hu26 := Try.underlying26
  have HR0_0 := Aside0.mk hr0_0
  have HC0_0 := Aside0.mk hc0_0
  clear hr0_0 hc0_0
  have HR0_1 := Aside0.mk hr0_1
  have HC0_1 := Aside0.mk hc0_1
  clear hr0_1 hc0_1
  have HR0_2 := Aside0.mk hr0_2
  have HC0_2 := Aside0.mk hc0_2
  clear hr0_2 hc0_2
  have HB := Aside0.mk (Below.refl w.heap.size w)
  have H : ((laws_toMemory.f l0_0).bind fun t718 => ((laws_toWindowS.f k l0_1).bind fun t721 => ((laws_toBoolS.f k l0_2).bind fun t724 => (some (t718, t721, t724))))) = some (r1, r2, r3) := h
  clear h
  replace H := Option.bind_eq_some_iff.mp H
  obtain ⟨t718, A20, H⟩ := H
  replace H : ((laws_toWindowS.f k l0_1).bind fun t721 => ((laws_toBoolS.f k l0_2).bind fun t724 => (some (t718, t721, t724)))) = some (r1, r2, r3) := H
  have A2 := Aside0.mk A20
  clear A20
  replace H := Option.bind_eq_some_iff.mp H
  obtain ⟨t721, A30, H⟩ := H
  replace H : ((laws_toBoolS.f k l0_2).bind fun t724 => (some (t718, t721, t724))) = some (r1, r2, r3) := H
  have A3 := Aside0.mk A30
  clear A30
  replace H := Option.bind_eq_some_iff.mp H
  obtain ⟨t724, A40, H⟩ := H
  replace H : (some (t718, t721, t724)) = some (r1, r2, r3) := H
  have A4 := Aside0.mk A40
  clear A40
  simp only [Option.some.injEq, Prod.mk.injEq] at H
  obtain ⟨rfl, rfl, rfl⟩ := H
  go_enter Try.func48, Try.ntmps48
  go_wp2_with (first | ((with_reducible refine gate_dst (N := 1) rfl ?_); refine box_event ?hg (N := 1) ?hd (cs := #[.slice A0_0 l0_0.length c0_0, .slice A0_1 l0_1.length c0_1, .slice A0_2 l0_2.length c0_2]) (t := 78) ?hr ?_; (case hd => rfl); (case hg => rfl); (case hr => first | (go_simp; done) | (go_simp; rfl)); intro gb715 hg w5 hbox hb; have n0_ := Aside0.mk (below_step (by repeat (first | (with_reducible first | exact HB.out | apply below_alloc | apply pw_below_drewN | apply below_drew1) | exact HB.out)) hb); have n1_ := Aside0.mk (hbox); have n2_ := Aside0.mk ((by rw [hg]; exact (below_size (by repeat (first | (with_reducible first | exact HB.out | apply below_alloc | apply pw_below_drewN | apply below_drew1) | exact HB.out))) : w.heap.size ≤ gb715)); have n3_ := Aside0.mk ((by rw [hg]; exact (below_size (by repeat (first | (with_reducible first | exact HB.out | apply below_alloc | apply pw_below_drewN | apply below_drew1) | exact HB.out))) : w.heap.size ≤ gb715)); clear HB; have HB := n0_; have BK715 := n1_; have GW715 := n2_; have GE715 := n3_; clear n0_ n1_ n2_ n3_; clear hb hbox hg) | ((with_reducible refine gate_dst (N := 2) rfl ?_); refine box_event ?hg (N := 2) ?hd (cs := #[.slice none 0 0, .slice none 0 0, .slice none 0 0]) (t := 60) ?hr ?_; (case hd => rfl); (case hg => rfl); (case hr => first | (go_simp; done) | (go_simp; rfl)); intro gb716 hg w6 hbox hb; have n0_ := Aside0.mk (blk_below (g := gb715) (o := .cells #[.slice A0_0 l0_0.length c0_0, .slice A0_1 l0_1.length c0_1, .slice A0_2 l0_2.length c0_2] 78 (0, 0)) (by (with_reducible repeat (first | refine blk_drewN ?_ _ | refine blk_drew ?_ | refine blk_alloc ?_ _)); exact BK715.out) hb); have n1_ := Aside0.mk (below_step (by repeat (first | (with_reducible first | exact HB.out | apply below_alloc | apply pw_below_drewN | apply below_drew1 | refine below_set ?_ GE715.out) | exact HB.out)) hb); have n2_ := Aside0.mk (hbox); have n3_ := Aside0.mk ((by rw [hg]; exact (below_size (by repeat (first | (with_reducible first | exact HB.out | apply below_alloc | apply pw_below_drewN | apply below_drew1 | refine below_set ?_ GE715.out) | exact HB.out))) : w.heap.size ≤ gb716)); have n4_ := Aside0.mk ((by rw [hg]; exact (below_size (by repeat (first | (with_reducible first | exact HB.out | apply below_alloc | apply pw_below_drewN | apply below_drew1 | refine below_set ?_ GE715.out) | exact HB.out))) : w.heap.size ≤ gb716)); have n5_ := Aside0.mk ((by rw [hg]; exact Nat.ne_of_lt (blk_lt (g := gb715) (o := .cells #[.slice A0_0 l0_0.length c0_0, .slice A0_1 l0_1.length c0_1, .slice A0_2 l0_2.length c0_2] 78 (0, 0)) (by (with_reducible repeat (first | refine blk_drewN ?_ _ | refine blk_drew ?_ | refine blk_alloc ?_ _)); exact BK715.out)) : gb715 ≠ gb716)); have n6_ := Aside0.mk ((by rw [hg]; exact Nat.ne_of_gt (blk_lt (g := gb715) (o := .cells #[.slice A0_0 l0_0.length c0_0, .slice A0_1 l0_1.length c0_1, .slice A0_2 l0_2.length c0_2] 78 (0, 0)) (by (with_reducible repeat (first | refine blk_drewN ?_ _ | refine blk_drew ?_ | refine blk_alloc ?_ _)); exact BK715.out)) : gb716 ≠ gb715)); clear BK715; clear HB; have BK715 := n0_; have HB := n1_; have BK716 := n2_; have GW716 := n3_; have GE716 := n4_; have NB715_716 := n5_; have NB716_715 := n6_; clear n0_ n1_ n2_ n3_ n4_ n5_ n6_; clear hb hbox hg) | ((with_reducible refine gate_dst (N := 3) rfl ?_); refine box_event ?hg (N := 3) ?hd (cs := #[.slice none 0 0, .slice none 0 0, .slice none 0 0]) (t := 60) ?hr ?_; (case hd => rfl); (case hg => rfl); (case hr => first | (go_simp; done) | (go_simp; rfl)); intro gb717 hg w7 hbox hb; have n0_ := Aside0.mk (blk_below (g := gb715) (o := .cells #[.slice A0_0 l0_0.length c0_0, .slice A0_1 l0_1.length c0_1, .slice A0_2 l0_2.length c0_2] 78 (0, 0)) (by (with_reducible repeat (first | refine blk_drewN ?_ _ | refine blk_drew ?_ | refine blk_alloc ?_ _)); exact BK715.out) hb); have n1_ := Aside0.mk (blk_below (g := gb716) (o := .cells #[.slice none 0 0, .slice none 0 0, .slice none 0 0] 60 (0, 0)) (by (with_reducible repeat (first | refine blk_drewN ?_ _ | refine blk_drew ?_ | refine blk_alloc ?_ _)); exact BK716.out) hb); have n2_ := Aside0.mk (below_step (by repeat (first | (with_reducible first | exact HB.out | apply below_alloc | apply pw_below_drewN | apply below_drew1 | refine below_set ?_ GE715.out | refine below_set ?_ GE716.out) | exact HB.out)) hb); have n3_ := Aside0.mk (hbox); have n4_ := Aside0.mk ((by rw [hg]; exact (below_size (by repeat (first | (with_reducible first | exact HB.out | apply below_alloc | apply pw_below_drewN | apply below_drew1 | refine below_set ?_ GE715.out | refine below_set ?_ GE716.out) | exact HB.out))) : w.heap.size ≤ gb717)); have n5_ := Aside0.mk ((by rw [hg]; exact (below_size (by repeat (first | (with_reducible first | exact HB.out | apply below_alloc | apply pw_below_drewN | apply below_drew1 | refine below_set ?_ GE715.out | refine below_set ?_ GE716.out) | exact HB.out))) : w.heap.size ≤ gb717)); have n6_ := Aside0.mk ((by rw [hg]; exact Nat.ne_of_lt (blk_lt (g := gb715) (o := .cells #[.slice A0_0 l0_0.length c0_0, .slice A0_1 l0_1.length c0_1, .slice A0_2 l0_2.length c0_2] 78 (0, 0)) (by (with_reducible repeat (first | refine blk_drewN ?_ _ | refine blk_drew ?_ | refine blk_alloc ?_ _)); exact BK715.out)) : gb715 ≠ gb717)); have n7_ := Aside0.mk ((by rw [hg]; exact Nat.ne_of_gt (blk_lt (g := gb715) (o := .cells #[.slice A0_0 l0_0.length c0_0, .slice A0_1 l0_1.length c0_1, .slice A0_2 l0_2.length c0_2] 78 (0, 0)) (by (with_reducible repeat (first | refine blk_drewN ?_ _ | refine blk_drew ?_ | refine blk_alloc ?_ _)); exact BK715.out)) : gb717 ≠ gb715)); have n8_ := Aside0.mk ((by rw [hg]; exact Nat.ne_of_lt (blk_lt (g := gb716) (o := .cells #[.slice none 0 0, .slice none 0 0, .slice none 0 0] 60 (0, 0)) (by (with_reducible repeat (first | refine blk_drewN ?_ _ | refine blk_drew ?_ | refine blk_alloc ?_ _)); exact BK716.out)) : gb716 ≠ gb717)); have n9_ := Aside0.mk ((by rw [hg]; exact Nat.ne_of_gt (blk_lt (g := gb716) (o := .cells #[.slice none 0 0, .slice none 0 0, .slice none 0 0] 60 (0, 0)) (by (with_reducible repeat (first | refine blk_drewN ?_ _ | refine blk_drew ?_ | refine blk_alloc ?_ _)); exact BK716.out)) : gb717 ≠ gb716)); clear BK715; clear BK716; clear HB; have BK715 := n0_; have BK716 := n1_; have HB := n2_; have BK717 := n3_; have GW717 := n4_; have GE717 := n5_; have NB715_717 := n6_; have NB717_715 := n7_; have NB716_717 := n8_; have NB717_716 := n9_; clear n0_ n1_ n2_ n3_ n4_ n5_ n6_ n7_ n8_ n9_; clear hb hbox hg; have hnb8 := NB715_716.out; have hnc8 := NB716_715.out; have hnb9 := NB715_717.out; have hnc9 := NB717_715.out; have hcz10_0 : w7.cell? ⟨gb715, 0, none⟩ = some (.slice A0_0 l0_0.length c0_0) := (blk_cell BK715.out 0).trans rfl; have hcz10_1 : w7.cell? ⟨gb715, 1, none⟩ = some (.slice A0_1 l0_1.length c0_1) := (blk_cell BK715.out 1).trans rfl; have hcz10_2 : w7.cell? ⟨gb715, 2, none⟩ = some (.slice A0_2 l0_2.length c0_2) := (blk_cell BK715.out 2).trans rfl; have hfz10_0 := blk_frozen BK715.out 0; have hfz10_1 := blk_frozen BK715.out 1; have hfz10_2 := blk_frozen BK715.out 2) | ((with_reducible refine gate_callee (f := 16) rfl ?_); refine goesL_ (some 6) rfl rfl Try.func16 (by kernel_rfl) rfl #[.agg #[.slice A0_0 l0_0.length c0_0]] rfl (by (try simp only [List.map_toArray, List.map_cons, List.map_nil]); first | done | rfl | (simp only [List.length_drop, List.length_take]; rfl)) ?_; (with_reducible refine (laws_toMemory.calls _ _ l0_0 t718 _ ?side1 ?side2 A2.out).mono ?_); (case side1 => repeat (first | exact (Kd.C_below HR0_0.out HB.out) | (with_reducible refine Kd.C_alloc ?_ _) | (with_reducible refine Kd.C_drewN ?_ _) | (with_reducible refine Kd.C_drew ?_))); (case side2 => exact HC0_0.out); rintro e w11 ⟨v719, rfl, ho0, hb⟩; refine ⟨_, rfl, ?_⟩; have n0_ := Aside0.mk (Kd.S_lower ho0 (below_size (by repeat (first | (with_reducible first | exact HB.out | apply below_alloc | apply pw_below_drewN | apply below_drew1 | refine below_set ?_ GE715.out | refine below_set ?_ GE716.out | refine below_set ?_ GE717.out) | exact HB.out)))); have n1_ := Aside0.mk (blk_below (g := gb715) (o := .cells #[.slice A0_0 l0_0.length c0_0, .slice A0_1 l0_1.length c0_1, .slice A0_2 l0_2.length c0_2] 78 (0, 0)) (by (with_reducible repeat (first | refine blk_drewN ?_ _ | refine blk_drew ?_ | refine blk_alloc ?_ _)); exact BK715.out) hb); have n2_ := Aside0.mk (blk_below (g := gb716) (o := .cells #[.slice none 0 0, .slice none 0 0, .slice none 0 0] 60 (0, 0)) (by (with_reducible repeat (first | refine blk_drewN ?_ _ | refine blk_drew ?_ | refine blk_alloc ?_ _)); exact BK716.out) hb); have n3_ := Aside0.mk (blk_below (g := gb717) (o := .cells #[.slice none 0 0, .slice none 0 0, .slice none 0 0] 60 (0, 0)) (by (with_reducible repeat (first | refine blk_drewN ?_ _ | refine blk_drew ?_ | refine blk_alloc ?_ _)); exact BK717.out) hb); have n4_ := Aside0.mk (below_step (by repeat (first | (with_reducible first | exact HB.out | apply below_alloc | apply pw_below_drewN | apply below_drew1 | refine below_set ?_ GE715.out | refine below_set ?_ GE716.out | refine below_set ?_ GE717.out) | exact HB.out)) hb); clear BK715; clear BK716; clear BK717; clear HB; have HO720 := n0_; have BK715 := n1_; have BK716 := n2_; have BK717 := n3_; have HB := n4_; clear n0_ n1_ n2_ n3_ n4_; (try clear hb); (try clear hb2); (try clear hk); (try clear hi); (try clear ho0); obtain ⟨Ao12, co12, eo12⟩ := Kd.S_slice HO720.out; subst eo12; have hnb13 := NB717_716.out; have hnc13 := NB716_717.out; have hcz14_0 : w11.cell? ⟨gb717, 0, none⟩ = some (.slice none 0 0) := (blk_cell BK717.out 0).trans rfl; have hcz14_1 : w11.cell? ⟨gb717, 1, none⟩ = some (.slice none 0 0) := (blk_cell BK717.out 1).trans rfl; have hcz14_2 : w11.cell? ⟨gb717, 2, none⟩ = some (.slice none 0 0) := (blk_cell BK717.out 2).trans rfl; have hfz14_0 := blk_frozen BK717.out 0; have hfz14_1 := blk_frozen BK717.out 1; have hfz14_2 := blk_frozen BK717.out 2; have hcz15_0 : w11.cell? ⟨gb715, 0, none⟩ = some (.slice A0_0 l0_0.length c0_0) := (blk_cell BK715.out 0).trans rfl; have hcz15_1 : w11.cell? ⟨gb715, 1, none⟩ = some (.slice A0_1 l0_1.length c0_1) := (blk_cell BK715.out 1).trans rfl; have hcz15_2 : w11.cell? ⟨gb715, 2, none⟩ = some (.slice A0_2 l0_2.length c0_2) := (blk_cell BK715.out 2).trans rfl; have hfz15_0 := blk_frozen BK715.out 0; have hfz15_1 := blk_frozen BK715.out 1; have hfz15_2 := blk_frozen BK715.out 2) | ((with_reducible refine gate_callee (f := 83) rfl ?_); refine goesL_ (some 10) rfl rfl Try.func83 (by kernel_rfl) rfl #[.slice A0_1 l0_1.length c0_1] rfl (by (try simp only [List.map_toArray, List.map_cons, List.map_nil]); first | done | rfl | (simp only [List.length_drop, List.length_take]; rfl)) ?_; (with_reducible refine (laws_toWindowS.calls k _ _ l0_1 t721 _ ?side1 ?side2 A3.out).mono ?_); (case side1 => exact Kd.C_below HR0_1.out (by repeat (first | (with_reducible first | exact HB.out | apply below_alloc | apply pw_below_drewN | apply below_drew1 | refine below_set ?_ GE715.out | refine below_set ?_ GE716.out | refine below_set ?_ GE717.out) | exact HB.out))); (case side2 => exact HC0_1.out); rintro e w16 ⟨v722, rfl, ho0, hb⟩; refine ⟨_, rfl, ?_⟩; have n0_ := Aside0.mk (Kd.S_below (by (with_reducible repeat (first | apply Kd.S_alloc | apply Kd.S_drewN | apply Kd.S_drew)); exact (Kd.S_mono (Kd.S_far (p := ⟨gb717, 0, none⟩) (Kd.S_types HO720.out BK717.out (by decide)) (fun _ hk => hk.2) (.slice Ao12 t718.length co12)) (fun _ h_ => h_.1))) hb); have n1_ := Aside0.mk (Kd.R_lower ho0 (below_size (by repeat (first | (with_reducible first | exact HB.out | apply below_alloc | apply pw_below_drewN | apply below_drew1 | refine below_set ?_ GE715.out | refine below_set ?_ GE716.out | refine below_set ?_ GE717.out) | exact HB.out)))); have n2_ := Aside0.mk (blk_below (g := gb715) (o := .cells #[.slice A0_0 l0_0.length c0_0, .slice A0_1 l0_1.length c0_1, .slice A0_2 l0_2.length c0_2] 78 (0, 0)) (by (with_reducible repeat (first | refine blk_drewN ?_ _ | refine blk_drew ?_ | refine blk_alloc ?_ _)); refine blk_far ?_ NB715_717.out _; (with_reducible repeat (first | refine blk_drewN ?_ _ | refine blk_drew ?_ | refine blk_alloc ?_ _)); exact BK715.out) hb); have n3_ := Aside0.mk (blk_below (g := gb716) (o := .cells #[.slice none 0 0, .slice none 0 0, .slice none 0 0] 60 (0, 0)) (by (with_reducible repeat (first | refine blk_drewN ?_ _ | refine blk_drew ?_ | refine blk_alloc ?_ _)); refine blk_far ?_ NB716_717.out _; (with_reducible repeat (first | refine blk_drewN ?_ _ | refine blk_drew ?_ | refine blk_alloc ?_ _)); exact BK716.out) hb); have n4_ := Aside0.mk (blk_below (g := gb717) (o := .cells #[.slice Ao12 t718.length co12, .slice none 0 0, .slice none 0 0] 60 (0, 0)) (by (with_reducible repeat (first | refine blk_drewN ?_ _ | refine blk_drew ?_ | refine blk_alloc ?_ _)); refine blk_put (cs := #[.slice none 0 0, .slice none 0 0, .slice none 0 0]) ?_ 0 _ rfl; (with_reducible repeat (first | refine blk_drewN ?_ _ | refine blk_drew ?_ | refine blk_alloc ?_ _)); exact BK717.out) hb); have n5_ := Aside0.mk (below_step (by repeat (first | (with_reducible first | exact HB.out | apply below_alloc | apply pw_below_drewN | apply below_drew1 | refine below_set ?_ GE715.out | refine below_set ?_ GE716.out | refine below_set ?_ GE717.out) | exact HB.out)) hb); clear HO720; clear BK715; clear BK716; clear BK717; clear HB; have HO720 := n0_; have HO723 := n1_; have BK715 := n2_; have BK716 := n3_; have BK717 := n4_; have HB := n5_; clear n0_ n1_ n2_ n3_ n4_ n5_; (try clear hb); (try clear hb2); (try clear hk); (try clear hi); (try clear ho0); obtain ⟨Ao17, co17, eo17⟩ := Kd.R_slice HO723.out; subst eo17; have hcz18_0 : w16.cell? ⟨gb717, 0, none⟩ = some (.slice Ao12 t718.length co12) := (blk_cell BK717.out 0).trans rfl; have hcz18_1 : w16.cell? ⟨gb717, 1, none⟩ = some (.slice none 0 0) := (blk_cell BK717.out 1).trans rfl; have hcz18_2 : w16.cell? ⟨gb717, 2, none⟩ = some (.slice none 0 0) := (blk_cell BK717.out 2).trans rfl; have hfz18_0 := blk_frozen BK717.out 0; have hfz18_1 := blk_frozen BK717.out 1; have hfz18_2 := blk_frozen BK717.out 2; have hcz19_0 : w16.cell? ⟨gb715, 0, none⟩ = some (.slice A0_0 l0_0.length c0_0) := (blk_cell BK715.out 0).trans rfl; have hcz19_1 : w16.cell? ⟨gb715, 1, none⟩ = some (.slice A0_1 l0_1.length c0_1) := (blk_cell BK715.out 1).trans rfl; have hcz19_2 : w16.cell? ⟨gb715, 2, none⟩ = some (.slice A0_2 l0_2.length c0_2) := (blk_cell BK715.out 2).trans rfl; have hfz19_0 := blk_frozen BK715.out 0; have hfz19_1 := blk_frozen BK715.out 1; have hfz19_2 := blk_frozen BK715.out 2) | ((with_reducible refine gate_callee (f := 108) rfl ?_); refine goesL_ (some 14) rfl rfl Try.func108 (by kernel_rfl) rfl #[.slice A0_2 l0_2.length c0_2] rfl (by (try simp only [List.map_toArray, List.map_cons, List.map_nil]); first | done | rfl | (simp only [List.length_drop, List.length_take]; rfl)) ?_; (with_reducible refine (laws_toBoolS.calls k _ _ l0_2 t724 _ ?side1 ?side2 A4.out).mono ?_); (case side1 => exact Kd.C_below HR0_2.out (by repeat (first | (with_reducible first | exact HB.out | apply below_alloc | apply pw_below_drewN | apply below_drew1 | refine below_set ?_ GE715.out | refine below_set ?_ GE716.out | refine below_set ?_ GE717.out) | exact HB.out))); (case side2 => exact HC0_2.out); rintro e w20 ⟨v725, rfl, ho0, hb⟩; refine ⟨_, rfl, ?_⟩; have n0_ := Aside0.mk (Kd.S_below (by (with_reducible repeat (first | apply Kd.S_alloc | apply Kd.S_drewN | apply Kd.S_drew)); exact (Kd.S_mono (Kd.S_far (p := ⟨gb717, 1, none⟩) (Kd.S_types HO720.out BK717.out (by decide)) (fun _ hk => hk.2) (.slice Ao17 t721.length co17)) (fun _ h_ => h_.1))) hb); have n1_ := Aside0.mk (Kd.R_below (by (with_reducible repeat (first | apply Kd.R_alloc | apply Kd.R_drewN | apply Kd.R_drew)); exact (Kd.R_mono (Kd.R_far (p := ⟨gb717, 1, none⟩) (Kd.R_types HO723.out BK717.out (by decide)) (fun _ hk => hk.2) (.slice Ao17 t721.length co17)) (fun _ h_ => h_.1))) hb); have n2_ := Aside0.mk (Kd.R_lower ho0 (below_size (by repeat (first | (with_reducible first | exact HB.out | apply below_alloc | apply pw_below_drewN | apply below_drew1 | refine below_set ?_ GE715.out | refine below_set ?_ GE716.out | refine below_set ?_ GE717.out) | exact HB.out)))); have n3_ := Aside0.mk (blk_below (g := gb715) (o := .cells #[.slice A0_0 l0_0.length c0_0, .slice A0_1 l0_1.length c0_1, .slice A0_2 l0_2.length c0_2] 78 (0, 0)) (by (with_reducible repeat (first | refine blk_drewN ?_ _ | refine blk_drew ?_ | refine blk_alloc ?_ _)); refine blk_far ?_ NB715_717.out _; (with_reducible repeat (first | refine blk_drewN ?_ _ | refine blk_drew ?_ | refine blk_alloc ?_ _)); exact BK715.out) hb); have n4_ := Aside0.mk (blk_below (g := gb716) (o := .cells #[.slice none 0 0, .slice none 0 0, .slice none 0 0] 60 (0, 0)) (by (with_reducible repeat (first | refine blk_drewN ?_ _ | refine blk_drew ?_ | refine blk_alloc ?_ _)); refine blk_far ?_ NB716_717.out _; (with_reducible repeat (first | refine blk_drewN ?_ _ | refine blk_drew ?_ | refine blk_alloc ?_ _)); exact BK716.out) hb); have n5_ := Aside0.mk (blk_below (g := gb717) (o := .cells #[.slice Ao12 t718.length co12, .slice Ao17 t721.length co17, .slice none 0 0] 60 (0, 0)) (by (with_reducible repeat (first | refine blk_drewN ?_ _ | refine blk_drew ?_ | refine blk_alloc ?_ _)); refine blk_put (cs := #[.slice Ao12 t718.length co12, .slice none 0 0, .slice none 0 0]) ?_ 1 _ rfl; (with_reducible repeat (first | refine blk_drewN ?_ _ | refine blk_drew ?_ | refine blk_alloc ?_ _)); exact BK717.out) hb); have n6_ := Aside0.mk (below_step (by repeat (first | (with_reducible first | exact HB.out | apply below_alloc | apply pw_below_drewN | apply below_drew1 | refine below_set ?_ GE715.out | refine below_set ?_ GE716.out | refine below_set ?_ GE717.out) | exact HB.out)) hb); clear HO720; clear HO723; clear BK715; clear BK716; clear BK717; clear HB; have HO720 := n0_; have HO723 := n1_; have HO726 := n2_; have BK715 := n3_; have BK716 := n4_; have BK717 := n5_; have HB := n6_; clear n0_ n1_ n2_ n3_ n4_ n5_ n6_; (try clear hb); (try clear hb2); (try clear hk); (try clear hi); (try clear ho0); obtain ⟨Ao21, co21, eo21⟩ := Kd.R_slice HO726.out; subst eo21; have hcz22_0 : w20.cell? ⟨gb717, 0, none⟩ = some (.slice Ao12 t718.length co12) := (blk_cell BK717.out 0).trans rfl; have hcz22_1 : w20.cell? ⟨gb717, 1, none⟩ = some (.slice Ao17 t721.length co17) := (blk_cell BK717.out 1).trans rfl; have hcz22_2 : w20.cell? ⟨gb717, 2, none⟩ = some (.slice none 0 0) := (blk_cell BK717.out 2).trans rfl; have hfz22_0 := blk_frozen BK717.out 0; have hfz22_1 := blk_frozen BK717.out 1; have hfz22_2 := blk_frozen BK717.out 2; have hcz23_0 : w20.cell? ⟨gb716, 0, none⟩ = some (.slice none 0 0) := (blk_cell BK716.out 0).trans rfl; have hcz23_1 : w20.cell? ⟨gb716, 1, none⟩ = some (.slice none 0 0) := (blk_cell BK716.out 1).trans rfl; have hcz23_2 : w20.cell? ⟨gb716, 2, none⟩ = some (.slice none 0 0) := (blk_cell BK716.out 2).trans rfl; have hfz23_0 := blk_frozen BK716.out 0; have hfz23_1 := blk_frozen BK716.out 1; have hfz23_2 := blk_frozen BK716.out 2))
  refine bodyPost_ret (results_cell_row rfl _ _ gb716 60 #[.slice Ao12 t718.length co12, .slice Ao17 t721.length co17, .slice Ao21 t724.length co21] (0, 0) _ rfl (by (with_reducible repeat (first | refine blk_drewN ?_ _ | refine blk_drew ?_ | refine blk_alloc ?_ _)); refine blk_put (cs := #[.slice Ao12 t718.length co12, .slice Ao17 t721.length co17, .slice none 0 0]) ?_ 2 _ rfl; (with_reducible repeat (first | refine blk_drewN ?_ _ | refine blk_drew ?_ | refine blk_alloc ?_ _)); refine blk_put (cs := #[.slice Ao12 t718.length co12, .slice none 0 0, .slice none 0 0]) ?_ 1 _ rfl; (with_reducible repeat (first | refine blk_drewN ?_ _ | refine blk_drew ?_ | refine blk_alloc ?_ _)); refine blk_put (cs := #[.slice none 0 0, .slice none 0 0, .slice none 0 0]) ?_ 0 _ rfl; (with_reducible repeat (first | refine blk_drewN ?_ _ | refine blk_drew ?_ | refine blk_alloc ?_ _)); refine blk_far ?_ NB716_717.out _; (with_reducible repeat (first | refine blk_drewN ?_ _ | refine blk_drew ?_ | refine blk_alloc ?_ _)); exact BK716.out) Try.underlying60 rfl (by kernel_rfl)) rfl ?_
  exact ⟨_, _, _, by first | rfl | (simp [errW_none, errW_some] <;> rfl) | (simp [*, errW_none, errW_some] <;> rfl), by (with_reducible repeat (first | apply Kd.S_alloc | apply Kd.S_drewN | apply Kd.S_drew)); exact Kd.S_mono (Kd.S_far (p := ⟨gb716, 2, none⟩) (Kd.S_far (p := ⟨gb716, 1, none⟩) (Kd.S_far (p := ⟨gb716, 0, none⟩) (Kd.S_far (p := ⟨gb717, 2, none⟩) (Kd.S_types (Kd.S_types HO720.out BK717.out (by decide)) BK716.out (by decide)) (fun _ hk => hk.1.2) (.slice Ao21 t724.length co21)) (fun _ hk => hk.2) (.slice Ao12 t718.length co12)) (fun _ hk => hk.2) (.slice Ao17 t721.length co17)) (fun _ hk => hk.2) (.slice Ao21 t724.length co21)) (fun _ hk => trivial), by (with_reducible repeat (first | apply Kd.R_alloc | apply Kd.R_drewN | apply Kd.R_drew)); exact Kd.R_mono (Kd.R_far (p := ⟨gb716, 2, none⟩) (Kd.R_far (p := ⟨gb716, 1, none⟩) (Kd.R_far (p := ⟨gb716, 0, none⟩) (Kd.R_far (p := ⟨gb717, 2, none⟩) (Kd.R_types (Kd.R_types HO723.out BK717.out (by decide)) BK716.out (by decide)) (fun _ hk => hk.1.2) (.slice Ao21 t724.length co21)) (fun _ hk => hk.2) (.slice Ao12 t718.length co12)) (fun _ hk => hk.2) (.slice Ao17 t721.length co17)) (fun _ hk => hk.2) (.slice Ao21 t724.length co21)) (fun _ hk => trivial), by (with_reducible repeat (first | apply Kd.R_alloc | apply Kd.R_drewN | apply Kd.R_drew)); exact Kd.R_mono (Kd.R_far (p := ⟨gb716, 2, none⟩) (Kd.R_far (p := ⟨gb716, 1, none⟩) (Kd.R_far (p := ⟨gb716, 0, none⟩) (Kd.R_far (p := ⟨gb717, 2, none⟩) (Kd.R_types (Kd.R_types HO726.out BK717.out (by decide)) BK716.out (by decide)) (fun _ hk => hk.1.2) (.slice Ao21 t724.length co21)) (fun _ hk => hk.2) (.slice Ao12 t718.length co12)) (fun _ hk => hk.2) (.slice Ao17 t721.length co17)) (fun _ hk => hk.2) (.slice Ao21 t724.length co21)) (fun _ hk => trivial), by repeat (first | (with_reducible first | exact HB.out | apply below_alloc | apply pw_below_drewN | apply below_drew1 | refine below_set ?_ GE715.out | refine below_set ?_ GE716.out | refine below_set ?_ GE717.out) | exact HB.out)⟩

end Go.Proofs.Ytoomjghabiojkaa.P


namespace Go.Proofs.Ytoomjghabiojkaa.P
open Go.RowKit Go.Proofs.YtoomjghabiojkaaW.PrintWords Go.Proofs.YtoomjghabiojkaaW.PrintLast Go.Proofs.YtoomjghabiojkaaW.PrintMore
attribute [local go_sem] max2_int min2_int max_two min_two max_three min_three max_four min_four   -- for this text's walks alone
set_option linter.unusedVariables false
set_option linter.unusedSimpArgs false

theorem eqAimplWindow (d : Nat) (w : World) (x0 y0 : Int) (x1 y1 : Int) (x2 y2 : Int) (x3 y3 : Int) :
    (Op.equalIn (d + 2) 48 (.agg #[.int .i64 x0, .int .i64 x1, .int .i64 x2, .int .i64 x3]) (.agg #[.int .i64 y0, .int .i64 y1, .int .i64 y2, .int .i64 y3])).run Try.prog w = .ok (x0 == y0 && (x1 == y1 && (x2 == y2 && (x3 == y3)))) w := by
  refine eqA_of Try.underlying48 (by kernel_rfl) ?_
  refine eqf_cons (by rfl) (by go_simp; rfl) (by go_simp; rfl) (by go_simp) ?_
  refine eqf_cons (by rfl) (by go_simp; rfl) (by go_simp; rfl) (by go_simp) ?_
  refine eqf_cons (by rfl) (by go_simp; rfl) (by go_simp; rfl) (by go_simp) ?_
  exact eqf_last (by rfl) (by go_simp; rfl) (by go_simp; rfl) (by go_simp)
end Go.Proofs.Ytoomjghabiojkaa.P


namespace Go.Proofs.Ytoomjghabiojkaa.P
open Go.RowKit Go.Proofs.YtoomjghabiojkaaW.PrintWords Go.Proofs.YtoomjghabiojkaaW.PrintLast Go.Proofs.YtoomjghabiojkaaW.PrintMore
attribute [local go_sem] max2_int min2_int max_two min_two max_three min_three max_four min_four   -- for this text's walks alone
set_option linter.unusedVariables false
set_option linter.unusedSimpArgs false

attribute [local go_sem high] eqAimplWindow
mutual
def impl_IsMachine.j0 : Nat → Bool → List (List Int) → List (SimplWindow) → List Bool → Option (Bool)
  | 0, _, _, _, _ => none
  | k + 1, x20, x728000, x728001, x728002 => if x20 = true then (some false) else (impl_IsMachine.l0 k x728001 (x728001.length : Int) 0 x728000 x728001 x728002)
def impl_IsMachine.l0 : Nat → List (SimplWindow) → Int → Int → List (List Int) → List (SimplWindow) → List Bool → Option (Bool)
  | 0, _, _, _, _, _, _ => none
  | k + 1, x22, x23, x24, x728000, x728001, x728002 => if x24 < x23 then (if 0 ≤ x24 then (if x24 < (x22.length : Int) then (if x24 < (x728002.length : Int) then (if rdOf false x728002 x24 = true then ((impl_Memory_hasWindow.f x728000 ((rd_TimplWindow x22 x24).f0) ((rd_TimplWindow x22 x24).f1) ((rd_TimplWindow x22 x24).f2) ((rd_TimplWindow x22 x24).f3)).bind fun t732 => (if t732 = true then (impl_IsMachine.l0 k x22 x23 (wrap64 (x24 + 1)) x728000 x728001 x728002) else (some false))) else (if (!(((rd_TimplWindow x22 x24).f0) == 0) || (!(((rd_TimplWindow x22 x24).f1) == 0) || (!(((rd_TimplWindow x22 x24).f2) == 0) || (!(((rd_TimplWindow x22 x24).f3) == 0))))) = true then (some false) else (impl_IsMachine.l0 k x22 x23 (wrap64 (x24 + 1)) x728000 x728001 x728002))) else (none)) else (none)) else (none)) else (some true)
end
def impl_IsMachine.f (k : Nat) (l0_0 : List (List Int)) (l0_1 : List (SimplWindow)) (l0_2 : List Bool) : Option (Bool) := (impl_IsMemory.f k l0_0).bind fun t728 => (if t728 = true then (if (l0_1.length : Int) = 4 then (impl_IsMachine.j0 k ((l0_2.length : Int) != 4) l0_0 l0_1 l0_2) else (impl_IsMachine.j0 k true l0_0 l0_1 l0_2)) else (impl_IsMachine.j0 k true l0_0 l0_1 l0_2))
set_option maxHeartbeats 8000000 in
set_option maxRecDepth 100000 in
theorem impl_IsMachine.calls (k : Nat) (A0_0 : Option Addr) (c0_0 : Nat) (l0_0 : List (List Int)) (A0_1 : Option Addr) (c0_1 : Nat) (l0_1 : List (SimplWindow)) (A0_2 : Option Addr) (c0_2 : Nat) (l0_2 : List Bool) (r : Bool) (w : World) (hr0_0 : Kd.C (Kd.slice 5 (Kd.int .u8)) w A0_0 l0_0.length l0_0) (hc0_0 : l0_0.length ≤ c0_0) (hr0_1 : Kd.C kimplWindow w A0_1 l0_1.length l0_1) (hc0_1 : l0_1.length ≤ c0_1) (hr0_2 : Kd.C Kd.bool w A0_2 l0_2.length l0_2) (hc0_2 : l0_2.length ≤ c0_2) (h : impl_IsMachine.f k l0_0 l0_1 l0_2 = some r) :
    Calls Try.prog 109 #[.agg #[.slice A0_0 l0_0.length c0_0, .slice A0_1 l0_1.length c0_1, .slice A0_2 l0_2.length c0_2]] w fun e w' => e = .returned (.bool r) ∧ Below w.heap.size w w' := by
  have hu60 := Try.underlying60
  have hu26 := Try.underlying26
  have hu48 := Try.underlying48
  have HR0_0 := Aside0.mk hr0_0
  have HC0_0 := Aside0.mk hc0_0
  clear hr0_0 hc0_0
  have HR0_1 := Aside0.mk hr0_1
  have HC0_1 := Aside0.mk hc0_1
  clear hr0_1 hc0_1
  have HR0_2 := Aside0.mk hr0_2
  have HC0_2 := Aside0.mk hc0_2
  clear hr0_2 hc0_2
  have HB := Aside0.mk (Below.refl w.heap.size w)
  have H : ((impl_IsMemory.f k l0_0).bind fun t728 => (if t728 = true then (if (l0_1.length : Int) = 4 then (impl_IsMachine.j0 k ((l0_2.length : Int) != 4) l0_0 l0_1 l0_2) else (impl_IsMachine.j0 k true l0_0 l0_1 l0_2)) else (impl_IsMachine.j0 k true l0_0 l0_1 l0_2))) = some r := h
  clear h
  have HC2 := Aside0.mk H
  clear H
  go_enter Try.func109, Try.ntmps109
  go_upto_region 1 with (first | ((with_reducible refine gate_dst (N := 1) rfl ?_); (try (refine gate_guard (by rfl) ?_; dsimp only)); refine box_event ?hg (N := 1) ?hd (cs := #[.slice A0_0 l0_0.length c0_0, .slice A0_1 l0_1.length c0_1, .slice A0_2 l0_2.length c0_2]) (t := 60) ?hr ?_; (case hd => rfl); (case hg => rfl); (case hr => first | (go_simp; done) | (go_simp; rfl)); intro gb727 hg w3 hbox hb; have n0_ := Aside0.mk (below_step (by repeat (first | (with_reducible first | exact HB.out | apply below_alloc | apply pw_below_drewN | apply below_drew1) | exact HB.out)) hb); have n1_ := Aside0.mk (hbox); have n2_ := Aside0.mk ((by rw [hg]; exact (below_size (by repeat (first | (with_reducible first | exact HB.out | apply below_alloc | apply pw_below_drewN | apply below_drew1) | exact HB.out))) : w.heap.size ≤ gb727)); have n3_ := Aside0.mk ((by rw [hg]; exact (below_size (by repeat (first | (with_reducible first | exact HB.out | apply below_alloc | apply pw_below_drewN | apply below_drew1) | exact HB.out))) : w.heap.size ≤ gb727)); clear HB; have HB := n0_; have BK727 := n1_; have GW727 := n2_; have GE727 := n3_; clear n0_ n1_ n2_ n3_; clear hb hbox hg))
  (try simp only [Act.put, List.setIfInBounds_toArray, List.set_cons_zero, List.set_cons_succ])
  go_cut [20] (fun v20 wc => ∃ (kq : Nat) (x20_1 : Bool), v20 = .bool x20_1 ∧ Aside0 (impl_IsMachine.j0 kq x20_1 l0_0 l0_1 l0_2 = some r) ∧ Aside0 (kq ≤ k) ∧ Aside0 (wc.heap[gb727]? = some (.cells #[(.slice A0_0 l0_0.length c0_0), (.slice A0_1 l0_1.length c0_1), (.slice A0_2 l0_2.length c0_2)] 60 (0, 0))) ∧ Aside0 (Below w.heap.size w wc))
  case first =>
    have H := HC2.out
    clear HC2
    replace H := Option.bind_eq_some_iff.mp H
    obtain ⟨t728, A40, H⟩ := H
    replace H : (if t728 = true then (if (l0_1.length : Int) = 4 then (impl_IsMachine.j0 k ((l0_2.length : Int) != 4) l0_0 l0_1 l0_2) else (impl_IsMachine.j0 k true l0_0 l0_1 l0_2)) else (impl_IsMachine.j0 k true l0_0 l0_1 l0_2)) = some r := H
    have A4 := Aside0.mk A40
    clear A40
    by_cases c5 : t728 = true
    · subst c5
      have H1 : (if (l0_1.length : Int) = 4 then (impl_IsMachine.j0 k ((l0_2.length : Int) != 4) l0_0 l0_1 l0_2) else (impl_IsMachine.j0 k true l0_0 l0_1 l0_2)) = some r := by rw [if_pos rfl] at H; exact H
      clear H
      have H := H1
      clear H1
      by_cases c6 : (l0_1.length : Int) = 4
      · rw [if_pos c6] at H
        have c6b0 : ((l0_1.length : Int) == 4) = true := beq_iff_eq.mpr c6
        have c6b1 : ((l0_1.length : Int) != 4) = false := bne_eq_false_iff_eq.mpr c6
        clear c6
        (first | rw [c6b0] | (simp only [i64_w, i32_w]; rw [c6b0]) | skip)
        have H' := Aside0.mk H
        clear H
        have hcz7_0 : w3.cell? ⟨gb727, 0, none⟩ = some (.slice A0_0 l0_0.length c0_0) := (blk_cell BK727.out 0).trans rfl
        have hcz7_1 : w3.cell? ⟨gb727, 1, none⟩ = some (.slice A0_1 l0_1.length c0_1) := (blk_cell BK727.out 1).trans rfl
        have hcz7_2 : w3.cell? ⟨gb727, 2, none⟩ = some (.slice A0_2 l0_2.length c0_2) := (blk_cell BK727.out 2).trans rfl
        have hfz7_0 := blk_frozen BK727.out 0
        have hfz7_1 := blk_frozen BK727.out 1
        have hfz7_2 := blk_frozen BK727.out 2
        go_wp2_with (first | ((with_reducible refine gate_callee (f := 75) rfl ?_); refine goesL_ (some 7) rfl rfl Try.func75 (by kernel_rfl) rfl #[.agg #[.slice A0_0 l0_0.length c0_0]] rfl (by (try simp only [List.map_toArray, List.map_cons, List.map_nil]); first | done | rfl | (simp only [List.length_drop, List.length_take]; rfl)) ?_; (with_reducible refine (impl_IsMemory.calls k _ _ l0_0 true _ ?side1 ?side2 A4.out).mono ?_); (case side1 => repeat (first | exact (Kd.C_below HR0_0.out HB.out) | (with_reducible refine Kd.C_alloc ?_ _) | (with_reducible refine Kd.C_drewN ?_ _) | (with_reducible refine Kd.C_drew ?_))); (case side2 => exact HC0_0.out); rintro e w8 ⟨rfl, hb⟩; refine ⟨_, rfl, ?_⟩; have n0_ := Aside0.mk (blk_below (g := gb727) (o := .cells #[.slice A0_0 l0_0.length c0_0, .slice A0_1 l0_1.length c0_1, .slice A0_2 l0_2.length c0_2] 60 (0, 0)) (by (with_reducible repeat (first | refine blk_drewN ?_ _ | refine blk_drew ?_ | refine blk_alloc ?_ _)); exact BK727.out) hb); have n1_ := Aside0.mk (below_step (by repeat (first | (with_reducible first | exact HB.out | apply below_alloc | apply pw_below_drewN | apply below_drew1 | refine below_set ?_ GE727.out) | exact HB.out)) hb); clear BK727; clear HB; have BK727 := n0_; have HB := n1_; clear n0_ n1_; (try clear hb); (try clear hb2); (try clear hk); (try clear hi); have hcz9_0 : w8.cell? ⟨gb727, 0, none⟩ = some (.slice A0_0 l0_0.length c0_0) := (blk_cell BK727.out 0).trans rfl; have hcz9_1 : w8.cell? ⟨gb727, 1, none⟩ = some (.slice A0_1 l0_1.length c0_1) := (blk_cell BK727.out 1).trans rfl; have hcz9_2 : w8.cell? ⟨gb727, 2, none⟩ = some (.slice A0_2 l0_2.length c0_2) := (blk_cell BK727.out 2).trans rfl; have hfz9_0 := blk_frozen BK727.out 0; have hfz9_1 := blk_frozen BK727.out 1; have hfz9_2 := blk_frozen BK727.out 2))
        go_meet
        case rel => exact ⟨_, (((l0_2.length : Int) != 4)), (by first | rfl | (simp; done) | (simp [*]; done)), H', ⟨by first | omega | exact Nat.le_refl _⟩, ⟨by (with_reducible repeat (first | refine blk_drewN ?_ _ | refine blk_drew ?_ | refine blk_alloc ?_ _)); exact BK727.out⟩, ⟨by repeat (first | (with_reducible first | exact HB.out | apply below_alloc | apply pw_below_drewN | apply below_drew1 | refine below_set ?_ GE727.out) | exact HB.out)⟩⟩
      · rw [if_neg c6] at H
        have c6b0 : ((l0_1.length : Int) == 4) = false := beq_eq_false_iff_ne.mpr c6
        have c6b1 : ((l0_1.length : Int) != 4) = true := bne_iff_ne.mpr c6
        (first | rw [c6b0] | (simp only [i64_w, i32_w]; rw [c6b0]) | skip)
        have H' := Aside0.mk H
        clear H
        have hcz10_0 : w3.cell? ⟨gb727, 0, none⟩ = some (.slice A0_0 l0_0.length c0_0) := (blk_cell BK727.out 0).trans rfl
        have hcz10_1 : w3.cell? ⟨gb727, 1, none⟩ = some (.slice A0_1 l0_1.length c0_1) := (blk_cell BK727.out 1).trans rfl
        have hcz10_2 : w3.cell? ⟨gb727, 2, none⟩ = some (.slice A0_2 l0_2.length c0_2) := (blk_cell BK727.out 2).trans rfl
        have hfz10_0 := blk_frozen BK727.out 0
        have hfz10_1 := blk_frozen BK727.out 1
        have hfz10_2 := blk_frozen BK727.out 2
        go_wp2_with (first | ((with_reducible refine gate_callee (f := 75) rfl ?_); refine goesL_ (some 7) rfl rfl Try.func75 (by kernel_rfl) rfl #[.agg #[.slice A0_0 l0_0.length c0_0]] rfl (by (try simp only [List.map_toArray, List.map_cons, List.map_nil]); first | done | rfl | (simp only [List.length_drop, List.length_take]; rfl)) ?_; (with_reducible refine (impl_IsMemory.calls k _ _ l0_0 true _ ?side1 ?side2 A4.out).mono ?_); (case side1 => repeat (first | exact (Kd.C_below HR0_0.out HB.out) | (with_reducible refine Kd.C_alloc ?_ _) | (with_reducible refine Kd.C_drewN ?_ _) | (with_reducible refine Kd.C_drew ?_))); (case side2 => exact HC0_0.out); rintro e w11 ⟨rfl, hb⟩; refine ⟨_, rfl, ?_⟩; have n0_ := Aside0.mk (blk_below (g := gb727) (o := .cells #[.slice A0_0 l0_0.length c0_0, .slice A0_1 l0_1.length c0_1, .slice A0_2 l0_2.length c0_2] 60 (0, 0)) (by (with_reducible repeat (first | refine blk_drewN ?_ _ | refine blk_drew ?_ | refine blk_alloc ?_ _)); exact BK727.out) hb); have n1_ := Aside0.mk (below_step (by repeat (first | (with_reducible first | exact HB.out | apply below_alloc | apply pw_below_drewN | apply below_drew1 | refine below_set ?_ GE727.out) | exact HB.out)) hb); clear BK727; clear HB; have BK727 := n0_; have HB := n1_; clear n0_ n1_; (try clear hb); (try clear hb2); (try clear hk); (try clear hi); have hcz12_0 : w11.cell? ⟨gb727, 0, none⟩ = some (.slice A0_0 l0_0.length c0_0) := (blk_cell BK727.out 0).trans rfl; have hcz12_1 : w11.cell? ⟨gb727, 1, none⟩ = some (.slice A0_1 l0_1.length c0_1) := (blk_cell BK727.out 1).trans rfl; have hcz12_2 : w11.cell? ⟨gb727, 2, none⟩ = some (.slice A0_2 l0_2.length c0_2) := (blk_cell BK727.out 2).trans rfl; have hfz12_0 := blk_frozen BK727.out 0; have hfz12_1 := blk_frozen BK727.out 1; have hfz12_2 := blk_frozen BK727.out 2))
        go_meet
        case rel => exact ⟨_, (true), (by first | rfl | (simp; done) | (simp [*]; done)), H', ⟨by first | omega | exact Nat.le_refl _⟩, ⟨by (with_reducible repeat (first | refine blk_drewN ?_ _ | refine blk_drew ?_ | refine blk_alloc ?_ _)); exact BK727.out⟩, ⟨by repeat (first | (with_reducible first | exact HB.out | apply below_alloc | apply pw_below_drewN | apply below_drew1 | refine below_set ?_ GE727.out) | exact HB.out)⟩⟩
    · replace c5 := Bool.eq_false_iff.mpr c5
      subst c5
      have H1 : (impl_IsMachine.j0 k true l0_0 l0_1 l0_2) = some r := by rw [if_neg (show ¬ (false = true) by decide)] at H; exact H
      clear H
      have H := H1
      clear H1
      have H' := Aside0.mk H
      clear H
      have hcz13_0 : w3.cell? ⟨gb727, 0, none⟩ = some (.slice A0_0 l0_0.length c0_0) := (blk_cell BK727.out 0).trans rfl
      have hcz13_1 : w3.cell? ⟨gb727, 1, none⟩ = some (.slice A0_1 l0_1.length c0_1) := (blk_cell BK727.out 1).trans rfl
      have hcz13_2 : w3.cell? ⟨gb727, 2, none⟩ = some (.slice A0_2 l0_2.length c0_2) := (blk_cell BK727.out 2).trans rfl
      have hfz13_0 := blk_frozen BK727.out 0
      have hfz13_1 := blk_frozen BK727.out 1
      have hfz13_2 := blk_frozen BK727.out 2
      go_wp2_with (first | ((with_reducible refine gate_callee (f := 75) rfl ?_); refine goesL_ (some 7) rfl rfl Try.func75 (by kernel_rfl) rfl #[.agg #[.slice A0_0 l0_0.length c0_0]] rfl (by (try simp only [List.map_toArray, List.map_cons, List.map_nil]); first | done | rfl | (simp only [List.length_drop, List.length_take]; rfl)) ?_; (with_reducible refine (impl_IsMemory.calls k _ _ l0_0 false _ ?side1 ?side2 A4.out).mono ?_); (case side1 => repeat (first | exact (Kd.C_below HR0_0.out HB.out) | (with_reducible refine Kd.C_alloc ?_ _) | (with_reducible refine Kd.C_drewN ?_ _) | (with_reducible refine Kd.C_drew ?_))); (case side2 => exact HC0_0.out); rintro e w14 ⟨rfl, hb⟩; refine ⟨_, rfl, ?_⟩; have n0_ := Aside0.mk (blk_below (g := gb727) (o := .cells #[.slice A0_0 l0_0.length c0_0, .slice A0_1 l0_1.length c0_1, .slice A0_2 l0_2.length c0_2] 60 (0, 0)) (by (with_reducible repeat (first | refine blk_drewN ?_ _ | refine blk_drew ?_ | refine blk_alloc ?_ _)); exact BK727.out) hb); have n1_ := Aside0.mk (below_step (by repeat (first | (with_reducible first | exact HB.out | apply below_alloc | apply pw_below_drewN | apply below_drew1 | refine below_set ?_ GE727.out) | exact HB.out)) hb); clear BK727; clear HB; have BK727 := n0_; have HB := n1_; clear n0_ n1_; (try clear hb); (try clear hb2); (try clear hk); (try clear hi)))
      go_meet
      case rel => exact ⟨_, (true), (by first | rfl | (simp; done) | (simp [*]; done)), H', ⟨by first | omega | exact Nat.le_refl _⟩, ⟨by (with_reducible repeat (first | refine blk_drewN ?_ _ | refine blk_drew ?_ | refine blk_alloc ?_ _)); exact BK727.out⟩, ⟨by repeat (first | (with_reducible first | exact HB.out | apply below_alloc | apply pw_below_drewN | apply below_drew1 | refine below_set ?_ GE727.out) | exact HB.out)⟩⟩
  case rest =>
    clear HC2
    try clear c1
    try clear p2
    try clear c5
    try clear c6
    try clear c6b0
    try clear c6b1
    try clear c7
    try clear c10
    try clear hcz10_0
    try clear hcz10_1
    try clear hcz10_2
    try clear hcz12_0
    try clear hcz12_1
    try clear hcz12_2
    try clear hcz13_0
    try clear hcz13_1
    try clear hcz13_2
    try clear hcz7_0
    try clear hcz7_1
    try clear hcz7_2
    try clear hcz9_0
    try clear hcz9_1
    try clear hcz9_2
    try clear hfz10_0
    try clear hfz10_1
    try clear hfz10_2
    try clear hfz12_0
    try clear hfz12_1
    try clear hfz12_2
    try clear hfz13_0
    try clear hfz13_1
    try clear hfz13_2
    try clear hfz7_0
    try clear hfz7_1
    try clear hfz7_2
    try clear hfz9_0
    try clear hfz9_1
    try clear hfz9_2
    obtain ⟨kq, x20_1, rfl, HA, HJ1, BK727, HB⟩ := hcut
    cases kq with
    | zero => exact absurd HA.out (by simp [impl_IsMachine.j0])
    | succ kj1 =>
      have H := HA.out
      clear HA
      simp only [impl_IsMachine.j0] at H
      by_cases c15 : x20_1 = true
      · subst c15
        have H1 : (some false) = some r := by rw [if_pos rfl] at H; exact H
        clear H
        have H := H1
        clear H1
        obtain rfl := Option.some.inj H
        go_wp2
        go_ret
        exact ⟨by first | rfl | (simp [errW_none, errW_some] <;> rfl) | (simp [*, errW_none, errW_some] <;> rfl), by repeat (first | (with_reducible first | exact HB.out | apply below_alloc | apply pw_below_drewN | apply below_drew1 | refine below_set ?_ GE727.out) | exact HB.out)⟩
      · replace c15 := Bool.eq_false_iff.mpr c15
        subst c15
        have H1 : (impl_IsMachine.l0 kj1 l0_1 (l0_1.length : Int) 0 l0_0 l0_1 l0_2) = some r := by rw [if_neg (show ¬ (false = true) by decide)] at H; exact H
        clear H
        have H := H1
        clear H1
        have H' := Aside0.mk H
        clear H
        have hcz16_0 : wc.cell? ⟨gb727, 0, none⟩ = some (.slice A0_0 l0_0.length c0_0) := (blk_cell BK727.out 0).trans rfl
        have hcz16_1 : wc.cell? ⟨gb727, 1, none⟩ = some (.slice A0_1 l0_1.length c0_1) := (blk_cell BK727.out 1).trans rfl
        have hcz16_2 : wc.cell? ⟨gb727, 2, none⟩ = some (.slice A0_2 l0_2.length c0_2) := (blk_cell BK727.out 2).trans rfl
        have hfz16_0 := blk_frozen BK727.out 0
        have hfz16_1 := blk_frozen BK727.out 1
        have hfz16_2 := blk_frozen BK727.out 2
        go_wp2
        go_loopg [24] kj1 (fun kq v24 w' => ∃ (x24_2 : Int), v24 = .int .i64 x24_2 ∧ Aside0 (impl_IsMachine.l0 kq l0_1 (l0_1.length : Int) x24_2 l0_0 l0_1 l0_2 = some r) ∧ Aside0 (kq ≤ kj1) ∧ Aside0 (w'.heap[gb727]? = some (.cells #[(.slice A0_0 l0_0.length c0_0), (.slice A0_1 l0_1.length c0_1), (.slice A0_2 l0_2.length c0_2)] 60 (0, 0))) ∧ Aside0 (Below w.heap.size w w'))
        case atStart => exact ⟨(0), (by first | rfl | (simp; done) | (simp [*]; done)), H', ⟨Nat.le_refl _⟩, ⟨by (with_reducible repeat (first | refine blk_drewN ?_ _ | refine blk_drew ?_ | refine blk_alloc ?_ _)); exact BK727.out⟩, ⟨by repeat (first | (with_reducible first | exact HB.out | apply below_alloc | apply pw_below_drewN | apply below_drew1 | refine below_set ?_ GE727.out) | exact HB.out)⟩⟩
        case round =>
          clear H'
          try clear c1
          try clear p2
          try clear c5
          try clear c6
          try clear c6b0
          try clear c6b1
          try clear c7
          try clear c10
          try clear c15
          try clear hcz10_0
          try clear hcz10_1
          try clear hcz10_2
          try clear hcz12_0
          try clear hcz12_1
          try clear hcz12_2
          try clear hcz13_0
          try clear hcz13_1
          try clear hcz13_2
          try clear hcz16_0
          try clear hcz16_1
          try clear hcz16_2
          try clear hcz7_0
          try clear hcz7_1
          try clear hcz7_2
          try clear hcz9_0
          try clear hcz9_1
          try clear hcz9_2
          try clear hfz10_0
          try clear hfz10_1
          try clear hfz10_2
          try clear hfz12_0
          try clear hfz12_1
          try clear hfz12_2
          try clear hfz13_0
          try clear hfz13_1
          try clear hfz13_2
          try clear hfz16_0
          try clear hfz16_1
          try clear hfz16_2
          try clear hfz7_0
          try clear hfz7_1
          try clear hfz7_2
          try clear hfz9_0
          try clear hfz9_1
          try clear hfz9_2
          try clear p2
          obtain ⟨x24_2, rfl, HA, HK2, BK727, HB⟩ := hrel
          cases gk with
          | zero => exact absurd HA.out (by simp [impl_IsMachine.l0])
          | succ k2 =>
            have H := HA.out
            clear HA
            simp only [impl_IsMachine.l0] at H
            by_cases c17 : x24_2 < (l0_1.length : Int)
            · rw [if_pos c17] at H
              have c17b0 : decide (x24_2 < (l0_1.length : Int)) = true := decide_eq_true c17
              clear c17
              by_cases c18 : 0 ≤ x24_2
              · rw [if_pos c18] at H
                have c18b0 : decide (0 ≤ x24_2) = true := decide_eq_true c18
                clear c18
                by_cases c19 : x24_2 < (l0_1.length : Int)
                · rw [if_pos c19] at H
                  have c19b0 : decide (x24_2 < (l0_1.length : Int)) = true := decide_eq_true c19
                  clear c19
                  by_cases c20 : x24_2 < (l0_2.length : Int)
                  · rw [if_pos c20] at H
                    have c20b0 : decide (x24_2 < (l0_2.length : Int)) = true := decide_eq_true c20
                    clear c20
                    obtain ⟨bq21, hbq21⟩ : ∃ b_ : Bool, b_ = (rdOf false l0_2 x24_2) := ⟨_, rfl⟩
                    replace H : (if bq21 = true then ((impl_Memory_hasWindow.f l0_0 ((rd_TimplWindow l0_1 x24_2).f0) ((rd_TimplWindow l0_1 x24_2).f1) ((rd_TimplWindow l0_1 x24_2).f2) ((rd_TimplWindow l0_1 x24_2).f3)).bind fun t732 => (if t732 = true then (impl_IsMachine.l0 k2 l0_1 (l0_1.length : Int) (wrap64 (x24_2 + 1)) l0_0 l0_1 l0_2) else (some false))) else (if (!(((rd_TimplWindow l0_1 x24_2).f0) == 0) || (!(((rd_TimplWindow l0_1 x24_2).f1) == 0) || (!(((rd_TimplWindow l0_1 x24_2).f2) == 0) || (!(((rd_TimplWindow l0_1 x24_2).f3) == 0))))) = true then (some false) else (impl_IsMachine.l0 k2 l0_1 (l0_1.length : Int) (wrap64 (x24_2 + 1)) l0_0 l0_1 l0_2))) = some r := by rw [← hbq21] at H; exact H
                    have Nbq21 := Aside0.mk hbq21
                    clear hbq21
                    by_cases c22 : bq21 = true
                    · subst c22
                      have H1 : ((impl_Memory_hasWindow.f l0_0 ((rd_TimplWindow l0_1 x24_2).f0) ((rd_TimplWindow l0_1 x24_2).f1) ((rd_TimplWindow l0_1 x24_2).f2) ((rd_TimplWindow l0_1 x24_2).f3)).bind fun t732 => (if t732 = true then (impl_IsMachine.l0 k2 l0_1 (l0_1.length : Int) (wrap64 (x24_2 + 1)) l0_0 l0_1 l0_2) else (some false))) = some r := by rw [if_pos rfl] at H; exact H
                      clear H
                      have H := H1
                      clear H1
                      replace H := Option.bind_eq_some_iff.mp H
                      obtain ⟨t732, A230, H⟩ := H
                      replace H : (if t732 = true then (impl_IsMachine.l0 k2 l0_1 (l0_1.length : Int) (wrap64 (x24_2 + 1)) l0_0 l0_1 l0_2) else (some false)) = some r := H
                      have A23 := Aside0.mk A230
                      clear A230
                      by_cases c24 : t732 = true
                      · subst c24
                        have H1 : (impl_IsMachine.l0 k2 l0_1 (l0_1.length : Int) (wrap64 (x24_2 + 1)) l0_0 l0_1 l0_2) = some r := by rw [if_pos rfl] at H; exact H
                        clear H
                        have H := H1
                        clear H1
                        have H' := Aside0.mk H
                        clear H
                        have p729 : 0 ≤ (x24_2 : Int) := of_decide_eq_true (by first | (with_reducible assumption) | assumption)
                        have q729 : x24_2 < (l0_1.length : Int) := of_decide_eq_true (by first | (with_reducible assumption) | assumption)
                        obtain ⟨ad729, e729, hx729_0, hx729_1, hx729_2, hx729_3⟩ := at_TimplWindow HR0_1.out x24_2 p729 q729
                        cases e729
                        replace hx729_0 := (HB.out.cell (World.block_lt_of_cell? w _ hx729_0)).trans hx729_0
                        replace hx729_1 := (HB.out.cell (World.block_lt_of_cell? w _ hx729_1)).trans hx729_1
                        replace hx729_2 := (HB.out.cell (World.block_lt_of_cell? w _ hx729_2)).trans hx729_2
                        replace hx729_3 := (HB.out.cell (World.block_lt_of_cell? w _ hx729_3)).trans hx729_3
                        replace p729 := eq_true p729
                        replace q729 := eq_true q729
                        go_wp2_with (first | ((with_reducible refine gate_dst (N := 4) rfl ?_); (try (refine gate_guard (by rfl) ?_; dsimp only)); refine box_event ?hg (N := 4) ?hd (cs := #[.int .i64 0, .int .i64 0, .int .i64 0, .int .i64 0]) (t := 48) ?hr ?_; (case hd => rfl); (case hg => rfl); (case hr => first | (go_simp; done) | (go_simp; rfl)); intro gb730 hg w25 hbox hb; have n0_ := Aside0.mk (blk_below (g := gb727) (o := .cells #[.slice A0_0 l0_0.length c0_0, .slice (some ad729) l0_1.length c0_1, .slice A0_2 l0_2.length c0_2] 60 (0, 0)) (by (with_reducible repeat (first | refine blk_drewN ?_ _ | refine blk_drew ?_ | refine blk_alloc ?_ _)); exact BK727.out) hb); have n1_ := Aside0.mk (below_step (by repeat (first | (with_reducible first | exact HB.out | apply below_alloc | apply pw_below_drewN | apply below_drew1 | refine below_set ?_ GE727.out) | exact HB.out)) hb); have n2_ := Aside0.mk (hbox); have n3_ := Aside0.mk ((by rw [hg]; exact (below_size (by repeat (first | (with_reducible first | exact HB.out | apply below_alloc | apply pw_below_drewN | apply below_drew1 | refine below_set ?_ GE727.out) | exact HB.out))) : w.heap.size ≤ gb730)); have n4_ := Aside0.mk ((by rw [hg]; exact (below_size (by repeat (first | (with_reducible first | exact HB.out | apply below_alloc | apply pw_below_drewN | apply below_drew1 | refine below_set ?_ GE727.out) | exact HB.out))) : w.heap.size ≤ gb730)); have n5_ := Aside0.mk ((by rw [hg]; exact Nat.ne_of_lt (blk_lt (g := gb727) (o := .cells #[.slice A0_0 l0_0.length c0_0, .slice (some ad729) l0_1.length c0_1, .slice A0_2 l0_2.length c0_2] 60 (0, 0)) (by (with_reducible repeat (first | refine blk_drewN ?_ _ | refine blk_drew ?_ | refine blk_alloc ?_ _)); exact BK727.out)) : gb727 ≠ gb730)); have n6_ := Aside0.mk ((by rw [hg]; exact Nat.ne_of_gt (blk_lt (g := gb727) (o := .cells #[.slice A0_0 l0_0.length c0_0, .slice (some ad729) l0_1.length c0_1, .slice A0_2 l0_2.length c0_2] 60 (0, 0)) (by (with_reducible repeat (first | refine blk_drewN ?_ _ | refine blk_drew ?_ | refine blk_alloc ?_ _)); exact BK727.out)) : gb730 ≠ gb727)); clear BK727; clear HB; have BK727 := n0_; have HB := n1_; have BK730 := n2_; have GW730 := n3_; have GE730 := n4_; have NB727_730 := n5_; have NB730_727 := n6_; clear n0_ n1_ n2_ n3_ n4_ n5_ n6_; clear hb hbox hg; have hnb26 := NB730_727.out; have hnc26 := NB727_730.out; have hcz27_0 : w25.cell? ⟨gb730, 0, none⟩ = some (.int .i64 0) := (blk_cell BK730.out 0).trans rfl; have hcz27_1 : w25.cell? ⟨gb730, 1, none⟩ = some (.int .i64 0) := (blk_cell BK730.out 1).trans rfl; have hcz27_2 : w25.cell? ⟨gb730, 2, none⟩ = some (.int .i64 0) := (blk_cell BK730.out 2).trans rfl; have hcz27_3 : w25.cell? ⟨gb730, 3, none⟩ = some (.int .i64 0) := (blk_cell BK730.out 3).trans rfl; have hfz27_0 := blk_frozen BK730.out 0; have hfz27_1 := blk_frozen BK730.out 1; have hfz27_2 := blk_frozen BK730.out 2; have hfz27_3 := blk_frozen BK730.out 3; have hcz28_0 : w25.cell? ⟨gb727, 0, none⟩ = some (.slice A0_0 l0_0.length c0_0) := (blk_cell BK727.out 0).trans rfl; have hcz28_1 : w25.cell? ⟨gb727, 1, none⟩ = some (.slice (some ad729) l0_1.length c0_1) := (blk_cell BK727.out 1).trans rfl; have hcz28_2 : w25.cell? ⟨gb727, 2, none⟩ = some (.slice A0_2 l0_2.length c0_2) := (blk_cell BK727.out 2).trans rfl; have hfz28_0 := blk_frozen BK727.out 0; have hfz28_1 := blk_frozen BK727.out 1; have hfz28_2 := blk_frozen BK727.out 2; have p731 : 0 ≤ (x24_2 : Int) := of_decide_eq_true (by first | (with_reducible assumption) | assumption); have q731 : x24_2 < (l0_2.length : Int) := of_decide_eq_true (by first | (with_reducible assumption) | assumption); obtain ⟨ad731, e731, hx731_0⟩ := Kd.at_bool HR0_2.out x24_2 p731 q731; (try rw [← Nbq21.out] at hx731_0); cases e731; have hn731_0 : ad731.block ≠ gb730 := Nat.ne_of_lt (Nat.lt_of_lt_of_le (by have := World.block_lt_of_cell? _ _ hx731_0; first | rwa [add_block] at this | exact this) GW730.out); have hn731_1 : ad731.block ≠ gb730 := Nat.ne_of_lt (Nat.lt_of_lt_of_le (by have := World.block_lt_of_cell? _ _ hx731_0; first | rwa [add_block] at this | exact this) GW730.out); have hn731_2 : ad731.block ≠ gb730 := Nat.ne_of_lt (Nat.lt_of_lt_of_le (by have := World.block_lt_of_cell? _ _ hx731_0; first | rwa [add_block] at this | exact this) GW730.out); have hn731_3 : ad731.block ≠ gb730 := Nat.ne_of_lt (Nat.lt_of_lt_of_le (by have := World.block_lt_of_cell? _ _ hx731_0; first | rwa [add_block] at this | exact this) GW730.out); replace hx731_0 := (HB.out.cell (World.block_lt_of_cell? w _ hx731_0)).trans hx731_0; replace hx731_0 := (cell_far (p := ⟨gb730, 0, none⟩) (by first | (rw [add_block]; exact hn731_0) | (show (Addr.add _ _).block ≠ _; rw [add_block]; exact hn731_0) | exact hn731_0) (.int .i64 ((rd_TimplWindow l0_1 x24_2).f0))).trans hx731_0; replace hx731_0 := (cell_far (p := ⟨gb730, 1, none⟩) (by first | (rw [add_block]; exact hn731_1) | (show (Addr.add _ _).block ≠ _; rw [add_block]; exact hn731_1) | exact hn731_1) (.int .i64 ((rd_TimplWindow l0_1 x24_2).f1))).trans hx731_0; replace hx731_0 := (cell_far (p := ⟨gb730, 2, none⟩) (by first | (rw [add_block]; exact hn731_2) | (show (Addr.add _ _).block ≠ _; rw [add_block]; exact hn731_2) | exact hn731_2) (.int .i64 ((rd_TimplWindow l0_1 x24_2).f2))).trans hx731_0; replace hx731_0 := (cell_far (p := ⟨gb730, 3, none⟩) (by first | (rw [add_block]; exact hn731_3) | (show (Addr.add _ _).block ≠ _; rw [add_block]; exact hn731_3) | exact hn731_3) (.int .i64 ((rd_TimplWindow l0_1 x24_2).f3))).trans hx731_0; clear hn731_0; clear hn731_1; clear hn731_2; clear hn731_3; replace p731 := eq_true p731; replace q731 := eq_true q731) | (go_at_call 141; (with_reducible refine (impl_Memory_hasWindow.calls _ _ l0_0 ((rd_TimplWindow l0_1 x24_2).f0) ((rd_TimplWindow l0_1 x24_2).f1) ((rd_TimplWindow l0_1 x24_2).f2) ((rd_TimplWindow l0_1 x24_2).f3) true _ ?side1 ?side2 A23.out).mono ?_); (case side1 => exact Kd.C_below HR0_0.out (by repeat (first | (with_reducible first | exact HB.out | apply below_alloc | apply pw_below_drewN | apply below_drew1 | refine below_set ?_ GE727.out | refine below_set ?_ GE730.out) | exact HB.out))); (case side2 => exact HC0_0.out); rintro e w29 ⟨rfl, hb⟩; have n0_ := Aside0.mk (blk_below (g := gb727) (o := .cells #[.slice A0_0 l0_0.length c0_0, .slice (some ad729) l0_1.length c0_1, .slice (some ad731) l0_2.length c0_2] 60 (0, 0)) (by (with_reducible repeat (first | refine blk_drewN ?_ _ | refine blk_drew ?_ | refine blk_alloc ?_ _)); refine blk_far ?_ NB727_730.out _; (with_reducible repeat (first | refine blk_drewN ?_ _ | refine blk_drew ?_ | refine blk_alloc ?_ _)); refine blk_far ?_ NB727_730.out _; (with_reducible repeat (first | refine blk_drewN ?_ _ | refine blk_drew ?_ | refine blk_alloc ?_ _)); refine blk_far ?_ NB727_730.out _; (with_reducible repeat (first | refine blk_drewN ?_ _ | refine blk_drew ?_ | refine blk_alloc ?_ _)); refine blk_far ?_ NB727_730.out _; (with_reducible repeat (first | refine blk_drewN ?_ _ | refine blk_drew ?_ | refine blk_alloc ?_ _)); exact BK727.out) hb); have n1_ := Aside0.mk (blk_below (g := gb730) (o := .cells #[.int .i64 ((rd_TimplWindow l0_1 x24_2).f0), .int .i64 ((rd_TimplWindow l0_1 x24_2).f1), .int .i64 ((rd_TimplWindow l0_1 x24_2).f2), .int .i64 ((rd_TimplWindow l0_1 x24_2).f3)] 48 (0, 0)) (by (with_reducible repeat (first | refine blk_drewN ?_ _ | refine blk_drew ?_ | refine blk_alloc ?_ _)); refine blk_put (cs := #[.int .i64 ((rd_TimplWindow l0_1 x24_2).f0), .int .i64 ((rd_TimplWindow l0_1 x24_2).f1), .int .i64 ((rd_TimplWindow l0_1 x24_2).f2), .int .i64 0]) ?_ 3 _ rfl; (with_reducible repeat (first | refine blk_drewN ?_ _ | refine blk_drew ?_ | refine blk_alloc ?_ _)); refine blk_put (cs := #[.int .i64 ((rd_TimplWindow l0_1 x24_2).f0), .int .i64 ((rd_TimplWindow l0_1 x24_2).f1), .int .i64 0, .int .i64 0]) ?_ 2 _ rfl; (with_reducible repeat (first | refine blk_drewN ?_ _ | refine blk_drew ?_ | refine blk_alloc ?_ _)); refine blk_put (cs := #[.int .i64 ((rd_TimplWindow l0_1 x24_2).f0), .int .i64 0, .int .i64 0, .int .i64 0]) ?_ 1 _ rfl; (with_reducible repeat (first | refine blk_drewN ?_ _ | refine blk_drew ?_ | refine blk_alloc ?_ _)); refine blk_put (cs := #[.int .i64 0, .int .i64 0, .int .i64 0, .int .i64 0]) ?_ 0 _ rfl; (with_reducible repeat (first | refine blk_drewN ?_ _ | refine blk_drew ?_ | refine blk_alloc ?_ _)); exact BK730.out) hb); have n2_ := Aside0.mk (below_step (by repeat (first | (with_reducible first | exact HB.out | apply below_alloc | apply pw_below_drewN | apply below_drew1 | refine below_set ?_ GE727.out | refine below_set ?_ GE730.out) | exact HB.out)) hb); clear BK727; clear BK730; clear HB; have BK727 := n0_; have BK730 := n1_; have HB := n2_; clear n0_ n1_ n2_; (try clear hb); (try clear hb2); (try clear hk); (try clear hi); have hcz30_0 : w29.cell? ⟨gb727, 0, none⟩ = some (.slice A0_0 l0_0.length c0_0) := (blk_cell BK727.out 0).trans rfl; have hcz30_1 : w29.cell? ⟨gb727, 1, none⟩ = some (.slice (some ad729) l0_1.length c0_1) := (blk_cell BK727.out 1).trans rfl; have hcz30_2 : w29.cell? ⟨gb727, 2, none⟩ = some (.slice (some ad731) l0_2.length c0_2) := (blk_cell BK727.out 2).trans rfl; have hfz30_0 := blk_frozen BK727.out 0; have hfz30_1 := blk_frozen BK727.out 1; have hfz30_2 := blk_frozen BK727.out 2; have p733 : 0 ≤ (x24_2 : Int) := of_decide_eq_true (by first | (with_reducible assumption) | assumption); have q733 : x24_2 < (l0_2.length : Int) := of_decide_eq_true (by first | (with_reducible assumption) | assumption); obtain ⟨ad733, e733, hx733_0⟩ := Kd.at_bool HR0_2.out x24_2 p733 q733; (try rw [← Nbq21.out] at hx733_0); obtain rfl : ad731 = ad733 := (by injection e733); replace hx733_0 := (HB.out.cell (World.block_lt_of_cell? w _ hx733_0)).trans hx733_0; replace p733 := eq_true p733; replace q733 := eq_true q733))
                        go_roundg k2
                        case measure => have := HJ1.out; have := HK2.out; omega
                        case rel => exact ⟨(wrap64 (x24_2 + 1)), (by first | rfl | (simp; done) | (simp [*]; done)), H', ⟨by have := HJ1.out; have := HK2.out; omega⟩, ⟨by (with_reducible repeat (first | refine blk_drewN ?_ _ | refine blk_drew ?_ | refine blk_alloc ?_ _)); exact BK727.out⟩, ⟨by repeat (first | (with_reducible first | exact HB.out | apply below_alloc | apply pw_below_drewN | apply below_drew1 | refine below_set ?_ GE727.out | refine below_set ?_ GE730.out) | exact HB.out)⟩⟩
                      · replace c24 := Bool.eq_false_iff.mpr c24
                        subst c24
                        have H1 : (some false) = some r := by rw [if_neg (show ¬ (false = true) by decide)] at H; exact H
                        clear H
                        have H := H1
                        clear H1
                        obtain rfl := Option.some.inj H
                        have p729 : 0 ≤ (x24_2 : Int) := of_decide_eq_true (by first | (with_reducible assumption) | assumption)
                        have q729 : x24_2 < (l0_1.length : Int) := of_decide_eq_true (by first | (with_reducible assumption) | assumption)
                        obtain ⟨ad729, e729, hx729_0, hx729_1, hx729_2, hx729_3⟩ := at_TimplWindow HR0_1.out x24_2 p729 q729
                        cases e729
                        replace hx729_0 := (HB.out.cell (World.block_lt_of_cell? w _ hx729_0)).trans hx729_0
                        replace hx729_1 := (HB.out.cell (World.block_lt_of_cell? w _ hx729_1)).trans hx729_1
                        replace hx729_2 := (HB.out.cell (World.block_lt_of_cell? w _ hx729_2)).trans hx729_2
                        replace hx729_3 := (HB.out.cell (World.block_lt_of_cell? w _ hx729_3)).trans hx729_3
                        replace p729 := eq_true p729
                        replace q729 := eq_true q729
                        go_wp2_with (first | ((with_reducible refine gate_dst (N := 4) rfl ?_); (try (refine gate_guard (by rfl) ?_; dsimp only)); refine box_event ?hg (N := 4) ?hd (cs := #[.int .i64 0, .int .i64 0, .int .i64 0, .int .i64 0]) (t := 48) ?hr ?_; (case hd => rfl); (case hg => rfl); (case hr => first | (go_simp; done) | (go_simp; rfl)); intro gb730 hg w31 hbox hb; have n0_ := Aside0.mk (blk_below (g := gb727) (o := .cells #[.slice A0_0 l0_0.length c0_0, .slice (some ad729) l0_1.length c0_1, .slice A0_2 l0_2.length c0_2] 60 (0, 0)) (by (with_reducible repeat (first | refine blk_drewN ?_ _ | refine blk_drew ?_ | refine blk_alloc ?_ _)); exact BK727.out) hb); have n1_ := Aside0.mk (below_step (by repeat (first | (with_reducible first | exact HB.out | apply below_alloc | apply pw_below_drewN | apply below_drew1 | refine below_set ?_ GE727.out) | exact HB.out)) hb); have n2_ := Aside0.mk (hbox); have n3_ := Aside0.mk ((by rw [hg]; exact (below_size (by repeat (first | (with_reducible first | exact HB.out | apply below_alloc | apply pw_below_drewN | apply below_drew1 | refine below_set ?_ GE727.out) | exact HB.out))) : w.heap.size ≤ gb730)); have n4_ := Aside0.mk ((by rw [hg]; exact (below_size (by repeat (first | (with_reducible first | exact HB.out | apply below_alloc | apply pw_below_drewN | apply below_drew1 | refine below_set ?_ GE727.out) | exact HB.out))) : w.heap.size ≤ gb730)); have n5_ := Aside0.mk ((by rw [hg]; exact Nat.ne_of_lt (blk_lt (g := gb727) (o := .cells #[.slice A0_0 l0_0.length c0_0, .slice (some ad729) l0_1.length c0_1, .slice A0_2 l0_2.length c0_2] 60 (0, 0)) (by (with_reducible repeat (first | refine blk_drewN ?_ _ | refine blk_drew ?_ | refine blk_alloc ?_ _)); exact BK727.out)) : gb727 ≠ gb730)); have n6_ := Aside0.mk ((by rw [hg]; exact Nat.ne_of_gt (blk_lt (g := gb727) (o := .cells #[.slice A0_0 l0_0.length c0_0, .slice (some ad729) l0_1.length c0_1, .slice A0_2 l0_2.length c0_2] 60 (0, 0)) (by (with_reducible repeat (first | refine blk_drewN ?_ _ | refine blk_drew ?_ | refine blk_alloc ?_ _)); exact BK727.out)) : gb730 ≠ gb727)); clear BK727; clear HB; have BK727 := n0_; have HB := n1_; have BK730 := n2_; have GW730 := n3_; have GE730 := n4_; have NB727_730 := n5_; have NB730_727 := n6_; clear n0_ n1_ n2_ n3_ n4_ n5_ n6_; clear hb hbox hg; have hnb32 := NB730_727.out; have hnc32 := NB727_730.out; have hcz33_0 : w31.cell? ⟨gb730, 0, none⟩ = some (.int .i64 0) := (blk_cell BK730.out 0).trans rfl; have hcz33_1 : w31.cell? ⟨gb730, 1, none⟩ = some (.int .i64 0) := (blk_cell BK730.out 1).trans rfl; have hcz33_2 : w31.cell? ⟨gb730, 2, none⟩ = some (.int .i64 0) := (blk_cell BK730.out 2).trans rfl; have hcz33_3 : w31.cell? ⟨gb730, 3, none⟩ = some (.int .i64 0) := (blk_cell BK730.out 3).trans rfl; have hfz33_0 := blk_frozen BK730.out 0; have hfz33_1 := blk_frozen BK730.out 1; have hfz33_2 := blk_frozen BK730.out 2; have hfz33_3 := blk_frozen BK730.out 3; have hcz34_0 : w31.cell? ⟨gb727, 0, none⟩ = some (.slice A0_0 l0_0.length c0_0) := (blk_cell BK727.out 0).trans rfl; have hcz34_1 : w31.cell? ⟨gb727, 1, none⟩ = some (.slice (some ad729) l0_1.length c0_1) := (blk_cell BK727.out 1).trans rfl; have hcz34_2 : w31.cell? ⟨gb727, 2, none⟩ = some (.slice A0_2 l0_2.length c0_2) := (blk_cell BK727.out 2).trans rfl; have hfz34_0 := blk_frozen BK727.out 0; have hfz34_1 := blk_frozen BK727.out 1; have hfz34_2 := blk_frozen BK727.out 2; have p731 : 0 ≤ (x24_2 : Int) := of_decide_eq_true (by first | (with_reducible assumption) | assumption); have q731 : x24_2 < (l0_2.length : Int) := of_decide_eq_true (by first | (with_reducible assumption) | assumption); obtain ⟨ad731, e731, hx731_0⟩ := Kd.at_bool HR0_2.out x24_2 p731 q731; (try rw [← Nbq21.out] at hx731_0); cases e731; have hn731_0 : ad731.block ≠ gb730 := Nat.ne_of_lt (Nat.lt_of_lt_of_le (by have := World.block_lt_of_cell? _ _ hx731_0; first | rwa [add_block] at this | exact this) GW730.out); have hn731_1 : ad731.block ≠ gb730 := Nat.ne_of_lt (Nat.lt_of_lt_of_le (by have := World.block_lt_of_cell? _ _ hx731_0; first | rwa [add_block] at this | exact this) GW730.out); have hn731_2 : ad731.block ≠ gb730 := Nat.ne_of_lt (Nat.lt_of_lt_of_le (by have := World.block_lt_of_cell? _ _ hx731_0; first | rwa [add_block] at this | exact this) GW730.out); have hn731_3 : ad731.block ≠ gb730 := Nat.ne_of_lt (Nat.lt_of_lt_of_le (by have := World.block_lt_of_cell? _ _ hx731_0; first | rwa [add_block] at this | exact this) GW730.out); replace hx731_0 := (HB.out.cell (World.block_lt_of_cell? w _ hx731_0)).trans hx731_0; replace hx731_0 := (cell_far (p := ⟨gb730, 0, none⟩) (by first | (rw [add_block]; exact hn731_0) | (show (Addr.add _ _).block ≠ _; rw [add_block]; exact hn731_0) | exact hn731_0) (.int .i64 ((rd_TimplWindow l0_1 x24_2).f0))).trans hx731_0; replace hx731_0 := (cell_far (p := ⟨gb730, 1, none⟩) (by first | (rw [add_block]; exact hn731_1) | (show (Addr.add _ _).block ≠ _; rw [add_block]; exact hn731_1) | exact hn731_1) (.int .i64 ((rd_TimplWindow l0_1 x24_2).f1))).trans hx731_0; replace hx731_0 := (cell_far (p := ⟨gb730, 2, none⟩) (by first | (rw [add_block]; exact hn731_2) | (show (Addr.add _ _).block ≠ _; rw [add_block]; exact hn731_2) | exact hn731_2) (.int .i64 ((rd_TimplWindow l0_1 x24_2).f2))).trans hx731_0; replace hx731_0 := (cell_far (p := ⟨gb730, 3, none⟩) (by first | (rw [add_block]; exact hn731_3) | (show (Addr.add _ _).block ≠ _; rw [add_block]; exact hn731_3) | exact hn731_3) (.int .i64 ((rd_TimplWindow l0_1 x24_2).f3))).trans hx731_0; clear hn731_0; clear hn731_1; clear hn731_2; clear hn731_3; replace p731 := eq_true p731; replace q731 := eq_true q731) | (go_at_call 141; (with_reducible refine (impl_Memory_hasWindow.calls _ _ l0_0 ((rd_TimplWindow l0_1 x24_2).f0) ((rd_TimplWindow l0_1 x24_2).f1) ((rd_TimplWindow l0_1 x24_2).f2) ((rd_TimplWindow l0_1 x24_2).f3) false _ ?side1 ?side2 A23.out).mono ?_); (case side1 => exact Kd.C_below HR0_0.out (by repeat (first | (with_reducible first | exact HB.out | apply below_alloc | apply pw_below_drewN | apply below_drew1 | refine below_set ?_ GE727.out | refine below_set ?_ GE730.out) | exact HB.out))); (case side2 => exact HC0_0.out); rintro e w35 ⟨rfl, hb⟩; have n0_ := Aside0.mk (blk_below (g := gb727) (o := .cells #[.slice A0_0 l0_0.length c0_0, .slice (some ad729) l0_1.length c0_1, .slice (some ad731) l0_2.length c0_2] 60 (0, 0)) (by (with_reducible repeat (first | refine blk_drewN ?_ _ | refine blk_drew ?_ | refine blk_alloc ?_ _)); refine blk_far ?_ NB727_730.out _; (with_reducible repeat (first | refine blk_drewN ?_ _ | refine blk_drew ?_ | refine blk_alloc ?_ _)); refine blk_far ?_ NB727_730.out _; (with_reducible repeat (first | refine blk_drewN ?_ _ | refine blk_drew ?_ | refine blk_alloc ?_ _)); refine blk_far ?_ NB727_730.out _; (with_reducible repeat (first | refine blk_drewN ?_ _ | refine blk_drew ?_ | refine blk_alloc ?_ _)); refine blk_far ?_ NB727_730.out _; (with_reducible repeat (first | refine blk_drewN ?_ _ | refine blk_drew ?_ | refine blk_alloc ?_ _)); exact BK727.out) hb); have n1_ := Aside0.mk (blk_below (g := gb730) (o := .cells #[.int .i64 ((rd_TimplWindow l0_1 x24_2).f0), .int .i64 ((rd_TimplWindow l0_1 x24_2).f1), .int .i64 ((rd_TimplWindow l0_1 x24_2).f2), .int .i64 ((rd_TimplWindow l0_1 x24_2).f3)] 48 (0, 0)) (by (with_reducible repeat (first | refine blk_drewN ?_ _ | refine blk_drew ?_ | refine blk_alloc ?_ _)); refine blk_put (cs := #[.int .i64 ((rd_TimplWindow l0_1 x24_2).f0), .int .i64 ((rd_TimplWindow l0_1 x24_2).f1), .int .i64 ((rd_TimplWindow l0_1 x24_2).f2), .int .i64 0]) ?_ 3 _ rfl; (with_reducible repeat (first | refine blk_drewN ?_ _ | refine blk_drew ?_ | refine blk_alloc ?_ _)); refine blk_put (cs := #[.int .i64 ((rd_TimplWindow l0_1 x24_2).f0), .int .i64 ((rd_TimplWindow l0_1 x24_2).f1), .int .i64 0, .int .i64 0]) ?_ 2 _ rfl; (with_reducible repeat (first | refine blk_drewN ?_ _ | refine blk_drew ?_ | refine blk_alloc ?_ _)); refine blk_put (cs := #[.int .i64 ((rd_TimplWindow l0_1 x24_2).f0), .int .i64 0, .int .i64 0, .int .i64 0]) ?_ 1 _ rfl; (with_reducible repeat (first | refine blk_drewN ?_ _ | refine blk_drew ?_ | refine blk_alloc ?_ _)); refine blk_put (cs := #[.int .i64 0, .int .i64 0, .int .i64 0, .int .i64 0]) ?_ 0 _ rfl; (with_reducible repeat (first | refine blk_drewN ?_ _ | refine blk_drew ?_ | refine blk_alloc ?_ _)); exact BK730.out) hb); have n2_ := Aside0.mk (below_step (by repeat (first | (with_reducible first | exact HB.out | apply below_alloc | apply pw_below_drewN | apply below_drew1 | refine below_set ?_ GE727.out | refine below_set ?_ GE730.out) | exact HB.out)) hb); clear BK727; clear BK730; clear HB; have BK727 := n0_; have BK730 := n1_; have HB := n2_; clear n0_ n1_ n2_; (try clear hb); (try clear hb2); (try clear hk); (try clear hi)))
                        go_ret
                        exact ⟨by first | rfl | (simp [errW_none, errW_some] <;> rfl) | (simp [*, errW_none, errW_some] <;> rfl), by repeat (first | (with_reducible first | exact HB.out | apply below_alloc | apply pw_below_drewN | apply below_drew1 | refine below_set ?_ GE727.out | refine below_set ?_ GE730.out) | exact HB.out)⟩
                    · replace c22 := Bool.eq_false_iff.mpr c22
                      subst c22
                      have H1 : (if (!(((rd_TimplWindow l0_1 x24_2).f0) == 0) || (!(((rd_TimplWindow l0_1 x24_2).f1) == 0) || (!(((rd_TimplWindow l0_1 x24_2).f2) == 0) || (!(((rd_TimplWindow l0_1 x24_2).f3) == 0))))) = true then (some false) else (impl_IsMachine.l0 k2 l0_1 (l0_1.length : Int) (wrap64 (x24_2 + 1)) l0_0 l0_1 l0_2)) = some r := by rw [if_neg (show ¬ (false = true) by decide)] at H; exact H
                      clear H
                      have H := H1
                      clear H1
                      by_cases c36 : (!(((rd_TimplWindow l0_1 x24_2).f0) == 0) || (!(((rd_TimplWindow l0_1 x24_2).f1) == 0) || (!(((rd_TimplWindow l0_1 x24_2).f2) == 0) || (!(((rd_TimplWindow l0_1 x24_2).f3) == 0))))) = true
                      · rw [if_pos c36] at H
                        have c36b0 : (!(((rd_TimplWindow l0_1 x24_2).f0) == 0) || (!(((rd_TimplWindow l0_1 x24_2).f1) == 0) || (!(((rd_TimplWindow l0_1 x24_2).f2) == 0) || (!(((rd_TimplWindow l0_1 x24_2).f3) == 0))))) = true := c36
                        clear c36
                        obtain rfl := Option.some.inj H
                        have p729 : 0 ≤ (x24_2 : Int) := of_decide_eq_true (by first | (with_reducible assumption) | assumption)
                        have q729 : x24_2 < (l0_1.length : Int) := of_decide_eq_true (by first | (with_reducible assumption) | assumption)
                        obtain ⟨ad729, e729, hx729_0, hx729_1, hx729_2, hx729_3⟩ := at_TimplWindow HR0_1.out x24_2 p729 q729
                        cases e729
                        replace hx729_0 := (HB.out.cell (World.block_lt_of_cell? w _ hx729_0)).trans hx729_0
                        replace hx729_1 := (HB.out.cell (World.block_lt_of_cell? w _ hx729_1)).trans hx729_1
                        replace hx729_2 := (HB.out.cell (World.block_lt_of_cell? w _ hx729_2)).trans hx729_2
                        replace hx729_3 := (HB.out.cell (World.block_lt_of_cell? w _ hx729_3)).trans hx729_3
                        replace p729 := eq_true p729
                        replace q729 := eq_true q729
                        go_wp2_with (first | ((with_reducible refine gate_dst (N := 4) rfl ?_); (try (refine gate_guard (by rfl) ?_; dsimp only)); refine box_event ?hg (N := 4) ?hd (cs := #[.int .i64 0, .int .i64 0, .int .i64 0, .int .i64 0]) (t := 48) ?hr ?_; (case hd => rfl); (case hg => rfl); (case hr => first | (go_simp; done) | (go_simp; rfl)); intro gb730 hg w37 hbox hb; have n0_ := Aside0.mk (blk_below (g := gb727) (o := .cells #[.slice A0_0 l0_0.length c0_0, .slice (some ad729) l0_1.length c0_1, .slice A0_2 l0_2.length c0_2] 60 (0, 0)) (by (with_reducible repeat (first | refine blk_drewN ?_ _ | refine blk_drew ?_ | refine blk_alloc ?_ _)); exact BK727.out) hb); have n1_ := Aside0.mk (below_step (by repeat (first | (with_reducible first | exact HB.out | apply below_alloc | apply pw_below_drewN | apply below_drew1 | refine below_set ?_ GE727.out) | exact HB.out)) hb); have n2_ := Aside0.mk (hbox); have n3_ := Aside0.mk ((by rw [hg]; exact (below_size (by repeat (first | (with_reducible first | exact HB.out | apply below_alloc | apply pw_below_drewN | apply below_drew1 | refine below_set ?_ GE727.out) | exact HB.out))) : w.heap.size ≤ gb730)); have n4_ := Aside0.mk ((by rw [hg]; exact (below_size (by repeat (first | (with_reducible first | exact HB.out | apply below_alloc | apply pw_below_drewN | apply below_drew1 | refine below_set ?_ GE727.out) | exact HB.out))) : w.heap.size ≤ gb730)); have n5_ := Aside0.mk ((by rw [hg]; exact Nat.ne_of_lt (blk_lt (g := gb727) (o := .cells #[.slice A0_0 l0_0.length c0_0, .slice (some ad729) l0_1.length c0_1, .slice A0_2 l0_2.length c0_2] 60 (0, 0)) (by (with_reducible repeat (first | refine blk_drewN ?_ _ | refine blk_drew ?_ | refine blk_alloc ?_ _)); exact BK727.out)) : gb727 ≠ gb730)); have n6_ := Aside0.mk ((by rw [hg]; exact Nat.ne_of_gt (blk_lt (g := gb727) (o := .cells #[.slice A0_0 l0_0.length c0_0, .slice (some ad729) l0_1.length c0_1, .slice A0_2 l0_2.length c0_2] 60 (0, 0)) (by (with_reducible repeat (first | refine blk_drewN ?_ _ | refine blk_drew ?_ | refine blk_alloc ?_ _)); exact BK727.out)) : gb730 ≠ gb727)); clear BK727; clear HB; have BK727 := n0_; have HB := n1_; have BK730 := n2_; have GW730 := n3_; have GE730 := n4_; have NB727_730 := n5_; have NB730_727 := n6_; clear n0_ n1_ n2_ n3_ n4_ n5_ n6_; clear hb hbox hg; have hnb38 := NB730_727.out; have hnc38 := NB727_730.out; have hcz39_0 : w37.cell? ⟨gb730, 0, none⟩ = some (.int .i64 0) := (blk_cell BK730.out 0).trans rfl; have hcz39_1 : w37.cell? ⟨gb730, 1, none⟩ = some (.int .i64 0) := (blk_cell BK730.out 1).trans rfl; have hcz39_2 : w37.cell? ⟨gb730, 2, none⟩ = some (.int .i64 0) := (blk_cell BK730.out 2).trans rfl; have hcz39_3 : w37.cell? ⟨gb730, 3, none⟩ = some (.int .i64 0) := (blk_cell BK730.out 3).trans rfl; have hfz39_0 := blk_frozen BK730.out 0; have hfz39_1 := blk_frozen BK730.out 1; have hfz39_2 := blk_frozen BK730.out 2; have hfz39_3 := blk_frozen BK730.out 3; have hcz40_0 : w37.cell? ⟨gb727, 0, none⟩ = some (.slice A0_0 l0_0.length c0_0) := (blk_cell BK727.out 0).trans rfl; have hcz40_1 : w37.cell? ⟨gb727, 1, none⟩ = some (.slice (some ad729) l0_1.length c0_1) := (blk_cell BK727.out 1).trans rfl; have hcz40_2 : w37.cell? ⟨gb727, 2, none⟩ = some (.slice A0_2 l0_2.length c0_2) := (blk_cell BK727.out 2).trans rfl; have hfz40_0 := blk_frozen BK727.out 0; have hfz40_1 := blk_frozen BK727.out 1; have hfz40_2 := blk_frozen BK727.out 2; have p731 : 0 ≤ (x24_2 : Int) := of_decide_eq_true (by first | (with_reducible assumption) | assumption); have q731 : x24_2 < (l0_2.length : Int) := of_decide_eq_true (by first | (with_reducible assumption) | assumption); obtain ⟨ad731, e731, hx731_0⟩ := Kd.at_bool HR0_2.out x24_2 p731 q731; (try rw [← Nbq21.out] at hx731_0); cases e731; have hn731_0 : ad731.block ≠ gb730 := Nat.ne_of_lt (Nat.lt_of_lt_of_le (by have := World.block_lt_of_cell? _ _ hx731_0; first | rwa [add_block] at this | exact this) GW730.out); have hn731_1 : ad731.block ≠ gb730 := Nat.ne_of_lt (Nat.lt_of_lt_of_le (by have := World.block_lt_of_cell? _ _ hx731_0; first | rwa [add_block] at this | exact this) GW730.out); have hn731_2 : ad731.block ≠ gb730 := Nat.ne_of_lt (Nat.lt_of_lt_of_le (by have := World.block_lt_of_cell? _ _ hx731_0; first | rwa [add_block] at this | exact this) GW730.out); have hn731_3 : ad731.block ≠ gb730 := Nat.ne_of_lt (Nat.lt_of_lt_of_le (by have := World.block_lt_of_cell? _ _ hx731_0; first | rwa [add_block] at this | exact this) GW730.out); replace hx731_0 := (HB.out.cell (World.block_lt_of_cell? w _ hx731_0)).trans hx731_0; replace hx731_0 := (cell_far (p := ⟨gb730, 0, none⟩) (by first | (rw [add_block]; exact hn731_0) | (show (Addr.add _ _).block ≠ _; rw [add_block]; exact hn731_0) | exact hn731_0) (.int .i64 ((rd_TimplWindow l0_1 x24_2).f0))).trans hx731_0; replace hx731_0 := (cell_far (p := ⟨gb730, 1, none⟩) (by first | (rw [add_block]; exact hn731_1) | (show (Addr.add _ _).block ≠ _; rw [add_block]; exact hn731_1) | exact hn731_1) (.int .i64 ((rd_TimplWindow l0_1 x24_2).f1))).trans hx731_0; replace hx731_0 := (cell_far (p := ⟨gb730, 2, none⟩) (by first | (rw [add_block]; exact hn731_2) | (show (Addr.add _ _).block ≠ _; rw [add_block]; exact hn731_2) | exact hn731_2) (.int .i64 ((rd_TimplWindow l0_1 x24_2).f2))).trans hx731_0; replace hx731_0 := (cell_far (p := ⟨gb730, 3, none⟩) (by first | (rw [add_block]; exact hn731_3) | (show (Addr.add _ _).block ≠ _; rw [add_block]; exact hn731_3) | exact hn731_3) (.int .i64 ((rd_TimplWindow l0_1 x24_2).f3))).trans hx731_0; clear hn731_0; clear hn731_1; clear hn731_2; clear hn731_3; replace p731 := eq_true p731; replace q731 := eq_true q731; have p734 : 0 ≤ (x24_2 : Int) := of_decide_eq_true (by first | (with_reducible assumption) | assumption); have q734 : x24_2 < (l0_2.length : Int) := of_decide_eq_true (by first | (with_reducible assumption) | assumption); obtain ⟨ad734, e734, hx734_0⟩ := Kd.at_bool HR0_2.out x24_2 p734 q734; (try rw [← Nbq21.out] at hx734_0); obtain rfl : ad731 = ad734 := (by injection e734); have hn734_0 : ad731.block ≠ gb730 := Nat.ne_of_lt (Nat.lt_of_lt_of_le (by have := World.block_lt_of_cell? _ _ hx734_0; first | rwa [add_block] at this | exact this) GW730.out); have hn734_1 : ad731.block ≠ gb730 := Nat.ne_of_lt (Nat.lt_of_lt_of_le (by have := World.block_lt_of_cell? _ _ hx734_0; first | rwa [add_block] at this | exact this) GW730.out); have hn734_2 : ad731.block ≠ gb730 := Nat.ne_of_lt (Nat.lt_of_lt_of_le (by have := World.block_lt_of_cell? _ _ hx734_0; first | rwa [add_block] at this | exact this) GW730.out); have hn734_3 : ad731.block ≠ gb730 := Nat.ne_of_lt (Nat.lt_of_lt_of_le (by have := World.block_lt_of_cell? _ _ hx734_0; first | rwa [add_block] at this | exact this) GW730.out); replace hx734_0 := (HB.out.cell (World.block_lt_of_cell? w _ hx734_0)).trans hx734_0; replace hx734_0 := (cell_far (p := ⟨gb730, 0, none⟩) (by first | (rw [add_block]; exact hn734_0) | (show (Addr.add _ _).block ≠ _; rw [add_block]; exact hn734_0) | exact hn734_0) (.int .i64 ((rd_TimplWindow l0_1 x24_2).f0))).trans hx734_0; replace hx734_0 := (cell_far (p := ⟨gb730, 1, none⟩) (by first | (rw [add_block]; exact hn734_1) | (show (Addr.add _ _).block ≠ _; rw [add_block]; exact hn734_1) | exact hn734_1) (.int .i64 ((rd_TimplWindow l0_1 x24_2).f1))).trans hx734_0; replace hx734_0 := (cell_far (p := ⟨gb730, 2, none⟩) (by first | (rw [add_block]; exact hn734_2) | (show (Addr.add _ _).block ≠ _; rw [add_block]; exact hn734_2) | exact hn734_2) (.int .i64 ((rd_TimplWindow l0_1 x24_2).f2))).trans hx734_0; replace hx734_0 := (cell_far (p := ⟨gb730, 3, none⟩) (by first | (rw [add_block]; exact hn734_3) | (show (Addr.add _ _).block ≠ _; rw [add_block]; exact hn734_3) | exact hn734_3) (.int .i64 ((rd_TimplWindow l0_1 x24_2).f3))).trans hx734_0; clear hn734_0; clear hn734_1; clear hn734_2; clear hn734_3; replace p734 := eq_true p734; replace q734 := eq_true q734))
                        go_ret
                        exact ⟨by first | rfl | (simp [errW_none, errW_some] <;> rfl) | (simp [*, errW_none, errW_some] <;> rfl), by repeat (first | (with_reducible first | exact HB.out | apply below_alloc | apply pw_below_drewN | apply below_drew1 | refine below_set ?_ GE727.out | refine below_set ?_ GE730.out) | exact HB.out)⟩
                      · rw [if_neg c36] at H
                        have c36b0 : (!(((rd_TimplWindow l0_1 x24_2).f0) == 0) || (!(((rd_TimplWindow l0_1 x24_2).f1) == 0) || (!(((rd_TimplWindow l0_1 x24_2).f2) == 0) || (!(((rd_TimplWindow l0_1 x24_2).f3) == 0))))) = false := by simpa using c36
                        clear c36
                        have H' := Aside0.mk H
                        clear H
                        have p729 : 0 ≤ (x24_2 : Int) := of_decide_eq_true (by first | (with_reducible assumption) | assumption)
                        have q729 : x24_2 < (l0_1.length : Int) := of_decide_eq_true (by first | (with_reducible assumption) | assumption)
                        obtain ⟨ad729, e729, hx729_0, hx729_1, hx729_2, hx729_3⟩ := at_TimplWindow HR0_1.out x24_2 p729 q729
                        cases e729
                        replace hx729_0 := (HB.out.cell (World.block_lt_of_cell? w _ hx729_0)).trans hx729_0
                        replace hx729_1 := (HB.out.cell (World.block_lt_of_cell? w _ hx729_1)).trans hx729_1
                        replace hx729_2 := (HB.out.cell (World.block_lt_of_cell? w _ hx729_2)).trans hx729_2
                        replace hx729_3 := (HB.out.cell (World.block_lt_of_cell? w _ hx729_3)).trans hx729_3
                        replace p729 := eq_true p729
                        replace q729 := eq_true q729
                        go_wp2_with (first | ((with_reducible refine gate_dst (N := 4) rfl ?_); (try (refine gate_guard (by rfl) ?_; dsimp only)); refine box_event ?hg (N := 4) ?hd (cs := #[.int .i64 0, .int .i64 0, .int .i64 0, .int .i64 0]) (t := 48) ?hr ?_; (case hd => rfl); (case hg => rfl); (case hr => first | (go_simp; done) | (go_simp; rfl)); intro gb730 hg w41 hbox hb; have n0_ := Aside0.mk (blk_below (g := gb727) (o := .cells #[.slice A0_0 l0_0.length c0_0, .slice (some ad729) l0_1.length c0_1, .slice A0_2 l0_2.length c0_2] 60 (0, 0)) (by (with_reducible repeat (first | refine blk_drewN ?_ _ | refine blk_drew ?_ | refine blk_alloc ?_ _)); exact BK727.out) hb); have n1_ := Aside0.mk (below_step (by repeat (first | (with_reducible first | exact HB.out | apply below_alloc | apply pw_below_drewN | apply below_drew1 | refine below_set ?_ GE727.out) | exact HB.out)) hb); have n2_ := Aside0.mk (hbox); have n3_ := Aside0.mk ((by rw [hg]; exact (below_size (by repeat (first | (with_reducible first | exact HB.out | apply below_alloc | apply pw_below_drewN | apply below_drew1 | refine below_set ?_ GE727.out) | exact HB.out))) : w.heap.size ≤ gb730)); have n4_ := Aside0.mk ((by rw [hg]; exact (below_size (by repeat (first | (with_reducible first | exact HB.out | apply below_alloc | apply pw_below_drewN | apply below_drew1 | refine below_set ?_ GE727.out) | exact HB.out))) : w.heap.size ≤ gb730)); have n5_ := Aside0.mk ((by rw [hg]; exact Nat.ne_of_lt (blk_lt (g := gb727) (o := .cells #[.slice A0_0 l0_0.length c0_0, .slice (some ad729) l0_1.length c0_1, .slice A0_2 l0_2.length c0_2] 60 (0, 0)) (by (with_reducible repeat (first | refine blk_drewN ?_ _ | refine blk_drew ?_ | refine blk_alloc ?_ _)); exact BK727.out)) : gb727 ≠ gb730)); have n6_ := Aside0.mk ((by rw [hg]; exact Nat.ne_of_gt (blk_lt (g := gb727) (o := .cells #[.slice A0_0 l0_0.length c0_0, .slice (some ad729) l0_1.length c0_1, .slice A0_2 l0_2.length c0_2] 60 (0, 0)) (by (with_reducible repeat (first | refine blk_drewN ?_ _ | refine blk_drew ?_ | refine blk_alloc ?_ _)); exact BK727.out)) : gb730 ≠ gb727)); clear BK727; clear HB; have BK727 := n0_; have HB := n1_; have BK730 := n2_; have GW730 := n3_; have GE730 := n4_; have NB727_730 := n5_; have NB730_727 := n6_; clear n0_ n1_ n2_ n3_ n4_ n5_ n6_; clear hb hbox hg; have hnb42 := NB730_727.out; have hnc42 := NB727_730.out; have hcz43_0 : w41.cell? ⟨gb730, 0, none⟩ = some (.int .i64 0) := (blk_cell BK730.out 0).trans rfl; have hcz43_1 : w41.cell? ⟨gb730, 1, none⟩ = some (.int .i64 0) := (blk_cell BK730.out 1).trans rfl; have hcz43_2 : w41.cell? ⟨gb730, 2, none⟩ = some (.int .i64 0) := (blk_cell BK730.out 2).trans rfl; have hcz43_3 : w41.cell? ⟨gb730, 3, none⟩ = some (.int .i64 0) := (blk_cell BK730.out 3).trans rfl; have hfz43_0 := blk_frozen BK730.out 0; have hfz43_1 := blk_frozen BK730.out 1; have hfz43_2 := blk_frozen BK730.out 2; have hfz43_3 := blk_frozen BK730.out 3; have hcz44_0 : w41.cell? ⟨gb727, 0, none⟩ = some (.slice A0_0 l0_0.length c0_0) := (blk_cell BK727.out 0).trans rfl; have hcz44_1 : w41.cell? ⟨gb727, 1, none⟩ = some (.slice (some ad729) l0_1.length c0_1) := (blk_cell BK727.out 1).trans rfl; have hcz44_2 : w41.cell? ⟨gb727, 2, none⟩ = some (.slice A0_2 l0_2.length c0_2) := (blk_cell BK727.out 2).trans rfl; have hfz44_0 := blk_frozen BK727.out 0; have hfz44_1 := blk_frozen BK727.out 1; have hfz44_2 := blk_frozen BK727.out 2; have p731 : 0 ≤ (x24_2 : Int) := of_decide_eq_true (by first | (with_reducible assumption) | assumption); have q731 : x24_2 < (l0_2.length : Int) := of_decide_eq_true (by first | (with_reducible assumption) | assumption); obtain ⟨ad731, e731, hx731_0⟩ := Kd.at_bool HR0_2.out x24_2 p731 q731; (try rw [← Nbq21.out] at hx731_0); cases e731; have hn731_0 : ad731.block ≠ gb730 := Nat.ne_of_lt (Nat.lt_of_lt_of_le (by have := World.block_lt_of_cell? _ _ hx731_0; first | rwa [add_block] at this | exact this) GW730.out); have hn731_1 : ad731.block ≠ gb730 := Nat.ne_of_lt (Nat.lt_of_lt_of_le (by have := World.block_lt_of_cell? _ _ hx731_0; first | rwa [add_block] at this | exact this) GW730.out); have hn731_2 : ad731.block ≠ gb730 := Nat.ne_of_lt (Nat.lt_of_lt_of_le (by have := World.block_lt_of_cell? _ _ hx731_0; first | rwa [add_block] at this | exact this) GW730.out); have hn731_3 : ad731.block ≠ gb730 := Nat.ne_of_lt (Nat.lt_of_lt_of_le (by have := World.block_lt_of_cell? _ _ hx731_0; first | rwa [add_block] at this | exact this) GW730.out); replace hx731_0 := (HB.out.cell (World.block_lt_of_cell? w _ hx731_0)).trans hx731_0; replace hx731_0 := (cell_far (p := ⟨gb730, 0, none⟩) (by first | (rw [add_block]; exact hn731_0) | (show (Addr.add _ _).block ≠ _; rw [add_block]; exact hn731_0) | exact hn731_0) (.int .i64 ((rd_TimplWindow l0_1 x24_2).f0))).trans hx731_0; replace hx731_0 := (cell_far (p := ⟨gb730, 1, none⟩) (by first | (rw [add_block]; exact hn731_1) | (show (Addr.add _ _).block ≠ _; rw [add_block]; exact hn731_1) | exact hn731_1) (.int .i64 ((rd_TimplWindow l0_1 x24_2).f1))).trans hx731_0; replace hx731_0 := (cell_far (p := ⟨gb730, 2, none⟩) (by first | (rw [add_block]; exact hn731_2) | (show (Addr.add _ _).block ≠ _; rw [add_block]; exact hn731_2) | exact hn731_2) (.int .i64 ((rd_TimplWindow l0_1 x24_2).f2))).trans hx731_0; replace hx731_0 := (cell_far (p := ⟨gb730, 3, none⟩) (by first | (rw [add_block]; exact hn731_3) | (show (Addr.add _ _).block ≠ _; rw [add_block]; exact hn731_3) | exact hn731_3) (.int .i64 ((rd_TimplWindow l0_1 x24_2).f3))).trans hx731_0; clear hn731_0; clear hn731_1; clear hn731_2; clear hn731_3; replace p731 := eq_true p731; replace q731 := eq_true q731; have p734 : 0 ≤ (x24_2 : Int) := of_decide_eq_true (by first | (with_reducible assumption) | assumption); have q734 : x24_2 < (l0_2.length : Int) := of_decide_eq_true (by first | (with_reducible assumption) | assumption); obtain ⟨ad734, e734, hx734_0⟩ := Kd.at_bool HR0_2.out x24_2 p734 q734; (try rw [← Nbq21.out] at hx734_0); obtain rfl : ad731 = ad734 := (by injection e734); have hn734_0 : ad731.block ≠ gb730 := Nat.ne_of_lt (Nat.lt_of_lt_of_le (by have := World.block_lt_of_cell? _ _ hx734_0; first | rwa [add_block] at this | exact this) GW730.out); have hn734_1 : ad731.block ≠ gb730 := Nat.ne_of_lt (Nat.lt_of_lt_of_le (by have := World.block_lt_of_cell? _ _ hx734_0; first | rwa [add_block] at this | exact this) GW730.out); have hn734_2 : ad731.block ≠ gb730 := Nat.ne_of_lt (Nat.lt_of_lt_of_le (by have := World.block_lt_of_cell? _ _ hx734_0; first | rwa [add_block] at this | exact this) GW730.out); have hn734_3 : ad731.block ≠ gb730 := Nat.ne_of_lt (Nat.lt_of_lt_of_le (by have := World.block_lt_of_cell? _ _ hx734_0; first | rwa [add_block] at this | exact this) GW730.out); replace hx734_0 := (HB.out.cell (World.block_lt_of_cell? w _ hx734_0)).trans hx734_0; replace hx734_0 := (cell_far (p := ⟨gb730, 0, none⟩) (by first | (rw [add_block]; exact hn734_0) | (show (Addr.add _ _).block ≠ _; rw [add_block]; exact hn734_0) | exact hn734_0) (.int .i64 ((rd_TimplWindow l0_1 x24_2).f0))).trans hx734_0; replace hx734_0 := (cell_far (p := ⟨gb730, 1, none⟩) (by first | (rw [add_block]; exact hn734_1) | (show (Addr.add _ _).block ≠ _; rw [add_block]; exact hn734_1) | exact hn734_1) (.int .i64 ((rd_TimplWindow l0_1 x24_2).f1))).trans hx734_0; replace hx734_0 := (cell_far (p := ⟨gb730, 2, none⟩) (by first | (rw [add_block]; exact hn734_2) | (show (Addr.add _ _).block ≠ _; rw [add_block]; exact hn734_2) | exact hn734_2) (.int .i64 ((rd_TimplWindow l0_1 x24_2).f2))).trans hx734_0; replace hx734_0 := (cell_far (p := ⟨gb730, 3, none⟩) (by first | (rw [add_block]; exact hn734_3) | (show (Addr.add _ _).block ≠ _; rw [add_block]; exact hn734_3) | exact hn734_3) (.int .i64 ((rd_TimplWindow l0_1 x24_2).f3))).trans hx734_0; clear hn734_0; clear hn734_1; clear hn734_2; clear hn734_3; replace p734 := eq_true p734; replace q734 := eq_true q734))
                        go_roundg k2
                        case measure => have := HJ1.out; have := HK2.out; omega
                        case rel => exact ⟨(wrap64 (x24_2 + 1)), (by first | rfl | (simp; done) | (simp [*]; done)), H', ⟨by have := HJ1.out; have := HK2.out; omega⟩, ⟨by (with_reducible repeat (first | refine blk_drewN ?_ _ | refine blk_drew ?_ | refine blk_alloc ?_ _)); refine blk_far ?_ NB727_730.out _; (with_reducible repeat (first | refine blk_drewN ?_ _ | refine blk_drew ?_ | refine blk_alloc ?_ _)); refine blk_far ?_ NB727_730.out _; (with_reducible repeat (first | refine blk_drewN ?_ _ | refine blk_drew ?_ | refine blk_alloc ?_ _)); refine blk_far ?_ NB727_730.out _; (with_reducible repeat (first | refine blk_drewN ?_ _ | refine blk_drew ?_ | refine blk_alloc ?_ _)); refine blk_far ?_ NB727_730.out _; (with_reducible repeat (first | refine blk_drewN ?_ _ | refine blk_drew ?_ | refine blk_alloc ?_ _)); exact BK727.out⟩, ⟨by repeat (first | (with_reducible first | exact HB.out | apply below_alloc | apply pw_below_drewN | apply below_drew1 | refine below_set ?_ GE727.out | refine below_set ?_ GE730.out) | exact HB.out)⟩⟩
                  · rw [if_neg c20] at H
                    exact absurd H (by simp)
                · rw [if_neg c19] at H
                  exact absurd H (by simp)
              · rw [if_neg c18] at H
                exact absurd H (by simp)
            · rw [if_neg c17] at H
              have c17b0 : decide (x24_2 < (l0_1.length : Int)) = false := decide_eq_false c17
              clear c17
              obtain rfl := Option.some.inj H
              go_wp2
              go_ret
              exact ⟨by first | rfl | (simp [errW_none, errW_some] <;> rfl) | (simp [*, errW_none, errW_some] <;> rfl), by repeat (first | (with_reducible first | exact HB.out | apply below_alloc | apply pw_below_drewN | apply below_drew1 | refine below_set ?_ GE727.out) | exact HB.out)⟩

end Go.Proofs.Ytoomjghabiojkaa.P


