-- Written by a program of this repo (wip/myprint.py), over the kit's print; functions that the print does not take stand in it by hand-proved contracts.
import Derived.Test.YteokilffbcbllaaVFnBestx0
import Derived.Test.YteokilffbcbllaaVFnBestx1
import Derived.Test.YteokilffbcbllaaVFnBestx8
namespace Go.Proofs.Yteokilffbcbllaa.VFnBest
open Go.RowKit Go.Proofs.YteokilffbcbllaaW.PrintWords Go.Proofs.YteokilffbcbllaaW.PrintLast Go.Proofs.YteokilffbcbllaaW.PrintMore
attribute [local go_sem] max2_int min2_int max_two min_two max_three min_three max_four min_four   -- for this text's walks alone
attribute [local go_sem high] str_leq str_gtr str_geq str_lss
set_option linter.unusedVariables false
set_option linter.unusedSimpArgs false

/-! ### spec_ReadPage: function 35 -/
def spec_ReadPage.l0 : Nat → Int → Int → List ByteArray → List (S83) → Option (ByteArray)
  | 0, _, _, _, _ => none
  | k + 1, x1, x5, x189000, x189001 => if x5 ≥ 0 then (if 0 ≤ x5 then (if x5 < (x189001.length : Int) then (if ((rd_T83 x189001 x5).f0) = x1 then (some ((rd_T83 x189001 x5).f1)) else (spec_ReadPage.l0 k x1 (wrap64 (x5 - 1)) x189000 x189001)) else (none)) else (none)) else (if 0 ≤ x1 then (if x1 < (x189000.length : Int) then (some (rdOf ByteArray.empty x189000 x1)) else (none)) else (none))
def spec_ReadPage.f (k : Nat) (l0_0 : List ByteArray) (l0_1 : List (S83)) (a1 : Int) : Option (ByteArray) := (spec_l01In.f a1 0 (wrap64 ((l0_0.length : Int) - 1))).bind fun t189 => (if t189 = true then (spec_ReadPage.l0 k a1 (wrap64 ((l0_1.length : Int) - 1)) l0_0 l0_1) else (some (⟨#[]⟩ : ByteArray)))
theorem spec_ReadPage.mono_l : ∀ k, (∀ y0 y1 y2 y3, LeO (spec_ReadPage.l0 k y0 y1 y2 y3) (spec_ReadPage.l0 (k + 1) y0 y1 y2 y3))
  | 0 => fun _ _ _ _ r h => by simp [spec_ReadPage.l0] at h
  | k + 1 => by
    have ih0 := spec_ReadPage.mono_l k
    · intro y0 y1 y2 y3
      unfold spec_ReadPage.l0
      exact qv
theorem spec_ReadPage.mono : ∀ a0 a1 a2 k, LeO (spec_ReadPage.f k a0 a1 a2) (spec_ReadPage.f (k + 1) a0 a1 a2) := by
  intro a0 a1 a2 k
  have ih0 := spec_ReadPage.mono_l k
  unfold spec_ReadPage.f
  exact qv
set_option maxHeartbeats 8000000 in
set_option maxRecDepth 100000 in
theorem spec_ReadPage.calls (k : Nat) (A0_0 : Option Addr) (c0_0 : Nat) (l0_0 : List ByteArray) (A0_1 : Option Addr) (c0_1 : Nat) (l0_1 : List (S83)) (a1 : Int) (r : ByteArray) (w : World) (hr0_0 : Kd.C Kd.string w A0_0 l0_0.length l0_0) (hc0_0 : l0_0.length ≤ c0_0) (hr0_1 : Kd.C k83 w A0_1 l0_1.length l0_1) (hc0_1 : l0_1.length ≤ c0_1) (h : spec_ReadPage.f k l0_0 l0_1 a1 = some r) :
    Calls Try.prog 35 #[.agg #[.slice A0_0 l0_0.length c0_0, .slice A0_1 l0_1.length c0_1], .int .i64 a1] w fun e w' => e = .returned (.string r) ∧ Below w.heap.size w w' := by
  have hu38 := Try.underlying38
  have HR0_0 := Aside0.mk hr0_0
  clear hr0_0 hc0_0
  have HR0_1 := Aside0.mk hr0_1
  clear hr0_1 hc0_1
  have HB := Aside0.mk (Below.refl w.heap.size w)
  unfold spec_ReadPage.f at h
  have H := h
  clear h
  replace H := qi H
  obtain ⟨t189, A3, H⟩ := H
  by_cases c4 : t189 = true
  case neg =>
    replace c4 := Bool.eq_false_iff.mpr c4
    subst c4
    rw [if_neg (qj)] at H
    obtain rfl := Option.some.inj H
    go_enter Try.func35, Try.ntmps35
    go_wp2_with (first | ((with_reducible refine gate_dst (N := 2) rfl ?_); refine qB 2 #[.slice A0_0 l0_0.length c0_0, .slice A0_1 l0_1.length c0_1] 38 ?_; intro gb188 hg w16 hbox hb; have BK188 := Aside0.mk (hbox); have GW188 := Aside0.mk ((zef : w.heap.size ≤ gb188)); have GE188 := GW188; replace HB := Aside0.mk (below_step za hb); clear hb hbox hg; obtain ⟨_, _, _, _⟩ := qk2 BK188.out) | ((with_reducible refine gate_callee (f := 45) rfl ?_); refine qG (some 11) Try.func45 #[.int .i64 a1, .int .i64 0, .int .i64 (wrap64 ((l0_0.length : Int) - 1))] ?_; (with_reducible refine (spec_l01In.calls a1 0 (wrap64 ((l0_0.length : Int) - 1)) false _ A3.out).mono ?_); rintro e w' ⟨rfl, ⟨nd, rfl⟩⟩; refine ⟨_, rfl, ?_⟩))
    go_ret
    exact ⟨zc, zb6⟩

  subst c4
  rw [if_pos rfl] at H
  have H' := Aside0.mk H
  clear H
  go_enter Try.func35, Try.ntmps35
  go_wp2_with (first | ((with_reducible refine gate_dst (N := 2) rfl ?_); refine qB 2 #[.slice A0_0 l0_0.length c0_0, .slice A0_1 l0_1.length c0_1] 38 ?_; intro gb188 hg w5 hbox hb; have BK188 := Aside0.mk (hbox); have GW188 := Aside0.mk ((zef : w.heap.size ≤ gb188)); have GE188 := GW188; replace HB := Aside0.mk (below_step za hb); clear hb hbox hg; obtain ⟨hcz6_0, hcz6_1, hfz6_0, hfz6_1⟩ := qk2 BK188.out) | ((with_reducible refine gate_callee (f := 45) rfl ?_); refine qG (some 11) Try.func45 #[.int .i64 a1, .int .i64 0, .int .i64 (wrap64 ((l0_0.length : Int) - 1))] ?_; (with_reducible refine (spec_l01In.calls a1 0 (wrap64 ((l0_0.length : Int) - 1)) true _ A3.out).mono ?_); rintro e w' ⟨rfl, ⟨nd, rfl⟩⟩; refine ⟨_, rfl, ?_⟩))
  go_loopg [5] k (fun kq v5 w' => ∃ (x5_1 : Int), v5 = .int .i64 x5_1 ∧ Aside0 (spec_ReadPage.l0 kq a1 x5_1 l0_0 l0_1 = some r) ∧ Aside0 (kq ≤ k) ∧ Aside0 (w'.heap[gb188]? = some (.cells #[(.slice A0_0 l0_0.length c0_0), (.slice A0_1 l0_1.length c0_1)] 38 (0, 0))) ∧ Aside0 (Below w.heap.size w w'))
  case atStart => exact ⟨(wrap64 ((l0_1.length : Int) - 1)), zd, H', ⟨Nat.le_refl _⟩, ⟨by (with_reducible repeat (first | refine blk_drewN ?_ _ | refine blk_drew ?_ | refine blk_alloc ?_ _)); exact BK188.out⟩, ⟨zb6⟩⟩
  case round =>
    clear H'
    (try clear c4); (try clear hcz6_0 hcz6_1 hfz6_0 hfz6_1)
    try clear BK188 HB
    obtain ⟨x5_1, rfl, HA, HK1, BK188, HB⟩ := hrel
    cases gk with
    | zero => exact absurd HA.out (by simp [spec_ReadPage.l0])
    | succ k1 =>
      have H := HA.out
      clear HA
      simp only [spec_ReadPage.l0] at H
      by_cases c7 : x5_1 ≥ 0
      case neg =>
        rw [if_neg c7] at H
        have c7b0 : decide (0 ≤ x5_1) = false := decide_eq_false c7
        clear c7
        by_cases c13 : 0 ≤ a1
        case neg => exact qn c13 H
        rw [if_pos c13] at H
        have c13b0 := decide_eq_true c13
        clear c13
        by_cases c14 : a1 < (l0_0.length : Int)
        case neg => exact qn c14 H
        rw [if_pos c14] at H
        have c14b0 := decide_eq_true c14
        clear c14
        obtain rfl := Option.some.inj H
        obtain ⟨_, _, _, _⟩ := qk2 BK188.out
        have p192 : 0 ≤ (a1 : Int) := of_decide_eq_true zb
        have q192 : a1 < (l0_0.length : Int) := of_decide_eq_true zb
        obtain ⟨ad192, e192, hx192_0⟩ := Kd.at_string HR0_0.out a1 p192 q192
        cases e192
        replace hx192_0 := qw HB hx192_0
        replace p192 := eq_true p192
        replace q192 := eq_true q192
        go_wp2
        go_ret
        exact ⟨zc, zb6⟩
      rw [if_pos c7] at H
      have c7b0 : decide (0 ≤ x5_1) = true := decide_eq_true c7
      clear c7
      by_cases c8 : 0 ≤ x5_1
      case neg => exact qn c8 H
      rw [if_pos c8] at H
      have c8b0 := decide_eq_true c8
      clear c8
      by_cases c9 : x5_1 < (l0_1.length : Int)
      case neg => exact qn c9 H
      rw [if_pos c9] at H
      have c9b0 := decide_eq_true c9
      clear c9
      by_cases c10 : ((rd_T83 l0_1 x5_1).f0) = a1
      case neg =>
        rw [if_neg c10] at H
        have c10b0 : (((rd_T83 l0_1 x5_1).f0) == a1) = false := beq_eq_false_iff_ne.mpr c10
        have c10b1 : (((rd_T83 l0_1 x5_1).f0) != a1) = true := bne_iff_ne.mpr c10
        have H' := Aside0.mk H
        clear H
        obtain ⟨_, _, _, _⟩ := qk2 BK188.out
        have p190 : 0 ≤ (x5_1 : Int) := of_decide_eq_true zb
        have q190 : x5_1 < (l0_1.length : Int) := of_decide_eq_true zb
        obtain ⟨ad190, e190, hx190_0, hx190_1⟩ := at_T83 HR0_1.out x5_1 p190 q190
        cases e190
        replace hx190_0 := qw HB hx190_0
        replace hx190_1 := qw HB hx190_1
        replace p190 := eq_true p190
        replace q190 := eq_true q190
        go_wp2
        go_roundg k1
        case measure => have := HK1.out; omega
        case rel => exact ⟨(wrap64 (x5_1 - 1)), zd, H', ⟨zd3⟩, ⟨by (with_reducible repeat (first | refine blk_drewN ?_ _ | refine blk_drew ?_ | refine blk_alloc ?_ _)); exact BK188.out⟩, ⟨zb6⟩⟩
      rw [if_pos c10] at H
      have c10b0 : (((rd_T83 l0_1 x5_1).f0) == a1) = true := beq_iff_eq.mpr c10
      have c10b1 : (((rd_T83 l0_1 x5_1).f0) != a1) = false := bne_eq_false_iff_eq.mpr c10
      clear c10
      obtain rfl := Option.some.inj H
      obtain ⟨_, _, _, _⟩ := qk2 BK188.out
      have p190 : 0 ≤ (x5_1 : Int) := of_decide_eq_true zb
      have q190 : x5_1 < (l0_1.length : Int) := of_decide_eq_true zb
      obtain ⟨ad190, e190, hx190_0, hx190_1⟩ := at_T83 HR0_1.out x5_1 p190 q190
      cases e190
      replace hx190_0 := qw HB hx190_0
      replace hx190_1 := qw HB hx190_1
      replace p190 := eq_true p190
      replace q190 := eq_true q190
      have p191 : 0 ≤ (x5_1 : Int) := of_decide_eq_true zb
      have q191 : x5_1 < (l0_1.length : Int) := of_decide_eq_true zb
      obtain ⟨ad191, e191, hx191_0, hx191_1⟩ := at_T83 HR0_1.out x5_1 p191 q191
      obtain rfl : ad190 = ad191 := (by injection e191)
      replace hx191_0 := qw HB hx191_0
      replace hx191_1 := qw HB hx191_1
      replace p191 := eq_true p191
      replace q191 := eq_true q191
      go_wp2
      go_ret
      exact ⟨zc, zb6⟩
/-! ### spec_BestMeta: function 12 -/
def spec_BestMeta.pick (a b : Int × Int × Int × List (S60) × Bool) : Int × Int × Int × List (S60) × Bool := if a.2.2.2.2 = true ∧ (b.2.2.2.2 = false ∨ a.1 ≥ b.1) then (a.1, a.2.1, a.2.2.1, a.2.2.2.1, true) else if b.2.2.2.2 = true then (b.1, b.2.1, b.2.2.1, b.2.2.2.1, true) else (0, 0, 0, [], false)
def spec_BestMeta.f (k : Nat) (l0_0 : List ByteArray) (l0_1 : List (S83)) : Option (Int × Int × Int × List (S60) × Bool) := (spec_ReadPage.f k l0_0 l0_1 0).bind fun t => ((spec_ReadMeta.f k t).bind fun a => ((spec_ReadPage.f k l0_0 l0_1 1).bind fun u => ((spec_ReadMeta.f k u).bind fun b => (some (spec_BestMeta.pick a b)))))
theorem spec_BestMeta.mono : ∀ a0 a1 k, LeO (spec_BestMeta.f k a0 a1) (spec_BestMeta.f (k + 1) a0 a1) := fun a0 a1 k => LeO.bind (spec_ReadPage.mono _ _ _ _) (fun _ => LeO.bind (spec_ReadMeta.mono _ _) (fun _ => LeO.bind (spec_ReadPage.mono _ _ _ _) (fun _ => LeO.bind (spec_ReadMeta.mono _ _) (fun _ => LeO.refl _))))
theorem spec_BestMeta.calls_world {P : Program} {f : FuncId} {args : Array Value} {W : World} {post : Ending → World → Prop} (h : ∀ W', W' = W → Calls P f args W' post) : Calls P f args W post := h W rfl
theorem spec_BestMeta.row {w6 W1 W W' : World} {b : Nat} {v : Value} {xs : List (S60)} (S : Nat → Prop) (h : Kd.S k60 60 w6 W1.heap.size (fun _ => True) v xs) (hb : Below w6.heap.size w6 W) (hk : Kept W W' S) (hS : ∀ k, W1.heap.size ≤ k → k < w6.heap.size → ¬ S k) (hl : b ≤ W1.heap.size) : Kd.S k60 60 W' b (fun _ => True) v xs :=
  Kd.S_mono (Kd.S_lower (Kd.S_step (Kd.S_bound h) (fun k hk_ hlt => (hk.2 k (Nat.lt_of_lt_of_le hlt hb.size) (hS k hk_.2.1 hlt)).trans (hb.block k hlt))) hl) (fun _ _ => trivial)
set_option maxHeartbeats 16000000 in
set_option maxRecDepth 100000 in
theorem spec_BestMeta.calls (k : Nat) (A0_0 : Option Addr) (c0_0 : Nat) (l0_0 : List ByteArray) (A0_1 : Option Addr) (c0_1 : Nat) (l0_1 : List (S83)) (r1 : Int) (r2 : Int) (r3 : Int) (r4 : List (S60)) (r5 : Bool) (w : World) (hr0_0 : Kd.C Kd.string w A0_0 l0_0.length l0_0) (hc0_0 : l0_0.length ≤ c0_0) (hr0_1 : Kd.C k83 w A0_1 l0_1.length l0_1) (hc0_1 : l0_1.length ≤ c0_1) (h : spec_BestMeta.f k l0_0 l0_1 = some (r1, r2, r3, r4, r5)) :
    Calls Try.prog 12 #[.agg #[.slice A0_0 l0_0.length c0_0, .slice A0_1 l0_1.length c0_1]] w fun e w' => ∃ v3_ : Value, e = .returned (.tuple #[.agg #[.int .i64 r1, .int .i64 r2, .int .i64 r3, v3_], .bool r5]) ∧ Kd.S k60 60 w' w.heap.size (fun _ => True) v3_ r4 ∧ Below w.heap.size w w' := by
  obtain ⟨t, e1, h⟩ := Option.bind_eq_some_iff.mp h
  obtain ⟨⟨x1, x2, x3, X4, x5⟩, e2, h⟩ := Option.bind_eq_some_iff.mp h
  obtain ⟨u, e3, h⟩ := Option.bind_eq_some_iff.mp h
  obtain ⟨⟨y1, y2, y3, Y4, y5⟩, e4, h⟩ := Option.bind_eq_some_iff.mp h
  have hp := Option.some.inj h
  unfold spec_BestMeta.pick at hp
  dsimp only at hp
  clear h
  have E1 := Aside0.mk e1
  have E2 := Aside0.mk e2
  have E3 := Aside0.mk e3
  have E4 := Aside0.mk e4
  have HR0 := Aside0.mk hr0_0
  have HR1 := Aside0.mk hr0_1
  have HC0 := Aside0.mk hc0_0
  have HC1 := Aside0.mk hc0_1
  have Bw := Aside0.mk (Below.refl w.heap.size w)
  clear e1 e2 e3 e4 hr0_0 hr0_1 hc0_0 hc0_1
  have hge : (decide (y1 ≤ x1) = true ∧ x1 ≥ y1) ∨ (decide (y1 ≤ x1) = false ∧ ¬ x1 ≥ y1) := by
    by_cases c : y1 ≤ x1
    case pos => exact .inl ⟨decide_eq_true c, c⟩
    exact .inr ⟨decide_eq_false c, c⟩
  have HP := Aside0.mk hp
  clear hp
  rcases hge with ⟨hd, hg⟩ | ⟨hd, hg⟩ <;> (have HGE := Aside0.mk hg; clear hg; cases x5 <;> cases y5)
  all_goals (
    go_enter Try.func12, Try.ntmps12
    go_wp2_with (first | ((with_reducible refine gate_dst (N := 1) rfl ?_); refine qB 1 #[.slice A0_0 l0_0.length c0_0, .slice A0_1 l0_1.length c0_1] 38 ?_; intro g0 hg w1 hbox hb; have nw_ := Aside0.mk (show Below w.heap.size w w1 from below_step zac hb); clear Bw; have Bw := nw_; clear nw_; have Kg0 := Aside0.mk hbox; clear hbox hg; clear hb; have Bw1 := Aside0.mk (Below.refl w1.heap.size w1); obtain ⟨hcg0_0, hcg0_1, hfg0_0, hfg0_1⟩ := qk2 Kg0.out; ) | ((with_reducible refine gate_dst (N := 2) rfl ?_); refine qB 2 #[.int .i64 0, .int .i64 0, .int .i64 0, .slice none 0 0] 24 ?_; intro g2 hg w2 hbox hb; have Gg2_w := Aside0.mk (show w.heap.size ≤ g2 from zei); have nw_ := Aside0.mk (show Below w.heap.size w w2 from below_step zac hb); have nw1_ := Aside0.mk (show Below w1.heap.size w1 w2 from below_step (by repeat (first | (with_reducible first | exact Bw1.out | apply pw_below_drewN | apply below_drew1) | exact Bw1.out)) hb); clear Bw; have Bw := nw_; clear nw_; clear Bw1; have Bw1 := nw1_; clear nw1_; have Kg2 := Aside0.mk hbox; clear hbox hg; (try clear hcg0_0 hfg0_0 hcg0_1 hfg0_1); have k_ := Aside0.mk (blk_below Kg0.out hb); clear Kg0; have Kg0 := k_; clear k_; clear hb; have Bw2 := Aside0.mk (Below.refl w2.heap.size w2); obtain ⟨hcg0_0, hcg0_1, hfg0_0, hfg0_1⟩ := qk2 Kg0.out; obtain ⟨hcg2_0, hcg2_1, hcg2_2, hcg2_3, hfg2_0, hfg2_1, hfg2_2, hfg2_3⟩ := qk4 Kg2.out; have K0 := Kg0; have K2 := Kg2; have L2 := Aside0.mk (blk_lt Kg2.out); have L0 := Aside0.mk (blk_lt Kg0.out)) | ((with_reducible refine gate_callee (f := 35) rfl ?_); refine qG (some 10) Try.func35 #[.agg #[.slice A0_0 l0_0.length c0_0, .slice A0_1 l0_1.length c0_1], .int .i64 0] ?_; refine spec_BestMeta.calls_world ?_; intro W1 hW; have nw_ := Aside0.mk (show Below w.heap.size w W1 from zeo); have nw2_ := Aside0.mk (show Below w2.heap.size w2 W1 from zep); clear Bw; have Bw := nw_; clear nw_; clear Bw2; have Bw2 := nw2_; clear nw2_; clear hW; have C0 := Kd.C_below HR0.out Bw.out; have C1 := Kd.C_below HR1.out Bw.out; (with_reducible refine (spec_ReadPage.calls k A0_0 c0_0 l0_0 A0_1 c0_1 l0_1 0 t W1 C0 HC0.out C1 HC1.out E1.out).mono ?_); rintro e w3 ⟨rfl, hb⟩; refine ⟨_, rfl, ?_⟩; clear C0 C1; have nw_ := Aside0.mk (show Below w.heap.size w w3 from below_step Bw.out hb); have nw2_ := Aside0.mk (show Below w2.heap.size w2 w3 from below_step Bw2.out hb); clear Bw; have Bw := nw_; clear nw_; clear Bw2; have Bw2 := nw2_; clear nw2_; (try clear hcg0_0 hfg0_0 hcg0_1 hfg0_1); (try clear hcg2_0 hfg2_0 hcg2_1 hfg2_1 hcg2_2 hfg2_2 hcg2_3 hfg2_3); clear Kg0 Kg2; have Kg0 := Aside0.mk (blk_below K0.out Bw2.out); have Kg2 := Aside0.mk (blk_below K2.out Bw2.out); obtain ⟨hcg0_0, hcg0_1, hfg0_0, hfg0_1⟩ := qk2 Kg0.out; obtain ⟨hcg2_0, hcg2_1, hcg2_2, hcg2_3, hfg2_0, hfg2_1, hfg2_2, hfg2_3⟩ := qk4 Kg2.out; clear hb) | ((with_reducible refine gate_callee (f := 6) rfl ?_); refine qG (some 11) Try.func6 #[.string t] ?_; refine spec_BestMeta.calls_world ?_; intro W2 hW; have nw_ := Aside0.mk (show Below w.heap.size w W2 from zeo); have nw2_ := Aside0.mk (show Below w2.heap.size w2 W2 from zep); clear Bw; have Bw := nw_; clear nw_; clear Bw2; have Bw2 := nw2_; clear nw2_; clear hW; have M2 := Aside0.mk (Nat.lt_of_lt_of_le L2.out Bw2.out.size); (with_reducible refine (spec_ReadMeta.calls k t x1 x2 x3 X4 _ W2 E2.out).mono ?_); rintro e w4 ⟨v4, rfl, ho, hb⟩; refine ⟨_, rfl, ?_⟩; obtain ⟨Ax, cx, ex⟩ := Kd.S_slice ho; subst ex; have HO1 := Aside0.mk ho; clear ho; have nw_ := Aside0.mk (show Below w.heap.size w w4 from below_step Bw.out hb); have nw2_ := Aside0.mk (show Below w2.heap.size w2 w4 from below_step Bw2.out hb); clear Bw; have Bw := nw_; clear nw_; clear Bw2; have Bw2 := nw2_; clear nw2_; have Bw4 := Aside0.mk (Below.refl w4.heap.size w4); (try clear hcg0_0 hfg0_0 hcg0_1 hfg0_1); (try clear hcg2_0 hfg2_0 hcg2_1 hfg2_1 hcg2_2 hfg2_2 hcg2_3 hfg2_3); clear Kg0 Kg2; have Kg0 := Aside0.mk (blk_below K0.out Bw2.out); have Kg2 := Aside0.mk (blk_below K2.out Bw2.out); obtain ⟨hcg0_0, hcg0_1, hfg0_0, hfg0_1⟩ := qk2 Kg0.out; obtain ⟨hcg2_0, hcg2_1, hcg2_2, hcg2_3, hfg2_0, hfg2_1, hfg2_2, hfg2_3⟩ := qk4 Kg2.out; clear hb) | ((with_reducible refine gate_dst (N := 4) rfl ?_); refine qB 4 #[.int .i64 0, .int .i64 0, .int .i64 0, .slice none 0 0] 24 ?_; intro ga hg w5 hbox hb; have Gga_w := Aside0.mk (show w.heap.size ≤ ga from zei); have Gga_w2 := Aside0.mk (show w2.heap.size ≤ ga from zel); have Gga_w4 := Aside0.mk (show w4.heap.size ≤ ga from zem); have nw_ := Aside0.mk (show Below w.heap.size w w5 from below_step zac hb); have nw2_ := Aside0.mk (show Below w2.heap.size w2 w5 from below_step zat hb); have nw4_ := Aside0.mk (show Below w4.heap.size w4 w5 from below_step zbo hb); clear Bw; have Bw := nw_; clear nw_; clear Bw2; have Bw2 := nw2_; clear nw2_; clear Bw4; have Bw4 := nw4_; clear nw4_; have Kga := Aside0.mk hbox; clear hbox hg; (try clear hcg0_0 hfg0_0 hcg0_1 hfg0_1); (try clear hcg2_0 hfg2_0 hcg2_1 hfg2_1 hcg2_2 hfg2_2 hcg2_3 hfg2_3); clear Kg0 Kg2; have Kg0 := Aside0.mk (blk_below K0.out Bw2.out); have Kg2 := Aside0.mk (blk_below K2.out Bw2.out); obtain ⟨hcg0_0, hcg0_1, hfg0_0, hfg0_1⟩ := qk2 Kg0.out; obtain ⟨hcg2_0, hcg2_1, hcg2_2, hcg2_3, hfg2_0, hfg2_1, hfg2_2, hfg2_3⟩ := qk4 Kg2.out; obtain ⟨hcga_0, hcga_1, hcga_2, hcga_3, hfga_0, hfga_1, hfga_2, hfga_3⟩ := qk4 Kga.out; have ng0ga : g0 ≠ ga := Nat.ne_of_lt (Nat.lt_of_lt_of_le L0.out Gga_w2.out); have ngag0 : ga ≠ g0 := fun e_ => ng0ga e_.symm; have ng2ga : g2 ≠ ga := Nat.ne_of_lt (Nat.lt_of_lt_of_le L2.out Gga_w2.out); have ngag2 : ga ≠ g2 := fun e_ => ng2ga e_.symm; clear hb) | ((with_reducible refine gate_callee (f := 35) rfl ?_); refine qG (some 16) Try.func35 #[.agg #[.slice A0_0 l0_0.length c0_0, .slice A0_1 l0_1.length c0_1], .int .i64 1] ?_; refine spec_BestMeta.calls_world ?_; intro W3 hW; have nw_ := Aside0.mk (show Below w.heap.size w W3 from (by rw [hW]; exact (by repeat (first | (with_reducible first | exact Bw.out | apply pw_below_drewN | apply below_drew1 | refine below_set ?_ Gga_w.out) | exact Bw.out)))); have nw2_ := Aside0.mk (show Below w2.heap.size w2 W3 from (by rw [hW]; exact (by repeat (first | (with_reducible first | exact Bw2.out | apply pw_below_drewN | apply below_drew1 | refine below_set ?_ Gga_w2.out) | exact Bw2.out)))); have nw4_ := Aside0.mk (show Below w4.heap.size w4 W3 from (by rw [hW]; exact (by repeat (first | (with_reducible first | exact Bw4.out | apply pw_below_drewN | apply below_drew1 | refine below_set ?_ Gga_w4.out) | exact Bw4.out)))); clear Bw; have Bw := nw_; clear nw_; clear Bw2; have Bw2 := nw2_; clear nw2_; clear Bw4; have Bw4 := nw4_; clear nw4_; have hka := (show W3.heap[ga]? = some (.cells #[.int .i64 x1, .int .i64 x2, .int .i64 x3, .slice Ax X4.length cx] 24 (0, 0)) from (by rw [hW]; exact (blk_set (blk_set (blk_set (blk_set Kga.out 0 (.int .i64 x1)) 1 (.int .i64 x2)) 2 (.int .i64 x3)) 3 (.slice Ax X4.length cx)).trans rfl)); clear Kga; have Kga := Aside0.mk hka; clear hka; clear hW; have C0 := Kd.C_below HR0.out Bw.out; have C1 := Kd.C_below HR1.out Bw.out; (with_reducible refine (spec_ReadPage.calls k A0_0 c0_0 l0_0 A0_1 c0_1 l0_1 1 u W3 C0 HC0.out C1 HC1.out E3.out).mono ?_); rintro e w6 ⟨rfl, hb⟩; refine ⟨_, rfl, ?_⟩; clear C0 C1; have nw_ := Aside0.mk (show Below w.heap.size w w6 from below_step Bw.out hb); have nw2_ := Aside0.mk (show Below w2.heap.size w2 w6 from below_step Bw2.out hb); have nw4_ := Aside0.mk (show Below w4.heap.size w4 w6 from below_step Bw4.out hb); clear Bw; have Bw := nw_; clear nw_; clear Bw2; have Bw2 := nw2_; clear nw2_; clear Bw4; have Bw4 := nw4_; clear nw4_; have k_ := Aside0.mk (blk_below Kga.out hb); clear Kga; have Kga := k_; clear k_; (try clear hcga_0 hfga_0 hcga_1 hfga_1 hcga_2 hfga_2 hcga_3 hfga_3); (try clear hcg0_0 hfg0_0 hcg0_1 hfg0_1); (try clear hcg2_0 hfg2_0 hcg2_1 hfg2_1 hcg2_2 hfg2_2 hcg2_3 hfg2_3); clear Kg0 Kg2; have Kg0 := Aside0.mk (blk_below K0.out Bw2.out); have Kg2 := Aside0.mk (blk_below K2.out Bw2.out); obtain ⟨hcg0_0, hcg0_1, hfg0_0, hfg0_1⟩ := qk2 Kg0.out; obtain ⟨hcg2_0, hcg2_1, hcg2_2, hcg2_3, hfg2_0, hfg2_1, hfg2_2, hfg2_3⟩ := qk4 Kg2.out; obtain ⟨hcga_0, hcga_1, hcga_2, hcga_3, hfga_0, hfga_1, hfga_2, hfga_3⟩ := qk4 Kga.out; clear hb) | ((with_reducible refine gate_callee (f := 6) rfl ?_); refine qG (some 17) Try.func6 #[.string u] ?_; refine spec_BestMeta.calls_world ?_; intro W4 hW; have nw_ := Aside0.mk (show Below w.heap.size w W4 from zeo); have nw2_ := Aside0.mk (show Below w2.heap.size w2 W4 from zep); have nw4_ := Aside0.mk (show Below w4.heap.size w4 W4 from (by rw [hW]; exact zbo)); clear Bw; have Bw := nw_; clear nw_; clear Bw2; have Bw2 := nw2_; clear nw2_; clear Bw4; have Bw4 := nw4_; clear nw4_; have hka := (show W4.heap[ga]? = some (.cells #[.int .i64 x1, .int .i64 x2, .int .i64 x3, .slice Ax X4.length cx] 24 (0, 0)) from (by rw [hW]; exact Kga.out)); clear Kga; have Kga := Aside0.mk hka; clear hka hW; have La := Aside0.mk (blk_lt Kga.out); have N2 := Aside0.mk Bw2.out.size; (with_reducible refine (spec_ReadMeta.calls k u y1 y2 y3 Y4 _ W4 E4.out).mono ?_); rintro e w7 ⟨v7, rfl, ho, hb⟩; refine ⟨_, rfl, ?_⟩; obtain ⟨Ay, cy, ey⟩ := Kd.S_slice ho; subst ey; have HO2 := Aside0.mk ho; clear ho; have M4 := Aside0.mk hb.size; have nw_ := Aside0.mk (show Below w.heap.size w w7 from below_step Bw.out hb); have nw2_ := Aside0.mk (show Below w2.heap.size w2 w7 from below_step Bw2.out hb); have nw4_ := Aside0.mk (show Below w4.heap.size w4 w7 from below_step Bw4.out hb); clear Bw; have Bw := nw_; clear nw_; clear Bw2; have Bw2 := nw2_; clear nw2_; clear Bw4; have Bw4 := nw4_; clear nw4_; have Bw7 := Aside0.mk (Below.refl w7.heap.size w7); have k_ := Aside0.mk (blk_below Kga.out hb); clear Kga; have Kga := k_; clear k_; (try clear hcga_0 hfga_0 hcga_1 hfga_1 hcga_2 hfga_2 hcga_3 hfga_3); (try clear hcg0_0 hfg0_0 hcg0_1 hfg0_1); (try clear hcg2_0 hfg2_0 hcg2_1 hfg2_1 hcg2_2 hfg2_2 hcg2_3 hfg2_3); clear Kg0 Kg2; have Kg0 := Aside0.mk (blk_below K0.out Bw2.out); have Kg2 := Aside0.mk (blk_below K2.out Bw2.out); obtain ⟨hcg0_0, hcg0_1, hfg0_0, hfg0_1⟩ := qk2 Kg0.out; obtain ⟨hcg2_0, hcg2_1, hcg2_2, hcg2_3, hfg2_0, hfg2_1, hfg2_2, hfg2_3⟩ := qk4 Kg2.out; obtain ⟨hcga_0, hcga_1, hcga_2, hcga_3, hfga_0, hfga_1, hfga_2, hfga_3⟩ := qk4 Kga.out; clear hb) | ((with_reducible refine gate_dst (N := 6) rfl ?_); refine qB 6 #[.int .i64 0, .int .i64 0, .int .i64 0, .slice none 0 0] 24 ?_; intro gb hg w8 hbox hb; have Ggb_w := Aside0.mk (show w.heap.size ≤ gb from zei); have Ggb_w2 := Aside0.mk (show w2.heap.size ≤ gb from zel); have Ggb_w4 := Aside0.mk (show w4.heap.size ≤ gb from zem); have Ggb_w7 := Aside0.mk (show w7.heap.size ≤ gb from (by rw [hg]; exact (below_size zdp))); have nw_ := Aside0.mk (show Below w.heap.size w w8 from below_step zac hb); have nw2_ := Aside0.mk (show Below w2.heap.size w2 w8 from below_step zat hb); have nw4_ := Aside0.mk (show Below w4.heap.size w4 w8 from below_step zbo hb); have nw7_ := Aside0.mk (show Below w7.heap.size w7 w8 from below_step zdp hb); clear Bw; have Bw := nw_; clear nw_; clear Bw2; have Bw2 := nw2_; clear nw2_; clear Bw4; have Bw4 := nw4_; clear nw4_; clear Bw7; have Bw7 := nw7_; clear nw7_; have Kgb := Aside0.mk hbox; clear hbox hg; have k_ := Aside0.mk (blk_below Kga.out hb); clear Kga; have Kga := k_; clear k_; (try clear hcga_0 hfga_0 hcga_1 hfga_1 hcga_2 hfga_2 hcga_3 hfga_3); (try clear hcg0_0 hfg0_0 hcg0_1 hfg0_1); (try clear hcg2_0 hfg2_0 hcg2_1 hfg2_1 hcg2_2 hfg2_2 hcg2_3 hfg2_3); clear Kg0 Kg2; have Kg0 := Aside0.mk (blk_below K0.out Bw2.out); have Kg2 := Aside0.mk (blk_below K2.out Bw2.out); obtain ⟨hcg0_0, hcg0_1, hfg0_0, hfg0_1⟩ := qk2 Kg0.out; obtain ⟨hcg2_0, hcg2_1, hcg2_2, hcg2_3, hfg2_0, hfg2_1, hfg2_2, hfg2_3⟩ := qk4 Kg2.out; obtain ⟨hcga_0, hcga_1, hcga_2, hcga_3, hfga_0, hfga_1, hfga_2, hfga_3⟩ := qk4 Kga.out; obtain ⟨_, _, _, _, _, _, _, _⟩ := qk4 Kgb.out; have ng0gb : g0 ≠ gb := Nat.ne_of_lt (Nat.lt_of_lt_of_le L0.out Ggb_w2.out); have ngbg0 : gb ≠ g0 := fun e_ => ng0gb e_.symm; have ng2gb : g2 ≠ gb := Nat.ne_of_lt (Nat.lt_of_lt_of_le L2.out Ggb_w2.out); have ngbg2 : gb ≠ g2 := fun e_ => ng2gb e_.symm; have ngagb : ga ≠ gb := Nat.ne_of_lt (Nat.lt_of_lt_of_le (Nat.lt_of_lt_of_le La.out M4.out) Ggb_w7.out); have ngbga : gb ≠ ga := fun e_ => ngagb e_.symm; clear hb))
    first
    | (have e_ : ((x1, x2, x3, X4, true) : Int × Int × Int × List (S60) × Bool) = (r1, r2, r3, r4, r5) := (if_pos (by first | exact ⟨trivial, .inl trivial⟩ | exact ⟨trivial, .inr HGE.out⟩)).symm.trans HP.out
       simp only [Prod.mk.injEq] at e_
       obtain ⟨rfl, rfl, rfl, rfl, rfl⟩ := e_
       refine bodyPost_ret (results_ct rfl _ _ g2 24 #[.int .i64 x1, .int .i64 x2, .int .i64 x3, .slice Ax X4.length cx] (0, 0) _ rfl (by refine blk_put (cs := #[.int .i64 x1, .int .i64 x2, .int .i64 x3, .slice none 0 0]) ?_ 3 _ rfl; refine blk_put (cs := #[.int .i64 x1, .int .i64 x2, .int .i64 0, .slice none 0 0]) ?_ 2 _ rfl; refine blk_put (cs := #[.int .i64 x1, .int .i64 0, .int .i64 0, .slice none 0 0]) ?_ 1 _ rfl; refine blk_put (cs := #[.int .i64 0, .int .i64 0, .int .i64 0, .slice none 0 0]) ?_ 0 _ rfl; refine blk_far ?_ ng2gb _; refine blk_far ?_ ng2gb _; refine blk_far ?_ ng2gb _; refine blk_far ?_ ng2gb _; exact Kg2.out) Try.underlying24 rfl za5) rfl ?_
       exact ⟨_, rfl, spec_BestMeta.row (fun k => k = g2 ∨ k = gb) HO1.out Bw4.out zcz (fun k h1 h2 h3 => h3.elim (fun e => by have := M2.out; omega) (fun e => by have := Ggb_w4.out; omega)) (by have := M2.out; have := Gg2_w.out; omega), zb2⟩)
    | (have e_ : ((y1, y2, y3, Y4, true) : Int × Int × Int × List (S60) × Bool) = (r1, r2, r3, r4, r5) := (if_pos trivial).symm.trans ((if_neg zc2).symm.trans HP.out)
       simp only [Prod.mk.injEq] at e_
       obtain ⟨rfl, rfl, rfl, rfl, rfl⟩ := e_
       refine bodyPost_ret (results_ct rfl _ _ g2 24 #[.int .i64 y1, .int .i64 y2, .int .i64 y3, .slice Ay Y4.length cy] (0, 0) _ rfl (by refine blk_put (cs := #[.int .i64 y1, .int .i64 y2, .int .i64 y3, .slice none 0 0]) ?_ 3 _ rfl; refine blk_put (cs := #[.int .i64 y1, .int .i64 y2, .int .i64 0, .slice none 0 0]) ?_ 2 _ rfl; refine blk_put (cs := #[.int .i64 y1, .int .i64 0, .int .i64 0, .slice none 0 0]) ?_ 1 _ rfl; refine blk_put (cs := #[.int .i64 0, .int .i64 0, .int .i64 0, .slice none 0 0]) ?_ 0 _ rfl; refine blk_far ?_ ng2gb _; refine blk_far ?_ ng2gb _; refine blk_far ?_ ng2gb _; refine blk_far ?_ ng2gb _; exact Kg2.out) Try.underlying24 rfl za5) rfl ?_
       exact ⟨_, rfl, spec_BestMeta.row (fun k => k = g2 ∨ k = gb) HO2.out Bw7.out zcz (fun k h1 h2 h3 => h3.elim (fun e => by have := L2.out; have := N2.out; omega) (fun e => by have := Ggb_w7.out; omega)) (by have := L2.out; have := N2.out; have := Gg2_w.out; omega), zb2⟩)
    | (have e_ : ((0, 0, 0, [], false) : Int × Int × Int × List (S60) × Bool) = (r1, r2, r3, r4, r5) := (if_neg (by intro h_; cases h_)).symm.trans ((if_neg zc2).symm.trans HP.out)
       simp only [Prod.mk.injEq] at e_
       obtain ⟨rfl, rfl, rfl, rfl, rfl⟩ := e_
       refine bodyPost_ret (results_ct rfl _ _ g2 24 #[.int .i64 0, .int .i64 0, .int .i64 0, .slice none 0 0] (0, 0) _ rfl (by refine blk_put (cs := #[.int .i64 0, .int .i64 0, .int .i64 0, .slice none 0 0]) ?_ 3 _ rfl; refine blk_put (cs := #[.int .i64 0, .int .i64 0, .int .i64 0, .slice none 0 0]) ?_ 2 _ rfl; refine blk_put (cs := #[.int .i64 0, .int .i64 0, .int .i64 0, .slice none 0 0]) ?_ 1 _ rfl; refine blk_put (cs := #[.int .i64 0, .int .i64 0, .int .i64 0, .slice none 0 0]) ?_ 0 _ rfl; refine blk_far ?_ ng2gb _; refine blk_far ?_ ng2gb _; refine blk_far ?_ ng2gb _; refine blk_far ?_ ng2gb _; exact Kg2.out) Try.underlying24 rfl za5) rfl ?_
       exact ⟨_, rfl, Kd.S_nil k60 60 _ _ _, zb2⟩))

/-! ### impl_in: function 58 -/
def impl_in.f (a0 : Int) (a1 : Int) (a2 : Int) : Option (Bool) := if a0 ≥ a1 then (some (decide (a0 ≤ a2))) else (some false)
set_option maxHeartbeats 8000000 in
set_option maxRecDepth 100000 in
theorem impl_in.calls (a0 : Int) (a1 : Int) (a2 : Int) (r : Bool) (w : World) (h : impl_in.f a0 a1 a2 = some r) :
    Calls Try.prog 58 #[.int .i64 a0, .int .i64 a1, .int .i64 a2] w fun e w' => e = .returned (.bool r) ∧ Drawn0 w w' := by
  have H : (if a0 ≥ a1 then (some (decide (a0 ≤ a2))) else (some false)) = some r := h
  clear h
  by_cases c4 : a0 ≥ a1
  case pos =>
    rw [if_pos c4] at H
    have c4b0 : decide (a1 ≤ a0) = true := decide_eq_true c4
    clear c4
    obtain rfl := Option.some.inj H
    go_enter Try.func58, Try.ntmps58
    go_wp2
    go_ret
    exact ⟨zd, z5⟩
  rw [if_neg c4] at H
  have c4b0 : decide (a1 ≤ a0) = false := decide_eq_false c4
  clear c4
  obtain rfl := Option.some.inj H
  go_enter Try.func58, Try.ntmps58
  go_wp2
  go_ret
  exact ⟨zd, z5⟩

/-! ### impl_SumMore: function 80 -/
mutual
def impl_SumMore.l0 : Nat → Int → ByteArray → Int → Int → Option (Int)
  | 0, _, _, _, _ => none
  | k + 1, x0, x1, x8, x9 => if x9 < x8 then (if 0 ≤ x9 then (if x9 < (x1.size : Int) then (impl_SumMore.l1 k (Go.bits .xor .u32 x0 ((bt x1 x9) % 4294967296)) x1 x8 x9 0) else (none)) else (none)) else (some x0)
def impl_SumMore.l1 : Nat → Int → ByteArray → Int → Int → Int → Option (Int)
  | 0, _, _, _, _, _ => none
  | k + 1, x0, x1, x8, x9, x18 => if x18 < 8 then (if (Go.bits .and .u32 x0 1) = 1 then (impl_SumMore.l1 k (Go.bits .xor .u32 (x0 / 2) 3558460437) x1 x8 x9 (wrap64 (x18 + 1))) else (impl_SumMore.l1 k (x0 / 2) x1 x8 x9 (wrap64 (x18 + 1)))) else (impl_SumMore.l0 k x0 x1 x8 (wrap64 (x9 + 1)))
end
def impl_SumMore.f (k : Nat) (a0 : Int) (a1 : ByteArray) : Option (Int) := impl_SumMore.l0 k a0 a1 (a1.size : Int) 0
theorem impl_SumMore.mono_l : ∀ k, (∀ y0 y1 y2 y3, LeO (impl_SumMore.l0 k y0 y1 y2 y3) (impl_SumMore.l0 (k + 1) y0 y1 y2 y3)) ∧ (∀ y0 y1 y2 y3 y4, LeO (impl_SumMore.l1 k y0 y1 y2 y3 y4) (impl_SumMore.l1 (k + 1) y0 y1 y2 y3 y4))
  | 0 => ⟨fun _ _ _ _ r h => by simp [impl_SumMore.l0] at h, fun _ _ _ _ _ r h => by simp [impl_SumMore.l1] at h⟩
  | k + 1 => by
    obtain ⟨ih0, ih1⟩ := impl_SumMore.mono_l k
    refine ⟨?_, ?_⟩
    · intro y0 y1 y2 y3
      unfold impl_SumMore.l0
      exact qv
    · intro y0 y1 y2 y3 y4
      unfold impl_SumMore.l1
      exact qv
theorem impl_SumMore.mono : ∀ a0 a1 k, LeO (impl_SumMore.f k a0 a1) (impl_SumMore.f (k + 1) a0 a1) := by
  intro a0 a1 k
  obtain ⟨ih0, ih1⟩ := impl_SumMore.mono_l k
  unfold impl_SumMore.f
  exact qv
set_option maxHeartbeats 8000000 in
set_option maxRecDepth 100000 in
theorem impl_SumMore.calls (k : Nat) (a0 : Int) (a1 : ByteArray) (r : Int) (w : World) (h : impl_SumMore.f k a0 a1 = some r) :
    Calls Try.prog 80 #[.int .u32 a0, .string a1] w fun e w' => e = .returned (.int .u32 r) ∧ Drawn0 w w' := by
  have H : (impl_SumMore.l0 k a0 a1 (a1.size : Int) 0) = some r := h
  clear h
  have H' := Aside0.mk H
  clear H
  go_enter Try.func80, Try.ntmps80
  go_wp2
  go_loopg [0, 9] k (fun kq v0 v9 w' => ∃ (x0_1 : Int) (x9_1 : Int), v0 = .int .u32 x0_1 ∧ v9 = .int .i64 x9_1 ∧ Aside0 (impl_SumMore.l0 kq x0_1 a1 (a1.size : Int) x9_1 = some r) ∧ Aside0 (kq ≤ k) ∧ Drawn0 w w')
  case atStart => exact ⟨(a0), (0), zd, zd, H', ⟨Nat.le_refl _⟩, z5⟩
  case round =>
    clear H'
    obtain ⟨x0_1, x9_1, rfl, rfl, HA, HK1, ⟨m1, rfl⟩⟩ := hrel
    cases gk with
    | zero => exact absurd HA.out (by simp [impl_SumMore.l0])
    | succ k1 =>
      have H := HA.out
      clear HA
      simp only [impl_SumMore.l0] at H
      by_cases c3 : x9_1 < (a1.size : Int)
      case neg =>
        rw [if_neg c3] at H
        have c3b0 := decide_eq_false c3
        clear c3
        obtain rfl := Option.some.inj H
        go_wp2
        go_ret
        exact ⟨zd, z5⟩

      rw [if_pos c3] at H
      have c3b0 := decide_eq_true c3
      clear c3
      by_cases c4 : 0 ≤ x9_1
      case neg => exact qn c4 H
      rw [if_pos c4] at H
      have c4b0 := decide_eq_true c4
      clear c4
      by_cases c5 : x9_1 < (a1.size : Int)
      case neg => exact qn c5 H
      rw [if_pos c5] at H
      have c5b0 := decide_eq_true c5
      clear c5
      have H' := Aside0.mk H
      clear H
      have p6 : 0 ≤ (x9_1 : Int) := of_decide_eq_true zb
      have q6 : x9_1 < (a1.size : Int) := of_decide_eq_true zb
      have hx6 := bt_at a1 x9_1
      replace p6 := eq_true p6
      replace q6 := eq_true q6
      go_wp2
      go_loopg [0, 18] k1 (fun kq v0 v18 w' => ∃ (x0_2 : Int) (x18_2 : Int), v0 = .int .u32 x0_2 ∧ v18 = .int .i64 x18_2 ∧ Aside0 (impl_SumMore.l1 kq x0_2 a1 (a1.size : Int) x9_1 x18_2 = some r) ∧ Aside0 (kq ≤ k1) ∧ Drawn0 w w')
      case atStart => exact ⟨(Go.bits .xor .u32 x0_1 ((bt a1 x9_1) % 4294967296)), (0), zd, zd, H', ⟨Nat.le_refl _⟩, z5⟩
      case round =>
        clear H'
        (try clear c3); (try clear c3b0); (try clear c4); (try clear c4b0); (try clear c5); (try clear c5b0); (try clear p6); (try clear q6); (try clear hx6); (try clear p6); (try clear q6)
        obtain ⟨x0_2, x18_2, rfl, rfl, HA, HK2, ⟨m2, rfl⟩⟩ := hrel
        cases gk with
        | zero => exact absurd HA.out (by simp [impl_SumMore.l1])
        | succ k2 =>
          have H := HA.out
          clear HA
          simp only [impl_SumMore.l1] at H
          by_cases c7 : x18_2 < 8
          case neg =>
            rw [if_neg c7] at H
            have c7b0 := decide_eq_false c7
            clear c7
            have H' := Aside0.mk H
            clear H
            go_wp2
            go_roundg k2
            case measure => have := HK1.out; have := HK2.out; omega
            case rel => exact ⟨(x0_2), (wrap64 (x9_1 + 1)), zd, zd, H', ⟨zcm⟩, z5⟩
          rw [if_pos c7] at H
          have c7b0 := decide_eq_true c7
          clear c7
          by_cases c8 : (Go.bits .and .u32 x0_2 1) = 1
          case neg =>
            rw [if_neg c8] at H
            have c8b0 : ((Go.bits .and .u32 x0_2 1) == 1) = false := beq_eq_false_iff_ne.mpr c8
            have c8b1 : ((Go.bits .and .u32 x0_2 1) != 1) = true := bne_iff_ne.mpr c8
            have H' := Aside0.mk H
            clear H
            go_wp2
            go_roundg k2
            case measure => have := HK1.out; have := HK2.out; omega
            case rel => exact ⟨(x0_2 / 2), (wrap64 (x18_2 + 1)), zd, zd, H', ⟨zcm⟩, z5⟩
          rw [if_pos c8] at H
          have c8b0 : ((Go.bits .and .u32 x0_2 1) == 1) = true := beq_iff_eq.mpr c8
          have c8b1 : ((Go.bits .and .u32 x0_2 1) != 1) = false := bne_eq_false_iff_eq.mpr c8
          clear c8
          have H' := Aside0.mk H
          clear H
          go_wp2
          go_roundg k2
          case measure => have := HK1.out; have := HK2.out; omega
          case rel => exact ⟨(Go.bits .xor .u32 (x0_2 / 2) 3558460437), (wrap64 (x18_2 + 1)), zd, zd, H', ⟨zcm⟩, z5⟩
/-! ### impl_SumOf: function 76 -/
def impl_SumOf.f (k : Nat) (a0 : ByteArray) : Option (Int) := (impl_SumMore.f k 4294967295 a0).bind fun t193 => (some t193)
theorem impl_SumOf.mono : ∀ a0 k, LeO (impl_SumOf.f k a0) (impl_SumOf.f (k + 1) a0) := by
  intro a0 k
  unfold impl_SumOf.f
  exact qv
set_option maxHeartbeats 8000000 in
set_option maxRecDepth 100000 in
theorem impl_SumOf.calls (k : Nat) (a0 : ByteArray) (r : Int) (w : World) (h : impl_SumOf.f k a0 = some r) :
    Calls Try.prog 76 #[.string a0] w fun e w' => e = .returned (.int .u32 r) ∧ Drawn0 w w' := by
  have H : ((impl_SumMore.f k 4294967295 a0).bind fun t193 => (some t193)) = some r := h
  clear h
  replace H := qi H
  obtain ⟨t193, A2, H⟩ := H
  obtain rfl := Option.some.inj H
  go_enter Try.func76, Try.ntmps76
  go_wp2_with (first | ((with_reducible refine gate_callee (f := 80) rfl ?_); refine qG (some 4) Try.func80 #[.int .u32 4294967295, .string a0] ?_; (with_reducible refine (impl_SumMore.calls k 4294967295 a0 t193 _ A2.out).mono ?_); rintro e w' ⟨rfl, ⟨nd, rfl⟩⟩; refine ⟨_, rfl, ?_⟩))
  go_ret
  exact ⟨zd, z5⟩

/-! ### impl_seal: function 59 -/
def impl_seal.f (k : Nat) (a0 : ByteArray) : Option (ByteArray) := (impl_SumOf.f k a0).bind fun t194 => (some (strOfNums (([(t194 / 16777216) % 256, (t194 / 65536) % 256, (t194 / 256) % 256, (t194) % 256] : List Int))))
theorem impl_seal.mono : ∀ a0 k, LeO (impl_seal.f k a0) (impl_seal.f (k + 1) a0) := by
  intro a0 k
  unfold impl_seal.f
  exact qv
set_option maxHeartbeats 8000000 in
set_option maxRecDepth 100000 in
theorem impl_seal.calls (k : Nat) (a0 : ByteArray) (r : ByteArray) (w : World) (h : impl_seal.f k a0 = some r) :
    Calls Try.prog 59 #[.string a0] w fun e w' => e = .returned (.string r) ∧ Below w.heap.size w w' := by
  have HB := Aside0.mk (Below.refl w.heap.size w)
  unfold impl_seal.f at h
  have H := h
  clear h
  replace H := qi H
  obtain ⟨t194, A2, H⟩ := H
  obtain ⟨y195, hy195⟩ : ∃ y_ : List Int, y_ = (([(t194 / 16777216) % 256, (t194 / 65536) % 256, (t194 / 256) % 256, (t194) % 256] : List Int)) := ⟨_, rfl⟩
  replace H : (some (strOfNums y195)) = some r := by first | (rw [hy195]; with_reducible exact H) | (have H2_ := (Option.bind_some _ _).symm.trans H; rw [hy195]; with_reducible exact H2_) | (have H2_ := (Option.bind_some _ _).symm.trans H; with_reducible exact H2_) | with_reducible exact H | (rw [hy195]; exact H) | exact H
  have Ny195 := Aside0.mk hy195
  clear hy195
  obtain rfl := Option.some.inj H
  go_enter Try.func59, Try.ntmps59
  go_wp2_with (first | ((with_reducible refine gate_callee (f := 76) rfl ?_); refine qG (some 5) Try.func76 #[.string a0] ?_; (with_reducible refine (impl_SumOf.calls k a0 t194 _ A2.out).mono ?_); rintro e w' ⟨rfl, ⟨nd, rfl⟩⟩; refine ⟨_, rfl, ?_⟩) | ((with_reducible refine gate_dst (N := 17) rfl ?_); refine Kd.R_lit (Kd.int .u8) _ 5 ?hg (N := 17) ?hd (xs := ([(t194 / 16777216) % 256, (t194 / 65536) % 256, (t194 / 256) % 256, (t194) % 256] : List Int)) (inner := [.int .u8 ((t194 / 16777216) % 256), .int .u8 ((t194 / 65536) % 256), .int .u8 ((t194 / 256) % 256), .int .u8 ((t194) % 256)]) (ok := fun _ => True) (okp := fun _ => True) ?hr ?hp (fun _ hk => hk) trivial (Below.refl _ _) (Nat.le_refl _) zdw ?_; (case hd => rfl); (case hg => rfl); (case hr => first | (go_simp; done) | (go_simp; rfl)); (case hp => exact (Reps.one (show Kd.M (Kd.int .u8) _ _ _ ((t194 / 16777216) % 256) [.int .u8 ((t194 / 16777216) % 256)] from rfl) (Reps.one (show Kd.M (Kd.int .u8) _ _ _ ((t194 / 65536) % 256) [.int .u8 ((t194 / 65536) % 256)] from rfl) (Reps.one (show Kd.M (Kd.int .u8) _ _ _ ((t194 / 256) % 256) [.int .u8 ((t194 / 256) % 256)] from rfl) (Reps.one (show Kd.M (Kd.int .u8) _ _ _ ((t194) % 256) [.int .u8 ((t194) % 256)] from rfl) (Reps.none _ _)))))); intro v196 w3 ho4 hb hg_ hnew_; clear hg_ hnew_; (first | rw [← Ny195.out] at ho4 | (simp only [Int.reduceToNat] at ho4; rw [← Ny195.out] at ho4)); have HO197 := Aside0.mk (Kd.R_lower ho4 (below_size za)); replace HB := Aside0.mk (below_step za hb); clear hb ho4; have hcv5 := own_string (P := Try.prog) Try.underlying43 Try.underlying5 Try.underlying9 (Kd.own_of_R HO197.out)))
  go_ret
  exact ⟨zc, za⟩

end Go.Proofs.Yteokilffbcbllaa.VFnBest
