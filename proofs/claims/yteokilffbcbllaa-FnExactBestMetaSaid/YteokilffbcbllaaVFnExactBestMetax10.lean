-- Written by a program of this repo (wip/myprint.py), over the kit's print; functions that the print does not take stand in it by hand-proved contracts.
import Derived.Test.YteokilffbcbllaaVFnExactBestMetax0
import Derived.Test.YteokilffbcbllaaVFnExactBestMetax2
import Derived.Test.YteokilffbcbllaaVFnExactBestMetax9
namespace Go.Proofs.Yteokilffbcbllaa.VFnExactBestMeta
open Go.RowKit Go.Proofs.YteokilffbcbllaaW.PrintWords Go.Proofs.YteokilffbcbllaaW.PrintLast Go.Proofs.YteokilffbcbllaaW.PrintMore
attribute [local go_sem] max2_int min2_int max_two min_two max_three min_three max_four min_four   -- for this text's walks alone
attribute [local go_sem high] str_leq str_gtr str_geq str_lss
set_option linter.unusedVariables false
set_option linter.unusedSimpArgs false

/-! ### spec_ReadPage: function 35 -/
def spec_ReadPage.l0 : Nat → Int → Int → List ByteArray → List (S83) → Option (ByteArray)
  | 0, _, _, _, _ => none
  | k + 1, x1, x5, x214000, x214001 => if x5 ≥ 0 then (if 0 ≤ x5 then (if x5 < (x214001.length : Int) then (if ((rd_T83 x214001 x5).f0) = x1 then (some ((rd_T83 x214001 x5).f1)) else (spec_ReadPage.l0 k x1 (wrap64 (x5 - 1)) x214000 x214001)) else (none)) else (none)) else (if 0 ≤ x1 then (if x1 < (x214000.length : Int) then (some (rdOf ByteArray.empty x214000 x1)) else (none)) else (none))
def spec_ReadPage.f (k : Nat) (l0_0 : List ByteArray) (l0_1 : List (S83)) (a1 : Int) : Option (ByteArray) := (spec_l01In.f a1 0 (wrap64 ((l0_0.length : Int) - 1))).bind fun t214 => (if t214 = true then (spec_ReadPage.l0 k a1 (wrap64 ((l0_1.length : Int) - 1)) l0_0 l0_1) else (some (⟨#[]⟩ : ByteArray)))
theorem spec_ReadPage.mono_l : ∀ k, (∀ y0 y1 y2 y3, LeO (spec_ReadPage.l0 k y0 y1 y2 y3) (spec_ReadPage.l0 (k + 1) y0 y1 y2 y3))
  | 0 => fun _ _ _ _ r h => by simp [spec_ReadPage.l0] at h
  | k + 1 => by
    have ih0 := spec_ReadPage.mono_l k
    · intro y0 y1 y2 y3
      unfold spec_ReadPage.l0
      repeat' first
      | (with_reducible exact ih0 _ _ _ _)
      | (with_reducible exact LeO.refl _)
      | (with_reducible exact LeO.none _)
      | (with_reducible refine LeO.ite ?_ ?_)
      | (with_reducible refine LeO.bind ?_ (fun _ => ?_))
      | exact ih0 _ _ _ _
      | exact LeO.none _
      | refine LeO.ite ?_ ?_
      | refine LeO.bind ?_ (fun _ => ?_)
theorem spec_ReadPage.mono : ∀ a0 a1 a2 k, LeO (spec_ReadPage.f k a0 a1 a2) (spec_ReadPage.f (k + 1) a0 a1 a2) := by
  intro a0 a1 a2 k
  have ih0 := spec_ReadPage.mono_l k
  unfold spec_ReadPage.f
  repeat' first
      | (with_reducible exact ih0 _ _ _ _)
      | (with_reducible exact LeO.refl _)
      | (with_reducible exact LeO.none _)
      | (with_reducible refine LeO.ite ?_ ?_)
      | (with_reducible refine LeO.bind ?_ (fun _ => ?_))
      | exact ih0 _ _ _ _
      | exact LeO.none _
      | refine LeO.ite ?_ ?_
      | refine LeO.bind ?_ (fun _ => ?_)
set_option maxHeartbeats 8000000 in
set_option maxRecDepth 100000 in
theorem spec_ReadPage.calls (k : Nat) (A0_0 : Option Addr) (c0_0 : Nat) (l0_0 : List ByteArray) (A0_1 : Option Addr) (c0_1 : Nat) (l0_1 : List (S83)) (a1 : Int) (r : ByteArray) (w : World) (hr0_0 : Kd.C Kd.string w A0_0 l0_0.length l0_0) (hc0_0 : l0_0.length ≤ c0_0) (hr0_1 : Kd.C k83 w A0_1 l0_1.length l0_1) (hc0_1 : l0_1.length ≤ c0_1) (h : spec_ReadPage.f k l0_0 l0_1 a1 = some r) :
    Calls Try.prog 35 #[.agg #[.slice A0_0 l0_0.length c0_0, .slice A0_1 l0_1.length c0_1], .int .i64 a1] w fun e w' => e = .returned (.string r) ∧ Below w.heap.size w w' := by
  have hu38 := Try.underlying38
  have HR0_0 := qo hr0_0
  have HC0_0 := qo hc0_0
  clear hr0_0 hc0_0
  have HR0_1 := qo hr0_1
  have HC0_1 := qo hc0_1
  clear hr0_1 hc0_1
  have HB := qo (Below.refl w.heap.size w)
  have H : ((spec_l01In.f a1 0 (wrap64 ((l0_0.length : Int) - 1))).bind fun t214 => (if t214 = true then (spec_ReadPage.l0 k a1 (wrap64 ((l0_1.length : Int) - 1)) l0_0 l0_1) else (some (⟨#[]⟩ : ByteArray)))) = some r := h
  clear h
  replace H := Option.bind_eq_some_iff.mp H
  obtain ⟨t214, A30, H⟩ := H
  replace H : (if t214 = true then (spec_ReadPage.l0 k a1 (wrap64 ((l0_1.length : Int) - 1)) l0_0 l0_1) else (some (⟨#[]⟩ : ByteArray))) = some r := H
  have A3 := qo A30
  clear A30
  by_cases c4 : t214 = true
  · subst c4
    have H1 : (spec_ReadPage.l0 k a1 (wrap64 ((l0_1.length : Int) - 1)) l0_0 l0_1) = some r := by rw [if_pos rfl] at H; exact H
    clear H
    have H := H1
    clear H1
    have H' := qo H
    clear H
    go_enter Try.func35, Try.ntmps35
    go_wp2_with (first | ((with_reducible refine gate_dst (N := 2) rfl ?_); refine box_event ?hg (N := 2) ?hd (cs := #[.slice A0_0 l0_0.length c0_0, .slice A0_1 l0_1.length c0_1]) (t := 38) ?hr ?_; (case hd => rfl); (case hg => rfl); (case hr => first | (go_simp; done) | (go_simp; rfl)); intro gb213 hg w5 hbox hb; have n0_ := qo (qq za hb); have n1_ := qo (hbox); have n2_ := qo ((zcn : w.heap.size ≤ gb213)); have n3_ := qo ((zcn : w.heap.size ≤ gb213)); clear HB; have HB := n0_; have BK213 := n1_; have GW213 := n2_; have GE213 := n3_; clear n0_ n1_ n2_ n3_; clear hb hbox hg; have hcz6_0 : w5.cell? ⟨gb213, 0, none⟩ = some (.slice A0_0 l0_0.length c0_0) := (qs BK213.out 0).trans rfl; have hcz6_1 : w5.cell? ⟨gb213, 1, none⟩ = some (.slice A0_1 l0_1.length c0_1) := (qs BK213.out 1).trans rfl; have hfz6_0 := qu BK213.out 0; have hfz6_1 := qu BK213.out 1) | ((with_reducible refine gate_callee (f := 45) rfl ?_); refine goesL_ (some 11) rfl rfl Try.func45 ze rfl #[.int .i64 a1, .int .i64 0, .int .i64 (wrap64 ((l0_0.length : Int) - 1))] rfl zcm ?_; (with_reducible refine (spec_l01In.calls a1 0 (wrap64 ((l0_0.length : Int) - 1)) true _ A3.out).mono ?_); rintro e w' ⟨rfl, ⟨nd, rfl⟩⟩; refine ⟨_, rfl, ?_⟩))
    go_loopg [5] k (fun kq v5 w' => ∃ (x5_1 : Int), v5 = .int .i64 x5_1 ∧ Aside0 (spec_ReadPage.l0 kq a1 x5_1 l0_0 l0_1 = some r) ∧ Aside0 (kq ≤ k) ∧ Aside0 (w'.heap[gb213]? = some (.cells #[(.slice A0_0 l0_0.length c0_0), (.slice A0_1 l0_1.length c0_1)] 38 (0, 0))) ∧ Aside0 (Below w.heap.size w w'))
    case atStart => exact ⟨(wrap64 ((l0_1.length : Int) - 1)), zc, H', ⟨Nat.le_refl _⟩, ⟨by (with_reducible repeat (first | refine qi ?_ _ | refine qj ?_ | refine qk ?_ _)); exact BK213.out⟩, ⟨za2⟩⟩
    case round =>
      clear H'
      (try clear p2); (try clear c3); (try clear c4); (try clear p6); (try clear hcz6_0); (try clear hcz6_1); (try clear hfz6_0); (try clear hfz6_1)
      obtain ⟨x5_1, rfl, HA, HK1, BK213, HB⟩ := hrel
      cases gk with
      | zero => exact absurd HA.out (by simp [spec_ReadPage.l0])
      | succ k1 =>
        have H := HA.out
        clear HA
        simp only [spec_ReadPage.l0] at H
        by_cases c7 : x5_1 ≥ 0
        · rw [if_pos c7] at H
          have c7b0 : decide (0 ≤ x5_1) = true := decide_eq_true c7
          clear c7
          by_cases c8 : 0 ≤ x5_1
          · rw [if_pos c8] at H
            have c8b0 : decide (0 ≤ x5_1) = true := decide_eq_true c8
            clear c8
            by_cases c9 : x5_1 < (l0_1.length : Int)
            · rw [if_pos c9] at H
              have c9b0 : decide (x5_1 < (l0_1.length : Int)) = true := decide_eq_true c9
              clear c9
              by_cases c10 : ((rd_T83 l0_1 x5_1).f0) = a1
              · rw [if_pos c10] at H
                have c10b0 : (((rd_T83 l0_1 x5_1).f0) == a1) = true := beq_iff_eq.mpr c10
                have c10b1 : (((rd_T83 l0_1 x5_1).f0) != a1) = false := bne_eq_false_iff_eq.mpr c10
                clear c10
                obtain rfl := Option.some.inj H
                have hcz11_0 : wr.cell? ⟨gb213, 0, none⟩ = some (.slice A0_0 l0_0.length c0_0) := (qs BK213.out 0).trans rfl
                have hcz11_1 : wr.cell? ⟨gb213, 1, none⟩ = some (.slice A0_1 l0_1.length c0_1) := (qs BK213.out 1).trans rfl
                have hfz11_0 := qu BK213.out 0
                have hfz11_1 := qu BK213.out 1
                have p215 : 0 ≤ (x5_1 : Int) := of_decide_eq_true zb
                have q215 : x5_1 < (l0_1.length : Int) := of_decide_eq_true zb
                obtain ⟨ad215, e215, hx215_0, hx215_1⟩ := at_T83 HR0_1.out x5_1 p215 q215
                cases e215
                replace hx215_0 := (HB.out.cell (World.block_lt_of_cell? w _ hx215_0)).trans hx215_0
                replace hx215_1 := (HB.out.cell (World.block_lt_of_cell? w _ hx215_1)).trans hx215_1
                replace p215 := eq_true p215
                replace q215 := eq_true q215
                have p216 : 0 ≤ (x5_1 : Int) := of_decide_eq_true zb
                have q216 : x5_1 < (l0_1.length : Int) := of_decide_eq_true zb
                obtain ⟨ad216, e216, hx216_0, hx216_1⟩ := at_T83 HR0_1.out x5_1 p216 q216
                obtain rfl : ad215 = ad216 := (by injection e216)
                replace hx216_0 := (HB.out.cell (World.block_lt_of_cell? w _ hx216_0)).trans hx216_0
                replace hx216_1 := (HB.out.cell (World.block_lt_of_cell? w _ hx216_1)).trans hx216_1
                replace p216 := eq_true p216
                replace q216 := eq_true q216
                go_wp2
                go_ret
                exact ⟨zd, za2⟩
              · rw [if_neg c10] at H
                have c10b0 : (((rd_T83 l0_1 x5_1).f0) == a1) = false := beq_eq_false_iff_ne.mpr c10
                have c10b1 : (((rd_T83 l0_1 x5_1).f0) != a1) = true := bne_iff_ne.mpr c10
                have H' := qo H
                clear H
                have hcz12_0 : wr.cell? ⟨gb213, 0, none⟩ = some (.slice A0_0 l0_0.length c0_0) := (qs BK213.out 0).trans rfl
                have hcz12_1 : wr.cell? ⟨gb213, 1, none⟩ = some (.slice A0_1 l0_1.length c0_1) := (qs BK213.out 1).trans rfl
                have hfz12_0 := qu BK213.out 0
                have hfz12_1 := qu BK213.out 1
                have p215 : 0 ≤ (x5_1 : Int) := of_decide_eq_true zb
                have q215 : x5_1 < (l0_1.length : Int) := of_decide_eq_true zb
                obtain ⟨ad215, e215, hx215_0, hx215_1⟩ := at_T83 HR0_1.out x5_1 p215 q215
                cases e215
                replace hx215_0 := (HB.out.cell (World.block_lt_of_cell? w _ hx215_0)).trans hx215_0
                replace hx215_1 := (HB.out.cell (World.block_lt_of_cell? w _ hx215_1)).trans hx215_1
                replace p215 := eq_true p215
                replace q215 := eq_true q215
                go_wp2
                go_roundg k1
                case measure => have := HK1.out; omega
                case rel => exact ⟨(wrap64 (x5_1 - 1)), zc, H', ⟨zb9⟩, ⟨by (with_reducible repeat (first | refine qi ?_ _ | refine qj ?_ | refine qk ?_ _)); exact BK213.out⟩, ⟨za2⟩⟩
            · rw [if_neg c9] at H
              exact absurd H zbh
          · rw [if_neg c8] at H
            exact absurd H zbh
        · rw [if_neg c7] at H
          have c7b0 : decide (0 ≤ x5_1) = false := decide_eq_false c7
          clear c7
          by_cases c13 : 0 ≤ a1
          · rw [if_pos c13] at H
            have c13b0 : decide (0 ≤ a1) = true := decide_eq_true c13
            clear c13
            by_cases c14 : a1 < (l0_0.length : Int)
            · rw [if_pos c14] at H
              have c14b0 : decide (a1 < (l0_0.length : Int)) = true := decide_eq_true c14
              clear c14
              obtain rfl := Option.some.inj H
              have hcz15_0 : wr.cell? ⟨gb213, 0, none⟩ = some (.slice A0_0 l0_0.length c0_0) := (qs BK213.out 0).trans rfl
              have hcz15_1 : wr.cell? ⟨gb213, 1, none⟩ = some (.slice A0_1 l0_1.length c0_1) := (qs BK213.out 1).trans rfl
              have hfz15_0 := qu BK213.out 0
              have hfz15_1 := qu BK213.out 1
              have p217 : 0 ≤ (a1 : Int) := of_decide_eq_true zb
              have q217 : a1 < (l0_0.length : Int) := of_decide_eq_true zb
              obtain ⟨ad217, e217, hx217_0⟩ := Kd.at_string HR0_0.out a1 p217 q217
              cases e217
              replace hx217_0 := (HB.out.cell (World.block_lt_of_cell? w _ hx217_0)).trans hx217_0
              replace p217 := eq_true p217
              replace q217 := eq_true q217
              go_wp2
              go_ret
              exact ⟨zd, za2⟩
            · rw [if_neg c14] at H
              exact absurd H zbh
          · rw [if_neg c13] at H
            exact absurd H zbh
  · replace c4 := Bool.eq_false_iff.mpr c4
    subst c4
    have H1 : (some (⟨#[]⟩ : ByteArray)) = some r := by rw [if_neg (show ¬ (false = true) by decide)] at H; exact H
    clear H
    have H := H1
    clear H1
    obtain rfl := Option.some.inj H
    go_enter Try.func35, Try.ntmps35
    go_wp2_with (first | ((with_reducible refine gate_dst (N := 2) rfl ?_); refine box_event ?hg (N := 2) ?hd (cs := #[.slice A0_0 l0_0.length c0_0, .slice A0_1 l0_1.length c0_1]) (t := 38) ?hr ?_; (case hd => rfl); (case hg => rfl); (case hr => first | (go_simp; done) | (go_simp; rfl)); intro gb213 hg w16 hbox hb; have n0_ := qo (qq za hb); have n1_ := qo (hbox); have n2_ := qo ((zcn : w.heap.size ≤ gb213)); have n3_ := qo ((zcn : w.heap.size ≤ gb213)); clear HB; have HB := n0_; have BK213 := n1_; have GW213 := n2_; have GE213 := n3_; clear n0_ n1_ n2_ n3_; clear hb hbox hg; have hcz17_0 : w16.cell? ⟨gb213, 0, none⟩ = some (.slice A0_0 l0_0.length c0_0) := (qs BK213.out 0).trans rfl; have hcz17_1 : w16.cell? ⟨gb213, 1, none⟩ = some (.slice A0_1 l0_1.length c0_1) := (qs BK213.out 1).trans rfl; have hfz17_0 := qu BK213.out 0; have hfz17_1 := qu BK213.out 1) | ((with_reducible refine gate_callee (f := 45) rfl ?_); refine goesL_ (some 11) rfl rfl Try.func45 ze rfl #[.int .i64 a1, .int .i64 0, .int .i64 (wrap64 ((l0_0.length : Int) - 1))] rfl zcm ?_; (with_reducible refine (spec_l01In.calls a1 0 (wrap64 ((l0_0.length : Int) - 1)) false _ A3.out).mono ?_); rintro e w' ⟨rfl, ⟨nd, rfl⟩⟩; refine ⟨_, rfl, ?_⟩))
    go_ret
    exact ⟨zd, za2⟩

/-! ### spec_BestMeta: function 12 -/
def spec_BestMeta.pick (a b : Int × Int × Int × List (S60) × Bool) : Int × Int × Int × List (S60) × Bool := if a.2.2.2.2 = true ∧ (b.2.2.2.2 = false ∨ a.1 ≥ b.1) then (a.1, a.2.1, a.2.2.1, a.2.2.2.1, true) else if b.2.2.2.2 = true then (b.1, b.2.1, b.2.2.1, b.2.2.2.1, true) else (0, 0, 0, [], false)
def spec_BestMeta.f (k : Nat) (l0_0 : List ByteArray) (l0_1 : List (S83)) : Option (Int × Int × Int × List (S60) × Bool) := (spec_ReadPage.f k l0_0 l0_1 0).bind fun t => ((spec_ReadMeta.f k t).bind fun a => ((spec_ReadPage.f k l0_0 l0_1 1).bind fun u => ((spec_ReadMeta.f k u).bind fun b => (some (spec_BestMeta.pick a b)))))
theorem spec_BestMeta.mono : ∀ a0 a1 k, LeO (spec_BestMeta.f k a0 a1) (spec_BestMeta.f (k + 1) a0 a1) := fun a0 a1 k => LeO.bind (spec_ReadPage.mono _ _ _ _) (fun _ => LeO.bind (spec_ReadMeta.mono _ _) (fun _ => LeO.bind (spec_ReadPage.mono _ _ _ _) (fun _ => LeO.bind (spec_ReadMeta.mono _ _) (fun _ => LeO.refl _))))
theorem spec_BestMeta.calls_world {P : Program} {f : FuncId} {args : Array Value} {W : World} {post : Ending → World → Prop} (h : ∀ W', W' = W → Calls P f args W' post) : Calls P f args W post := h W rfl
theorem spec_BestMeta.row {w6 W1 W W' : World} {b : Nat} {v : Value} {xs : List (S60)} (S : Nat → Prop) (h : Kd.S k60 60 w6 W1.heap.size (fun _ => True) v xs) (hb : Below w6.heap.size w6 W) (hk : Kept W W' S) (hS : ∀ k, W1.heap.size ≤ k → k < w6.heap.size → ¬ S k) (hl : b ≤ W1.heap.size) : Kd.S k60 60 W' b (fun _ => True) v xs :=
  Kd.S_mono (Kd.S_lower (Kd.S_step (Kd.S_bound h) (fun k hk_ hlt => (hk.2 k (Nat.lt_of_lt_of_le hlt hb.size) (hS k hk_.2.1 hlt)).trans (hb.block k hlt))) hl) (fun _ _ => trivial)
set_option maxHeartbeats 16000000 in
set_option maxRecDepth 100000 in
theorem spec_BestMeta.calls (k : Nat) (A0_0 : Option Addr) (c0_0 : Nat) (l0_0 : List ByteArray) (A0_1 : Option Addr) (c0_1 : Nat) (l0_1 : List (S83)) (r1 : Int) (r2 : Int) (r3 : Int) (r4 : List (S60)) (r5 : Bool) (w : World) (hr0_0 : Kd.C Kd.string w A0_0 l0_0.length l0_0) (hc0_0 : l0_0.length ≤ c0_0) (hr0_1 : Kd.C k83 w A0_1 l0_1.length l0_1) (hc0_1 : l0_1.length ≤ c0_1) (h : spec_BestMeta.f k l0_0 l0_1 = some (r1, r2, r3, r4, r5)) :
    Calls Try.prog 12 #[.agg #[.slice A0_0 l0_0.length c0_0, .slice A0_1 l0_1.length c0_1]] w fun e w' => ∃ v3_ : Value, e = .returned (.tuple #[.agg #[.int .i64 r1, .int .i64 r2, .int .i64 r3, v3_], .bool r5]) ∧ Kd.S k60 60 w' w.heap.size (fun _ => True) v3_ r4 ∧ Below w.heap.size w w' := by
  obtain ⟨t, e1, h⟩ := Option.bind_eq_some_iff.mp h
  obtain ⟨⟨x1, x2, x3, X4, x5⟩, e2, h⟩ := Option.bind_eq_some_iff.mp h
  obtain ⟨u, e3, h⟩ := Option.bind_eq_some_iff.mp h
  obtain ⟨⟨y1, y2, y3, Y4, y5⟩, e4, h⟩ := Option.bind_eq_some_iff.mp h
  have hp := Option.some.inj h
  unfold spec_BestMeta.pick at hp
  dsimp only at hp
  clear h
  have E1 := qo e1
  have E2 := qo e2
  have E3 := qo e3
  have E4 := qo e4
  have HR0 := qo hr0_0
  have HR1 := qo hr0_1
  have HC0 := qo hc0_0
  have HC1 := qo hc0_1
  have Bw := qo (Below.refl w.heap.size w)
  clear e1 e2 e3 e4 hr0_0 hr0_1 hc0_0 hc0_1
  have hge : (decide (y1 ≤ x1) = true ∧ x1 ≥ y1) ∨ (decide (y1 ≤ x1) = false ∧ ¬ x1 ≥ y1) := by
    by_cases c : y1 ≤ x1
    · exact .inl ⟨decide_eq_true c, c⟩
    · exact .inr ⟨decide_eq_false c, c⟩
  have HP := qo hp
  clear hp
  rcases hge with ⟨hd, hg⟩ | ⟨hd, hg⟩ <;> (have HGE := qo hg; clear hg; cases x5 <;> cases y5)
  all_goals (
    go_enter Try.func12, Try.ntmps12
    go_wp2_with (first | ((with_reducible refine gate_dst (N := 1) rfl ?_); refine box_event ?hg (N := 1) ?hd (cs := #[.slice A0_0 l0_0.length c0_0, .slice A0_1 l0_1.length c0_1]) (t := 38) ?hr ?_; (case hd => rfl); (case hg => rfl); (case hr => first | (go_simp; done) | (go_simp; rfl)); intro g0 hg w1 hbox hb; have Gg0_w := qo (show w.heap.size ≤ g0 from zcq); have nw_ := qo (show Below w.heap.size w w1 from qq zf hb); clear Bw; have Bw := nw_; clear nw_; have Kg0 := qo hbox; clear hbox hg; clear hb; have Bw1 := qo (Below.refl w1.heap.size w1); have hcg0_0 : w1.cell? ⟨g0, 0, none⟩ = some (.slice A0_0 l0_0.length c0_0) := (qs Kg0.out 0).trans rfl; have hcg0_1 : w1.cell? ⟨g0, 1, none⟩ = some (.slice A0_1 l0_1.length c0_1) := (qs Kg0.out 1).trans rfl; have hfg0_0 := qu Kg0.out 0; have hfg0_1 := qu Kg0.out 1; ) | ((with_reducible refine gate_dst (N := 2) rfl ?_); refine box_event ?hg (N := 2) ?hd (cs := #[.int .i64 0, .int .i64 0, .int .i64 0, .slice none 0 0]) (t := 24) ?hr ?_; (case hd => rfl); (case hg => rfl); (case hr => first | (go_simp; done) | (go_simp; rfl)); intro g2 hg w2 hbox hb; have Gg2_w := qo (show w.heap.size ≤ g2 from zcq); have Gg2_w1 := qo (show w1.heap.size ≤ g2 from zcz); have nw_ := qo (show Below w.heap.size w w2 from qq zf hb); have nw1_ := qo (show Below w1.heap.size w1 w2 from qq zt hb); clear Bw; have Bw := nw_; clear nw_; clear Bw1; have Bw1 := nw1_; clear nw1_; have Kg2 := qo hbox; clear hbox hg; (try clear hcg0_0 hfg0_0 hcg0_1 hfg0_1); have k_ := qo (qr Kg0.out hb); clear Kg0; have Kg0 := k_; clear k_; clear hb; have Bw2 := qo (Below.refl w2.heap.size w2); have hcg0_0 : w2.cell? ⟨g0, 0, none⟩ = some (.slice A0_0 l0_0.length c0_0) := (qs Kg0.out 0).trans rfl; have hcg0_1 : w2.cell? ⟨g0, 1, none⟩ = some (.slice A0_1 l0_1.length c0_1) := (qs Kg0.out 1).trans rfl; have hfg0_0 := qu Kg0.out 0; have hfg0_1 := qu Kg0.out 1; have hcg2_0 : w2.cell? ⟨g2, 0, none⟩ = some (.int .i64 0) := (qs Kg2.out 0).trans rfl; have hcg2_1 : w2.cell? ⟨g2, 1, none⟩ = some (.int .i64 0) := (qs Kg2.out 1).trans rfl; have hcg2_2 : w2.cell? ⟨g2, 2, none⟩ = some (.int .i64 0) := (qs Kg2.out 2).trans rfl; have hcg2_3 : w2.cell? ⟨g2, 3, none⟩ = some (.slice none 0 0) := (qs Kg2.out 3).trans rfl; have hfg2_0 := qu Kg2.out 0; have hfg2_1 := qu Kg2.out 1; have hfg2_2 := qu Kg2.out 2; have hfg2_3 := qu Kg2.out 3; have K0 := Kg0; have K2 := Kg2; have L2 := qo (blk_lt Kg2.out); have L0 := qo (blk_lt Kg0.out)) | ((with_reducible refine gate_callee (f := 35) rfl ?_); refine goesL_ (some 10) rfl rfl Try.func35 ze rfl #[.agg #[.slice A0_0 l0_0.length c0_0, .slice A0_1 l0_1.length c0_1], .int .i64 0] rfl zao ?_; refine spec_BestMeta.calls_world ?_; intro W1 hW; have nw_ := qo (show Below w.heap.size w W1 from zcv); have nw2_ := qo (show Below w2.heap.size w2 W1 from zc2); clear Bw; have Bw := nw_; clear nw_; clear Bw2; have Bw2 := nw2_; clear nw2_; clear hW; have C0 := Kd.C_below HR0.out Bw.out; have C1 := Kd.C_below HR1.out Bw.out; (with_reducible refine (spec_ReadPage.calls k A0_0 c0_0 l0_0 A0_1 c0_1 l0_1 0 t W1 C0 HC0.out C1 HC1.out E1.out).mono ?_); rintro e w3 ⟨rfl, hb⟩; refine ⟨_, rfl, ?_⟩; clear C0 C1; have nw_ := qo (show Below w.heap.size w w3 from qq Bw.out hb); have nw2_ := qo (show Below w2.heap.size w2 w3 from qq Bw2.out hb); clear Bw; have Bw := nw_; clear nw_; clear Bw2; have Bw2 := nw2_; clear nw2_; (try clear hcg0_0 hfg0_0 hcg0_1 hfg0_1); (try clear hcg2_0 hfg2_0 hcg2_1 hfg2_1 hcg2_2 hfg2_2 hcg2_3 hfg2_3); clear Kg0 Kg2; have Kg0 := qo (qr K0.out Bw2.out); have Kg2 := qo (qr K2.out Bw2.out); have hcg0_0 : w3.cell? ⟨g0, 0, none⟩ = some (.slice A0_0 l0_0.length c0_0) := (qs Kg0.out 0).trans rfl; have hcg0_1 : w3.cell? ⟨g0, 1, none⟩ = some (.slice A0_1 l0_1.length c0_1) := (qs Kg0.out 1).trans rfl; have hfg0_0 := qu Kg0.out 0; have hfg0_1 := qu Kg0.out 1; have hcg2_0 : w3.cell? ⟨g2, 0, none⟩ = some (.int .i64 0) := (qs Kg2.out 0).trans rfl; have hcg2_1 : w3.cell? ⟨g2, 1, none⟩ = some (.int .i64 0) := (qs Kg2.out 1).trans rfl; have hcg2_2 : w3.cell? ⟨g2, 2, none⟩ = some (.int .i64 0) := (qs Kg2.out 2).trans rfl; have hcg2_3 : w3.cell? ⟨g2, 3, none⟩ = some (.slice none 0 0) := (qs Kg2.out 3).trans rfl; have hfg2_0 := qu Kg2.out 0; have hfg2_1 := qu Kg2.out 1; have hfg2_2 := qu Kg2.out 2; have hfg2_3 := qu Kg2.out 3; clear hb) | ((with_reducible refine gate_callee (f := 6) rfl ?_); refine goesL_ (some 11) rfl rfl Try.func6 ze rfl #[.string t] rfl zao ?_; refine spec_BestMeta.calls_world ?_; intro W2 hW; have nw_ := qo (show Below w.heap.size w W2 from zcv); have nw2_ := qo (show Below w2.heap.size w2 W2 from zc2); clear Bw; have Bw := nw_; clear nw_; clear Bw2; have Bw2 := nw2_; clear nw2_; clear hW; have M2 := qo (Nat.lt_of_lt_of_le L2.out Bw2.out.size); have M0 := qo (Nat.lt_of_lt_of_le L0.out Bw2.out.size); (with_reducible refine (spec_ReadMeta.calls k t x1 x2 x3 X4 _ W2 E2.out).mono ?_); rintro e w4 ⟨v4, rfl, ho, hb⟩; refine ⟨_, rfl, ?_⟩; obtain ⟨Ax, cx, ex⟩ := Kd.S_slice ho; subst ex; have HO1 := qo ho; clear ho; have nw_ := qo (show Below w.heap.size w w4 from qq Bw.out hb); have nw2_ := qo (show Below w2.heap.size w2 w4 from qq Bw2.out hb); clear Bw; have Bw := nw_; clear nw_; clear Bw2; have Bw2 := nw2_; clear nw2_; have Bw4 := qo (Below.refl w4.heap.size w4); have Z12 := qo (Nat.le_refl W2.heap.size); (try clear hcg0_0 hfg0_0 hcg0_1 hfg0_1); (try clear hcg2_0 hfg2_0 hcg2_1 hfg2_1 hcg2_2 hfg2_2 hcg2_3 hfg2_3); clear Kg0 Kg2; have Kg0 := qo (qr K0.out Bw2.out); have Kg2 := qo (qr K2.out Bw2.out); have hcg0_0 : w4.cell? ⟨g0, 0, none⟩ = some (.slice A0_0 l0_0.length c0_0) := (qs Kg0.out 0).trans rfl; have hcg0_1 : w4.cell? ⟨g0, 1, none⟩ = some (.slice A0_1 l0_1.length c0_1) := (qs Kg0.out 1).trans rfl; have hfg0_0 := qu Kg0.out 0; have hfg0_1 := qu Kg0.out 1; have hcg2_0 : w4.cell? ⟨g2, 0, none⟩ = some (.int .i64 0) := (qs Kg2.out 0).trans rfl; have hcg2_1 : w4.cell? ⟨g2, 1, none⟩ = some (.int .i64 0) := (qs Kg2.out 1).trans rfl; have hcg2_2 : w4.cell? ⟨g2, 2, none⟩ = some (.int .i64 0) := (qs Kg2.out 2).trans rfl; have hcg2_3 : w4.cell? ⟨g2, 3, none⟩ = some (.slice none 0 0) := (qs Kg2.out 3).trans rfl; have hfg2_0 := qu Kg2.out 0; have hfg2_1 := qu Kg2.out 1; have hfg2_2 := qu Kg2.out 2; have hfg2_3 := qu Kg2.out 3; clear hb) | ((with_reducible refine gate_dst (N := 4) rfl ?_); refine box_event ?hg (N := 4) ?hd (cs := #[.int .i64 0, .int .i64 0, .int .i64 0, .slice none 0 0]) (t := 24) ?hr ?_; (case hd => rfl); (case hg => rfl); (case hr => first | (go_simp; done) | (go_simp; rfl)); intro ga hg w5 hbox hb; have Gga_w := qo (show w.heap.size ≤ ga from zcq); have Gga_w2 := qo (show w2.heap.size ≤ ga from zc1); have Gga_w4 := qo (show w4.heap.size ≤ ga from zcw); have nw_ := qo (show Below w.heap.size w w5 from qq zf hb); have nw2_ := qo (show Below w2.heap.size w2 w5 from qq zac hb); have nw4_ := qo (show Below w4.heap.size w4 w5 from qq zp hb); clear Bw; have Bw := nw_; clear nw_; clear Bw2; have Bw2 := nw2_; clear nw2_; clear Bw4; have Bw4 := nw4_; clear nw4_; have Kga := qo hbox; clear hbox hg; (try clear hcg0_0 hfg0_0 hcg0_1 hfg0_1); (try clear hcg2_0 hfg2_0 hcg2_1 hfg2_1 hcg2_2 hfg2_2 hcg2_3 hfg2_3); clear Kg0 Kg2; have Kg0 := qo (qr K0.out Bw2.out); have Kg2 := qo (qr K2.out Bw2.out); have hcg0_0 : w5.cell? ⟨g0, 0, none⟩ = some (.slice A0_0 l0_0.length c0_0) := (qs Kg0.out 0).trans rfl; have hcg0_1 : w5.cell? ⟨g0, 1, none⟩ = some (.slice A0_1 l0_1.length c0_1) := (qs Kg0.out 1).trans rfl; have hfg0_0 := qu Kg0.out 0; have hfg0_1 := qu Kg0.out 1; have hcg2_0 : w5.cell? ⟨g2, 0, none⟩ = some (.int .i64 0) := (qs Kg2.out 0).trans rfl; have hcg2_1 : w5.cell? ⟨g2, 1, none⟩ = some (.int .i64 0) := (qs Kg2.out 1).trans rfl; have hcg2_2 : w5.cell? ⟨g2, 2, none⟩ = some (.int .i64 0) := (qs Kg2.out 2).trans rfl; have hcg2_3 : w5.cell? ⟨g2, 3, none⟩ = some (.slice none 0 0) := (qs Kg2.out 3).trans rfl; have hfg2_0 := qu Kg2.out 0; have hfg2_1 := qu Kg2.out 1; have hfg2_2 := qu Kg2.out 2; have hfg2_3 := qu Kg2.out 3; have hcga_0 : w5.cell? ⟨ga, 0, none⟩ = some (.int .i64 0) := (qs Kga.out 0).trans rfl; have hcga_1 : w5.cell? ⟨ga, 1, none⟩ = some (.int .i64 0) := (qs Kga.out 1).trans rfl; have hcga_2 : w5.cell? ⟨ga, 2, none⟩ = some (.int .i64 0) := (qs Kga.out 2).trans rfl; have hcga_3 : w5.cell? ⟨ga, 3, none⟩ = some (.slice none 0 0) := (qs Kga.out 3).trans rfl; have hfga_0 := qu Kga.out 0; have hfga_1 := qu Kga.out 1; have hfga_2 := qu Kga.out 2; have hfga_3 := qu Kga.out 3; have Lw4 := qo (Nat.le_refl 0); have ng0ga : g0 ≠ ga := Nat.ne_of_lt (Nat.lt_of_lt_of_le L0.out Gga_w2.out); have ngag0 : ga ≠ g0 := fun e_ => ng0ga e_.symm; have ng2ga : g2 ≠ ga := Nat.ne_of_lt (Nat.lt_of_lt_of_le L2.out Gga_w2.out); have ngag2 : ga ≠ g2 := fun e_ => ng2ga e_.symm; clear hb) | ((with_reducible refine gate_callee (f := 35) rfl ?_); refine goesL_ (some 16) rfl rfl Try.func35 ze rfl #[.agg #[.slice A0_0 l0_0.length c0_0, .slice A0_1 l0_1.length c0_1], .int .i64 1] rfl zao ?_; refine spec_BestMeta.calls_world ?_; intro W3 hW; have nw_ := qo (show Below w.heap.size w W3 from (by rw [hW]; exact (by repeat (first | (with_reducible first | exact Bw.out | apply qm | apply qn | refine qt ?_ Gga_w.out) | exact Bw.out)))); have nw2_ := qo (show Below w2.heap.size w2 W3 from (by rw [hW]; exact (by repeat (first | (with_reducible first | exact Bw2.out | apply qm | apply qn | refine qt ?_ Gga_w2.out) | exact Bw2.out)))); have nw4_ := qo (show Below w4.heap.size w4 W3 from (by rw [hW]; exact (by repeat (first | (with_reducible first | exact Bw4.out | apply qm | apply qn | refine qt ?_ Gga_w4.out) | exact Bw4.out)))); clear Bw; have Bw := nw_; clear nw_; clear Bw2; have Bw2 := nw2_; clear nw2_; clear Bw4; have Bw4 := nw4_; clear nw4_; have hka := (show W3.heap[ga]? = some (.cells #[.int .i64 x1, .int .i64 x2, .int .i64 x3, .slice Ax X4.length cx] 24 (0, 0)) from (by rw [hW]; exact (blk_set (blk_set (blk_set (blk_set Kga.out 0 (.int .i64 x1)) 1 (.int .i64 x2)) 2 (.int .i64 x3)) 3 (.slice Ax X4.length cx)).trans rfl)); clear Kga; have Kga := qo hka; clear hka; clear hW; have C0 := Kd.C_below HR0.out Bw.out; have C1 := Kd.C_below HR1.out Bw.out; (with_reducible refine (spec_ReadPage.calls k A0_0 c0_0 l0_0 A0_1 c0_1 l0_1 1 u W3 C0 HC0.out C1 HC1.out E3.out).mono ?_); rintro e w6 ⟨rfl, hb⟩; refine ⟨_, rfl, ?_⟩; clear C0 C1; have nw_ := qo (show Below w.heap.size w w6 from qq Bw.out hb); have nw2_ := qo (show Below w2.heap.size w2 w6 from qq Bw2.out hb); have nw4_ := qo (show Below w4.heap.size w4 w6 from qq Bw4.out hb); clear Bw; have Bw := nw_; clear nw_; clear Bw2; have Bw2 := nw2_; clear nw2_; clear Bw4; have Bw4 := nw4_; clear nw4_; have k_ := qo (qr Kga.out hb); clear Kga; have Kga := k_; clear k_; (try clear hcga_0 hfga_0 hcga_1 hfga_1 hcga_2 hfga_2 hcga_3 hfga_3); (try clear hcg0_0 hfg0_0 hcg0_1 hfg0_1); (try clear hcg2_0 hfg2_0 hcg2_1 hfg2_1 hcg2_2 hfg2_2 hcg2_3 hfg2_3); clear Kg0 Kg2; have Kg0 := qo (qr K0.out Bw2.out); have Kg2 := qo (qr K2.out Bw2.out); have hcg0_0 : w6.cell? ⟨g0, 0, none⟩ = some (.slice A0_0 l0_0.length c0_0) := (qs Kg0.out 0).trans rfl; have hcg0_1 : w6.cell? ⟨g0, 1, none⟩ = some (.slice A0_1 l0_1.length c0_1) := (qs Kg0.out 1).trans rfl; have hfg0_0 := qu Kg0.out 0; have hfg0_1 := qu Kg0.out 1; have hcg2_0 : w6.cell? ⟨g2, 0, none⟩ = some (.int .i64 0) := (qs Kg2.out 0).trans rfl; have hcg2_1 : w6.cell? ⟨g2, 1, none⟩ = some (.int .i64 0) := (qs Kg2.out 1).trans rfl; have hcg2_2 : w6.cell? ⟨g2, 2, none⟩ = some (.int .i64 0) := (qs Kg2.out 2).trans rfl; have hcg2_3 : w6.cell? ⟨g2, 3, none⟩ = some (.slice none 0 0) := (qs Kg2.out 3).trans rfl; have hfg2_0 := qu Kg2.out 0; have hfg2_1 := qu Kg2.out 1; have hfg2_2 := qu Kg2.out 2; have hfg2_3 := qu Kg2.out 3; have hcga_0 : w6.cell? ⟨ga, 0, none⟩ = some (.int .i64 x1) := (qs Kga.out 0).trans rfl; have hcga_1 : w6.cell? ⟨ga, 1, none⟩ = some (.int .i64 x2) := (qs Kga.out 1).trans rfl; have hcga_2 : w6.cell? ⟨ga, 2, none⟩ = some (.int .i64 x3) := (qs Kga.out 2).trans rfl; have hcga_3 : w6.cell? ⟨ga, 3, none⟩ = some (.slice Ax X4.length cx) := (qs Kga.out 3).trans rfl; have hfga_0 := qu Kga.out 0; have hfga_1 := qu Kga.out 1; have hfga_2 := qu Kga.out 2; have hfga_3 := qu Kga.out 3; clear hb) | ((with_reducible refine gate_callee (f := 6) rfl ?_); refine goesL_ (some 17) rfl rfl Try.func6 ze rfl #[.string u] rfl zao ?_; refine spec_BestMeta.calls_world ?_; intro W4 hW; have nw_ := qo (show Below w.heap.size w W4 from zcv); have nw2_ := qo (show Below w2.heap.size w2 W4 from zc2); have nw4_ := qo (show Below w4.heap.size w4 W4 from zcy); clear Bw; have Bw := nw_; clear nw_; clear Bw2; have Bw2 := nw2_; clear nw2_; clear Bw4; have Bw4 := nw4_; clear nw4_; have hka := (show W4.heap[ga]? = some (.cells #[.int .i64 x1, .int .i64 x2, .int .i64 x3, .slice Ax X4.length cx] 24 (0, 0)) from (by rw [hW]; exact Kga.out)); clear Kga; have Kga := qo hka; clear hka hW; have La := qo (blk_lt Kga.out); have N4 := qo Bw4.out.size; have N2 := qo Bw2.out.size; (with_reducible refine (spec_ReadMeta.calls k u y1 y2 y3 Y4 _ W4 E4.out).mono ?_); rintro e w7 ⟨v7, rfl, ho, hb⟩; refine ⟨_, rfl, ?_⟩; obtain ⟨Ay, cy, ey⟩ := Kd.S_slice ho; subst ey; have HO2 := qo ho; clear ho; have M4 := qo hb.size; have nw_ := qo (show Below w.heap.size w w7 from qq Bw.out hb); have nw2_ := qo (show Below w2.heap.size w2 w7 from qq Bw2.out hb); have nw4_ := qo (show Below w4.heap.size w4 w7 from qq Bw4.out hb); clear Bw; have Bw := nw_; clear nw_; clear Bw2; have Bw2 := nw2_; clear nw2_; clear Bw4; have Bw4 := nw4_; clear nw4_; have Bw7 := qo (Below.refl w7.heap.size w7); have k_ := qo (qr Kga.out hb); clear Kga; have Kga := k_; clear k_; (try clear hcga_0 hfga_0 hcga_1 hfga_1 hcga_2 hfga_2 hcga_3 hfga_3); (try clear hcg0_0 hfg0_0 hcg0_1 hfg0_1); (try clear hcg2_0 hfg2_0 hcg2_1 hfg2_1 hcg2_2 hfg2_2 hcg2_3 hfg2_3); clear Kg0 Kg2; have Kg0 := qo (qr K0.out Bw2.out); have Kg2 := qo (qr K2.out Bw2.out); have hcg0_0 : w7.cell? ⟨g0, 0, none⟩ = some (.slice A0_0 l0_0.length c0_0) := (qs Kg0.out 0).trans rfl; have hcg0_1 : w7.cell? ⟨g0, 1, none⟩ = some (.slice A0_1 l0_1.length c0_1) := (qs Kg0.out 1).trans rfl; have hfg0_0 := qu Kg0.out 0; have hfg0_1 := qu Kg0.out 1; have hcg2_0 : w7.cell? ⟨g2, 0, none⟩ = some (.int .i64 0) := (qs Kg2.out 0).trans rfl; have hcg2_1 : w7.cell? ⟨g2, 1, none⟩ = some (.int .i64 0) := (qs Kg2.out 1).trans rfl; have hcg2_2 : w7.cell? ⟨g2, 2, none⟩ = some (.int .i64 0) := (qs Kg2.out 2).trans rfl; have hcg2_3 : w7.cell? ⟨g2, 3, none⟩ = some (.slice none 0 0) := (qs Kg2.out 3).trans rfl; have hfg2_0 := qu Kg2.out 0; have hfg2_1 := qu Kg2.out 1; have hfg2_2 := qu Kg2.out 2; have hfg2_3 := qu Kg2.out 3; have hcga_0 : w7.cell? ⟨ga, 0, none⟩ = some (.int .i64 x1) := (qs Kga.out 0).trans rfl; have hcga_1 : w7.cell? ⟨ga, 1, none⟩ = some (.int .i64 x2) := (qs Kga.out 1).trans rfl; have hcga_2 : w7.cell? ⟨ga, 2, none⟩ = some (.int .i64 x3) := (qs Kga.out 2).trans rfl; have hcga_3 : w7.cell? ⟨ga, 3, none⟩ = some (.slice Ax X4.length cx) := (qs Kga.out 3).trans rfl; have hfga_0 := qu Kga.out 0; have hfga_1 := qu Kga.out 1; have hfga_2 := qu Kga.out 2; have hfga_3 := qu Kga.out 3; clear hb) | ((with_reducible refine gate_dst (N := 6) rfl ?_); refine box_event ?hg (N := 6) ?hd (cs := #[.int .i64 0, .int .i64 0, .int .i64 0, .slice none 0 0]) (t := 24) ?hr ?_; (case hd => rfl); (case hg => rfl); (case hr => first | (go_simp; done) | (go_simp; rfl)); intro gb hg w8 hbox hb; have Ggb_w := qo (show w.heap.size ≤ gb from zcq); have Ggb_w2 := qo (show w2.heap.size ≤ gb from zc1); have Ggb_w4 := qo (show w4.heap.size ≤ gb from zcw); have Ggb_w7 := qo (show w7.heap.size ≤ gb from (by rw [hg]; exact (qp zca))); have nw_ := qo (show Below w.heap.size w w8 from qq zf hb); have nw2_ := qo (show Below w2.heap.size w2 w8 from qq zac hb); have nw4_ := qo (show Below w4.heap.size w4 w8 from qq zp hb); have nw7_ := qo (show Below w7.heap.size w7 w8 from qq zca hb); clear Bw; have Bw := nw_; clear nw_; clear Bw2; have Bw2 := nw2_; clear nw2_; clear Bw4; have Bw4 := nw4_; clear nw4_; clear Bw7; have Bw7 := nw7_; clear nw7_; have Kgb := qo hbox; clear hbox hg; have k_ := qo (qr Kga.out hb); clear Kga; have Kga := k_; clear k_; (try clear hcga_0 hfga_0 hcga_1 hfga_1 hcga_2 hfga_2 hcga_3 hfga_3); (try clear hcg0_0 hfg0_0 hcg0_1 hfg0_1); (try clear hcg2_0 hfg2_0 hcg2_1 hfg2_1 hcg2_2 hfg2_2 hcg2_3 hfg2_3); clear Kg0 Kg2; have Kg0 := qo (qr K0.out Bw2.out); have Kg2 := qo (qr K2.out Bw2.out); have hcg0_0 : w8.cell? ⟨g0, 0, none⟩ = some (.slice A0_0 l0_0.length c0_0) := (qs Kg0.out 0).trans rfl; have hcg0_1 : w8.cell? ⟨g0, 1, none⟩ = some (.slice A0_1 l0_1.length c0_1) := (qs Kg0.out 1).trans rfl; have hfg0_0 := qu Kg0.out 0; have hfg0_1 := qu Kg0.out 1; have hcg2_0 : w8.cell? ⟨g2, 0, none⟩ = some (.int .i64 0) := (qs Kg2.out 0).trans rfl; have hcg2_1 : w8.cell? ⟨g2, 1, none⟩ = some (.int .i64 0) := (qs Kg2.out 1).trans rfl; have hcg2_2 : w8.cell? ⟨g2, 2, none⟩ = some (.int .i64 0) := (qs Kg2.out 2).trans rfl; have hcg2_3 : w8.cell? ⟨g2, 3, none⟩ = some (.slice none 0 0) := (qs Kg2.out 3).trans rfl; have hfg2_0 := qu Kg2.out 0; have hfg2_1 := qu Kg2.out 1; have hfg2_2 := qu Kg2.out 2; have hfg2_3 := qu Kg2.out 3; have hcga_0 : w8.cell? ⟨ga, 0, none⟩ = some (.int .i64 x1) := (qs Kga.out 0).trans rfl; have hcga_1 : w8.cell? ⟨ga, 1, none⟩ = some (.int .i64 x2) := (qs Kga.out 1).trans rfl; have hcga_2 : w8.cell? ⟨ga, 2, none⟩ = some (.int .i64 x3) := (qs Kga.out 2).trans rfl; have hcga_3 : w8.cell? ⟨ga, 3, none⟩ = some (.slice Ax X4.length cx) := (qs Kga.out 3).trans rfl; have hfga_0 := qu Kga.out 0; have hfga_1 := qu Kga.out 1; have hfga_2 := qu Kga.out 2; have hfga_3 := qu Kga.out 3; have hcgb_0 : w8.cell? ⟨gb, 0, none⟩ = some (.int .i64 0) := (qs Kgb.out 0).trans rfl; have hcgb_1 : w8.cell? ⟨gb, 1, none⟩ = some (.int .i64 0) := (qs Kgb.out 1).trans rfl; have hcgb_2 : w8.cell? ⟨gb, 2, none⟩ = some (.int .i64 0) := (qs Kgb.out 2).trans rfl; have hcgb_3 : w8.cell? ⟨gb, 3, none⟩ = some (.slice none 0 0) := (qs Kgb.out 3).trans rfl; have hfgb_0 := qu Kgb.out 0; have hfgb_1 := qu Kgb.out 1; have hfgb_2 := qu Kgb.out 2; have hfgb_3 := qu Kgb.out 3; have ng0gb : g0 ≠ gb := Nat.ne_of_lt (Nat.lt_of_lt_of_le L0.out Ggb_w2.out); have ngbg0 : gb ≠ g0 := fun e_ => ng0gb e_.symm; have ng2gb : g2 ≠ gb := Nat.ne_of_lt (Nat.lt_of_lt_of_le L2.out Ggb_w2.out); have ngbg2 : gb ≠ g2 := fun e_ => ng2gb e_.symm; have ngagb : ga ≠ gb := Nat.ne_of_lt (Nat.lt_of_lt_of_le (Nat.lt_of_lt_of_le La.out M4.out) Ggb_w7.out); have ngbga : gb ≠ ga := fun e_ => ngagb e_.symm; clear hb))
    first
    | (have e_ : ((x1, x2, x3, X4, true) : Int × Int × Int × List (S60) × Bool) = (r1, r2, r3, r4, r5) := (if_pos (by first | exact ⟨trivial, .inl trivial⟩ | exact ⟨trivial, .inr HGE.out⟩)).symm.trans HP.out
       simp only [Prod.mk.injEq] at e_
       obtain ⟨rfl, rfl, rfl, rfl, rfl⟩ := e_
       refine bodyPost_ret (results_ct rfl _ _ g2 24 #[.int .i64 x1, .int .i64 x2, .int .i64 x3, .slice Ax X4.length cx] (0, 0) _ rfl (by refine blk_put (cs := #[.int .i64 x1, .int .i64 x2, .int .i64 x3, .slice none 0 0]) ?_ 3 _ rfl; refine blk_put (cs := #[.int .i64 x1, .int .i64 x2, .int .i64 0, .slice none 0 0]) ?_ 2 _ rfl; refine blk_put (cs := #[.int .i64 x1, .int .i64 0, .int .i64 0, .slice none 0 0]) ?_ 1 _ rfl; refine blk_put (cs := #[.int .i64 0, .int .i64 0, .int .i64 0, .slice none 0 0]) ?_ 0 _ rfl; refine blk_far ?_ ng2gb _; refine blk_far ?_ ng2gb _; refine blk_far ?_ ng2gb _; refine blk_far ?_ ng2gb _; exact Kg2.out) Try.underlying24 rfl ze) rfl ?_
       exact ⟨_, rfl, spec_BestMeta.row (fun k => k = g2 ∨ k = gb) HO1.out Bw4.out zbo (fun k h1 h2 h3 => h3.elim (fun e => by have := M2.out; omega) (fun e => by have := Ggb_w4.out; omega)) (by have := M2.out; have := Gg2_w.out; omega), za0⟩)
    | (have e_ : ((y1, y2, y3, Y4, true) : Int × Int × Int × List (S60) × Bool) = (r1, r2, r3, r4, r5) := (if_pos trivial).symm.trans ((if_neg zbt).symm.trans HP.out)
       simp only [Prod.mk.injEq] at e_
       obtain ⟨rfl, rfl, rfl, rfl, rfl⟩ := e_
       refine bodyPost_ret (results_ct rfl _ _ g2 24 #[.int .i64 y1, .int .i64 y2, .int .i64 y3, .slice Ay Y4.length cy] (0, 0) _ rfl (by refine blk_put (cs := #[.int .i64 y1, .int .i64 y2, .int .i64 y3, .slice none 0 0]) ?_ 3 _ rfl; refine blk_put (cs := #[.int .i64 y1, .int .i64 y2, .int .i64 0, .slice none 0 0]) ?_ 2 _ rfl; refine blk_put (cs := #[.int .i64 y1, .int .i64 0, .int .i64 0, .slice none 0 0]) ?_ 1 _ rfl; refine blk_put (cs := #[.int .i64 0, .int .i64 0, .int .i64 0, .slice none 0 0]) ?_ 0 _ rfl; refine blk_far ?_ ng2gb _; refine blk_far ?_ ng2gb _; refine blk_far ?_ ng2gb _; refine blk_far ?_ ng2gb _; exact Kg2.out) Try.underlying24 rfl ze) rfl ?_
       exact ⟨_, rfl, spec_BestMeta.row (fun k => k = g2 ∨ k = gb) HO2.out Bw7.out zbo (fun k h1 h2 h3 => h3.elim (fun e => by have := L2.out; have := N2.out; omega) (fun e => by have := Ggb_w7.out; omega)) (by have := L2.out; have := N2.out; have := Gg2_w.out; omega), za0⟩)
    | (have e_ : ((0, 0, 0, [], false) : Int × Int × Int × List (S60) × Bool) = (r1, r2, r3, r4, r5) := (if_neg (by intro h_; cases h_)).symm.trans ((if_neg zbt).symm.trans HP.out)
       simp only [Prod.mk.injEq] at e_
       obtain ⟨rfl, rfl, rfl, rfl, rfl⟩ := e_
       refine bodyPost_ret (results_ct rfl _ _ g2 24 #[.int .i64 0, .int .i64 0, .int .i64 0, .slice none 0 0] (0, 0) _ rfl (by refine blk_put (cs := #[.int .i64 0, .int .i64 0, .int .i64 0, .slice none 0 0]) ?_ 3 _ rfl; refine blk_put (cs := #[.int .i64 0, .int .i64 0, .int .i64 0, .slice none 0 0]) ?_ 2 _ rfl; refine blk_put (cs := #[.int .i64 0, .int .i64 0, .int .i64 0, .slice none 0 0]) ?_ 1 _ rfl; refine blk_put (cs := #[.int .i64 0, .int .i64 0, .int .i64 0, .slice none 0 0]) ?_ 0 _ rfl; refine blk_far ?_ ng2gb _; refine blk_far ?_ ng2gb _; refine blk_far ?_ ng2gb _; refine blk_far ?_ ng2gb _; exact Kg2.out) Try.underlying24 rfl ze) rfl ?_
       exact ⟨_, rfl, Kd.S_nil k60 60 _ _ _, za0⟩))

/-! ### laws_toStringS: function 36 -/
def laws_toStringS.l0 : Nat → List ByteArray → List ByteArray → Int → Option (List ByteArray)
  | 0, _, _, _ => none
  | k + 1, x0, x3, x4 => if x4 < (x0.length : Int) then (if 0 ≤ x4 then (if x4 < (x3.length : Int) then (laws_toStringS.l0 k x0 (x3.set (x4 : Int).toNat (rdOf ByteArray.empty x0 x4)) (wrap64 (x4 + 1))) else (none)) else (none)) else (some x3)
def laws_toStringS.f (k : Nat) (l0 : List ByteArray) : Option (List ByteArray) := if 0 ≤ (l0.length : Int) then (if ((l0.length : Int) : Int).toNat ≤ 17592186044416 then (laws_toStringS.l0 k l0 (List.replicate ((l0.length : Int) : Int).toNat (⟨#[]⟩ : ByteArray)) 0) else (none)) else (none)
theorem laws_toStringS.mono_l : ∀ k, (∀ y0 y1 y2, LeO (laws_toStringS.l0 k y0 y1 y2) (laws_toStringS.l0 (k + 1) y0 y1 y2))
  | 0 => fun _ _ _ r h => by simp [laws_toStringS.l0] at h
  | k + 1 => by
    have ih0 := laws_toStringS.mono_l k
    · intro y0 y1 y2
      unfold laws_toStringS.l0
      repeat' first
      | (with_reducible exact ih0 _ _ _)
      | (with_reducible exact LeO.refl _)
      | (with_reducible exact LeO.none _)
      | (with_reducible refine LeO.ite ?_ ?_)
      | (with_reducible refine LeO.bind ?_ (fun _ => ?_))
      | exact ih0 _ _ _
      | exact LeO.none _
      | refine LeO.ite ?_ ?_
      | refine LeO.bind ?_ (fun _ => ?_)
theorem laws_toStringS.mono : ∀ a0 k, LeO (laws_toStringS.f k a0) (laws_toStringS.f (k + 1) a0) := by
  intro a0 k
  have ih0 := laws_toStringS.mono_l k
  unfold laws_toStringS.f
  repeat' first
      | (with_reducible exact ih0 _ _ _)
      | (with_reducible exact LeO.refl _)
      | (with_reducible exact LeO.none _)
      | (with_reducible refine LeO.ite ?_ ?_)
      | (with_reducible refine LeO.bind ?_ (fun _ => ?_))
      | exact ih0 _ _ _
      | exact LeO.none _
      | refine LeO.ite ?_ ?_
      | refine LeO.bind ?_ (fun _ => ?_)
set_option maxHeartbeats 8000000 in
set_option maxRecDepth 100000 in
theorem laws_toStringS.calls (k : Nat) (A0 : Option Addr) (c0 : Nat) (l0 : List ByteArray) (r : List ByteArray) (w : World) (hr0 : Kd.C Kd.string w A0 l0.length l0) (hc0 : l0.length ≤ c0) (h : laws_toStringS.f k l0 = some r) :
    Calls Try.prog 36 #[.slice A0 l0.length c0] w fun e w' => ∃ v0_ : Value, e = .returned (v0_) ∧ Kd.R Kd.string 9 w' w.heap.size (fun _ => True) v0_ r ∧ Below w.heap.size w w' := by
  have HR0 := qo hr0
  have HC0 := qo hc0
  clear hr0 hc0
  have HB := qo (Below.refl w.heap.size w)
  have H : (if 0 ≤ (l0.length : Int) then (if ((l0.length : Int) : Int).toNat ≤ 17592186044416 then (laws_toStringS.l0 k l0 (List.replicate ((l0.length : Int) : Int).toNat (⟨#[]⟩ : ByteArray)) 0) else (none)) else (none)) = some r := h
  clear h
  by_cases c2 : 0 ≤ (l0.length : Int)
  · rw [if_pos c2] at H
    have c2b0 := eq_true c2
    have c2b1 : decide (0 ≤ (l0.length : Int)) = true := decide_eq_true c2
    clear c2
    by_cases c3 : ((l0.length : Int) : Int).toNat ≤ 17592186044416
    · rw [if_pos c3] at H
      have c3b0 := eq_true c3
      have c3b1 : decide (((l0.length : Int) : Int).toNat ≤ 17592186044416) = true := decide_eq_true c3
      clear c3
      obtain ⟨y218, hy218⟩ : ∃ y_ : List ByteArray, y_ = (List.replicate ((l0.length : Int) : Int).toNat (⟨#[]⟩ : ByteArray)) := ⟨_, rfl⟩
      replace H : (laws_toStringS.l0 k l0 y218 0) = some r := by first | (rw [hy218]; with_reducible exact H) | (have H2_ := (Option.bind_some _ _).symm.trans H; rw [hy218]; with_reducible exact H2_) | (have H2_ := (Option.bind_some _ _).symm.trans H; with_reducible exact H2_) | with_reducible exact H | (rw [hy218]; exact H) | exact H
      have Ny218 := qo hy218
      clear hy218
      have H' := qo H
      clear H
      go_enter Try.func36, Try.ntmps36
      go_wp2_with (first | ((with_reducible refine gate_dst (N := 7) rfl ?_); refine Kd.R_make Kd.string _ 9 rfl (N := 7) rfl 30 _ _ rfl (l0.length : Int) rfl rfl Try.underlying30 (.string ⟨#[]⟩) 16 info9 rfl za7 zck (⟨#[]⟩ : ByteArray) (ok := fun _ => True) (okp := fun _ => True) rfl (fun _ hk => hk) trivial (of_decide_eq_true zb) (Nat.le_trans (Nat.mul_le_mul_right _ (of_decide_eq_true zb : (l0.length : Int).toNat ≤ 17592186044416)) zck) (Below.refl _ _) (Nat.le_refl _) ?_; intro v219 w4 ho5 hb hg_ hnew_; clear hg_ hnew_; (first | rw [← Ny218.out] at ho5 | (simp only [Int.reduceToNat] at ho5; rw [← Ny218.out] at ho5)); have n0_ := qo (Kd.R_lower ho5 (qp za)); have n1_ := qo (qq za hb); clear HB; have HO220 := n0_; have HB := n1_; clear n0_ n1_; clear hb ho5))
      go_loopg [4] k (fun kq v4 w' => ∃ (x3_1 : List ByteArray) (x4_1 : Int), v4 = .int .i64 x4_1 ∧ Aside0 (laws_toStringS.l0 kq l0 x3_1 x4_1 = some r) ∧ Aside0 (kq ≤ k) ∧ Aside0 (Kd.R Kd.string 9 w' w.heap.size (fun _ => True) v219 x3_1) ∧ Aside0 (Below w.heap.size w w'))
      case atStart => exact ⟨(y218), (0), zc, H', ⟨Nat.le_refl _⟩, ⟨by (with_reducible repeat (first | apply Kd.R_alloc | apply Kd.R_drewN | apply Kd.R_drew)); exact HO220.out⟩, ⟨za⟩⟩
      case round =>
        clear H'
        (try clear c2); (try clear c2b0); (try clear c2b1); (try clear p2); (try clear c3); (try clear c3b0); (try clear c3b1)
        obtain ⟨x3_1, x4_1, rfl, HA, HK1, HO_3, HB⟩ := hrel
        cases gk with
        | zero => exact absurd HA.out (by simp [laws_toStringS.l0])
        | succ k1 =>
          have H := HA.out
          clear HA
          simp only [laws_toStringS.l0] at H
          by_cases c6 : x4_1 < (l0.length : Int)
          · rw [if_pos c6] at H
            have c6b0 : decide (x4_1 < (l0.length : Int)) = true := decide_eq_true c6
            clear c6
            by_cases c7 : 0 ≤ x4_1
            · rw [if_pos c7] at H
              have c7b0 : decide (0 ≤ x4_1) = true := decide_eq_true c7
              clear c7
              by_cases c8 : x4_1 < (x3_1.length : Int)
              · rw [if_pos c8] at H
                have c8b0 : decide (x4_1 < (x3_1.length : Int)) = true := decide_eq_true c8
                clear c8
                obtain ⟨y222, hy222⟩ : ∃ y_ : List ByteArray, y_ = (x3_1.set (x4_1 : Int).toNat (rdOf ByteArray.empty l0 x4_1)) := ⟨_, rfl⟩
                replace H : (laws_toStringS.l0 k1 l0 y222 (wrap64 (x4_1 + 1))) = some r := by first | (rw [hy222]; with_reducible exact H) | (have H2_ := (Option.bind_some _ _).symm.trans H; rw [hy222]; with_reducible exact H2_) | (have H2_ := (Option.bind_some _ _).symm.trans H; with_reducible exact H2_) | with_reducible exact H | (rw [hy222]; exact H) | exact H
                have Ny222 := qo hy222
                clear hy222
                have H' := qo H
                clear H
                have p221 : 0 ≤ (x4_1 : Int) := of_decide_eq_true zb
                have q221 : x4_1 < (l0.length : Int) := of_decide_eq_true zb
                obtain ⟨ad221, e221, hx221_0⟩ := Kd.at_string HR0.out x4_1 p221 q221
                cases e221
                replace hx221_0 := (HB.out.cell (World.block_lt_of_cell? w _ hx221_0)).trans hx221_0
                replace p221 := eq_true p221
                replace q221 := eq_true q221
                have p9 : 0 ≤ (x4_1 : Int) := of_decide_eq_true zb
                have q9 : (x4_1 : Int) < ((x3_1.length : Int) : Int) := of_decide_eq_true zb
                obtain ⟨go9, co9, eo9, gb9, gl9, cl9, HG9⟩ := Kd.R_form HO_3.out zck
                (first | cases eo9 | (injection eo9 with ea_ en_ ec_; (first | subst ea_ | (injection ea_ with ea_; subst ea_)); subst ec_; clear en_))
                have GB9 := qo gb9
                have GG9 := qo HG9
                clear gb9 gl9 HG9
                obtain ⟨hx9_0, hf9_0⟩ := Kd.R_celln (⟨#[]⟩ : ByteArray) HO_3.out (x4_1 : Int) p9 q9
                replace p9 := eq_true p9
                replace q9 := eq_true q9
                have HP10 := Kd.R_putg HO_3.out (x4_1 : Int) (rdOf ByteArray.empty l0 x4_1)
                go_wp2_with (first | ((with_reducible refine gate_store (t := 9) (p := 20) rfl ?_); refine store_event (t := 9) (p := 20) (v := ?vo_w11) (w1 := (wr.setCell ⟨go9, (x4_1 : Int).toNat, none⟩ (.string (rdOf ByteArray.empty l0 x4_1)))) ?hg ?ho ?hn ?hr ?_; (case ho => rfl); (case hg => rfl); (case hn => rfl); (case hr => first | (go_simp; done) | (go_simp; rfl)); intro w11 hw; have hg : wr.grownBy w11 (some go9) := (by rw [hw]; exact HP10.2); have hp_ : Kd.R Kd.string 9 w11 w.heap.size (fun _ => True) (.slice (some ⟨go9, 0, none⟩) x3_1.length co9) y222 := (by rw [hw, Ny222.out]; exact HP10.1); clear HP10; have n0_ := qo (hp_); have n1_ := qo ((by rw [hw]; exact qt (HB.out) GB9.out : Below w.heap.size w w11)); clear HO_3; clear HB; have HO_3 := n0_; have HB := n1_; clear n0_ n1_; clear hg hw hp_))
                go_roundg k1
                case measure => have := HK1.out; omega
                case rel => exact ⟨(y222), (wrap64 (x4_1 + 1)), zc, H', ⟨zb9⟩, ⟨zs⟩, ⟨za⟩⟩
              · rw [if_neg c8] at H
                exact absurd H zbh
            · rw [if_neg c7] at H
              exact absurd H zbh
          · rw [if_neg c6] at H
            have c6b0 : decide (x4_1 < (l0.length : Int)) = false := decide_eq_false c6
            clear c6
            obtain rfl := Option.some.inj H
            go_wp2
            go_ret
            exact ⟨_, zd, zs, za⟩
    · rw [if_neg c3] at H
      exact absurd H zbh
  · rw [if_neg c2] at H
    exact absurd H zbh

/-! ### laws_toPut: function 67 -/
def laws_toPut.f (a0_0 : Int) (a0_1 : ByteArray) : Option (Int × ByteArray) := some (a0_0, a0_1)
set_option maxHeartbeats 8000000 in
set_option maxRecDepth 100000 in
theorem laws_toPut.calls (a0_0 : Int) (a0_1 : ByteArray) (r1 : Int) (r2 : ByteArray) (w : World) (h : laws_toPut.f a0_0 a0_1 = some (r1, r2)) :
    Calls Try.prog 67 #[.agg #[.int .i64 a0_0, .string a0_1]] w fun e w' => e = .returned (.agg #[.int .i64 r1, .string r2]) ∧ Below w.heap.size w w' := by
  have hu96 := Try.underlying96
  have hu83 := Try.underlying83
  have HB := qo (Below.refl w.heap.size w)
  have H : (some (a0_0, a0_1)) = some (r1, r2) := h
  clear h
  simp only [Option.some.injEq, Prod.mk.injEq] at H
  obtain ⟨rfl, rfl⟩ := H
  go_enter Try.func67, Try.ntmps67
  go_wp2_with (first | ((with_reducible refine gate_dst (N := 1) rfl ?_); refine box_event ?hg (N := 1) ?hd (cs := #[.int .i64 a0_0, .string a0_1]) (t := 96) ?hr ?_; (case hd => rfl); (case hg => rfl); (case hr => first | (go_simp; done) | (go_simp; rfl)); intro gb223 hg w2 hbox hb; have n0_ := qo (qq za hb); have n1_ := qo (hbox); have n2_ := qo ((zcn : w.heap.size ≤ gb223)); have n3_ := qo ((zcn : w.heap.size ≤ gb223)); clear HB; have HB := n0_; have BK223 := n1_; have GW223 := n2_; have GE223 := n3_; clear n0_ n1_ n2_ n3_; clear hb hbox hg) | ((with_reducible refine gate_dst (N := 2) rfl ?_); refine box_event ?hg (N := 2) ?hd (cs := #[.int .i64 0, .string (⟨#[]⟩ : ByteArray)]) (t := 83) ?hr ?_; (case hd => rfl); (case hg => rfl); (case hr => first | (go_simp; done) | (go_simp; rfl)); intro gb224 hg w3 hbox hb; have n0_ := qo (qr (g := gb223) (o := .cells #[.int .i64 a0_0, .string a0_1] 96 (0, 0)) zbc hb); have n1_ := qo (qq zbx hb); have n2_ := qo (hbox); have n3_ := qo ((by rw [hg]; exact (qp zbx) : w.heap.size ≤ gb224)); have n4_ := qo ((by rw [hg]; exact (qp zbx) : w.heap.size ≤ gb224)); have n5_ := qo ((by rw [hg]; exact Nat.ne_of_lt (blk_lt (g := gb223) (o := .cells #[.int .i64 a0_0, .string a0_1] 96 (0, 0)) zbc) : gb223 ≠ gb224)); have n6_ := qo ((by rw [hg]; exact Nat.ne_of_gt (blk_lt (g := gb223) (o := .cells #[.int .i64 a0_0, .string a0_1] 96 (0, 0)) zbc) : gb224 ≠ gb223)); clear BK223; clear HB; have BK223 := n0_; have HB := n1_; have BK224 := n2_; have GW224 := n3_; have GE224 := n4_; have NB223_224 := n5_; have NB224_223 := n6_; clear n0_ n1_ n2_ n3_ n4_ n5_ n6_; clear hb hbox hg) | ((with_reducible refine gate_dst (N := 3) rfl ?_); refine box_event ?hg (N := 3) ?hd (cs := #[.int .i64 0, .string (⟨#[]⟩ : ByteArray)]) (t := 83) ?hr ?_; (case hd => rfl); (case hg => rfl); (case hr => first | (go_simp; done) | (go_simp; rfl)); intro gb225 hg w4 hbox hb; have n0_ := qo (qr (g := gb223) (o := .cells #[.int .i64 a0_0, .string a0_1] 96 (0, 0)) zbc hb); have n1_ := qo (qr (g := gb224) (o := .cells #[.int .i64 0, .string (⟨#[]⟩ : ByteArray)] 83 (0, 0)) zcd hb); have n2_ := qo (qq zbk hb); have n3_ := qo (hbox); have n4_ := qo ((by rw [hg]; exact (qp zbk) : w.heap.size ≤ gb225)); have n5_ := qo ((by rw [hg]; exact (qp zbk) : w.heap.size ≤ gb225)); have n6_ := qo ((by rw [hg]; exact Nat.ne_of_lt (blk_lt (g := gb223) (o := .cells #[.int .i64 a0_0, .string a0_1] 96 (0, 0)) zbc) : gb223 ≠ gb225)); have n7_ := qo ((by rw [hg]; exact Nat.ne_of_gt (blk_lt (g := gb223) (o := .cells #[.int .i64 a0_0, .string a0_1] 96 (0, 0)) zbc) : gb225 ≠ gb223)); have n8_ := qo ((by rw [hg]; exact Nat.ne_of_lt (blk_lt (g := gb224) (o := .cells #[.int .i64 0, .string (⟨#[]⟩ : ByteArray)] 83 (0, 0)) zcd) : gb224 ≠ gb225)); have n9_ := qo ((by rw [hg]; exact Nat.ne_of_gt (blk_lt (g := gb224) (o := .cells #[.int .i64 0, .string (⟨#[]⟩ : ByteArray)] 83 (0, 0)) zcd) : gb225 ≠ gb224)); clear BK223; clear BK224; clear HB; have BK223 := n0_; have BK224 := n1_; have HB := n2_; have BK225 := n3_; have GW225 := n4_; have GE225 := n5_; have NB223_225 := n6_; have NB225_223 := n7_; have NB224_225 := n8_; have NB225_224 := n9_; clear n0_ n1_ n2_ n3_ n4_ n5_ n6_ n7_ n8_ n9_; clear hb hbox hg; have hnb5 := NB223_224.out; have hnc5 := NB224_223.out; have hnb6 := NB223_225.out; have hnc6 := NB225_223.out; have hcz7_0 : w4.cell? ⟨gb223, 0, none⟩ = some (.int .i64 a0_0) := (qs BK223.out 0).trans rfl; have hcz7_1 : w4.cell? ⟨gb223, 1, none⟩ = some (.string a0_1) := (qs BK223.out 1).trans rfl; have hfz7_0 := qu BK223.out 0; have hfz7_1 := qu BK223.out 1; have hnb8 := NB225_224.out; have hnc8 := NB224_225.out; have hcz9_0 : w4.cell? ⟨gb225, 0, none⟩ = some (.int .i64 0) := (qs BK225.out 0).trans rfl; have hcz9_1 : w4.cell? ⟨gb225, 1, none⟩ = some (.string (⟨#[]⟩ : ByteArray)) := (qs BK225.out 1).trans rfl; have hfz9_0 := qu BK225.out 0; have hfz9_1 := qu BK225.out 1; have hcz10_0 : w4.cell? ⟨gb224, 0, none⟩ = some (.int .i64 0) := (qs BK224.out 0).trans rfl; have hcz10_1 : w4.cell? ⟨gb224, 1, none⟩ = some (.string (⟨#[]⟩ : ByteArray)) := (qs BK224.out 1).trans rfl; have hfz10_0 := qu BK224.out 0; have hfz10_1 := qu BK224.out 1))
  refine bodyPost_ret (results_cell_row rfl _ _ gb224 83 #[.int .i64 a0_0, .string a0_1] (0, 0) _ rfl (by (with_reducible repeat (first | refine qi ?_ _ | refine qj ?_ | refine qk ?_ _)); refine blk_put (cs := #[.int .i64 a0_0, .string (⟨#[]⟩ : ByteArray)]) ?_ 1 _ rfl; (with_reducible repeat (first | refine qi ?_ _ | refine qj ?_ | refine qk ?_ _)); refine blk_put (cs := #[.int .i64 0, .string (⟨#[]⟩ : ByteArray)]) ?_ 0 _ rfl; (with_reducible repeat (first | refine qi ?_ _ | refine qj ?_ | refine qk ?_ _)); refine blk_far ?_ NB224_225.out _; (with_reducible repeat (first | refine qi ?_ _ | refine qj ?_ | refine qk ?_ _)); refine blk_far ?_ NB224_225.out _; (with_reducible repeat (first | refine qi ?_ _ | refine qj ?_ | refine qk ?_ _)); exact BK224.out) Try.underlying83 rfl ze) rfl ?_
  exact ⟨zd, by repeat (first | (with_reducible first | exact HB.out | apply ql | apply qm | apply qn | refine qt ?_ GE223.out | refine qt ?_ GE224.out | refine qt ?_ GE225.out) | exact HB.out)⟩

/-! ### laws_toPutS: function 37 -/
def laws_toPutS.l0 : Nat → List (S96) → List (S83) → Int → Option ((List (S83)))
  | 0, _, _, _ => none
  | k + 1, x0, x3, x4 => if x4 < (x0.length : Int) then (if 0 ≤ x4 then ((laws_toPut.f ((rd_T96 x0 x4).f0) ((rd_T96 x0 x4).f1)).bind fun bt230 => (if x4 < (x3.length : Int) then (laws_toPutS.l0 k x0 (x3.set (x4 : Int).toNat (⟨bt230.1, bt230.2⟩ : S83)) (wrap64 (x4 + 1))) else (none))) else (none)) else (some x3)
def laws_toPutS.f (k : Nat) (l0 : List (S96)) : Option ((List (S83))) := if 0 ≤ (l0.length : Int) then (if ((l0.length : Int) : Int).toNat ≤ 11728124029610 then (laws_toPutS.l0 k l0 (List.replicate ((l0.length : Int) : Int).toNat z83) 0) else (none)) else (none)
theorem laws_toPutS.mono_l : ∀ k, (∀ y0 y1 y2, LeO (laws_toPutS.l0 k y0 y1 y2) (laws_toPutS.l0 (k + 1) y0 y1 y2))
  | 0 => fun _ _ _ r h => by simp [laws_toPutS.l0] at h
  | k + 1 => by
    have ih0 := laws_toPutS.mono_l k
    · intro y0 y1 y2
      unfold laws_toPutS.l0
      repeat' first
      | (with_reducible exact ih0 _ _ _)
      | (with_reducible exact LeO.refl _)
      | (with_reducible exact LeO.none _)
      | (with_reducible refine LeO.ite ?_ ?_)
      | (with_reducible refine LeO.bind ?_ (fun _ => ?_))
      | exact ih0 _ _ _
      | exact LeO.none _
      | refine LeO.ite ?_ ?_
      | refine LeO.bind ?_ (fun _ => ?_)
theorem laws_toPutS.mono : ∀ a0 k, LeO (laws_toPutS.f k a0) (laws_toPutS.f (k + 1) a0) := by
  intro a0 k
  have ih0 := laws_toPutS.mono_l k
  unfold laws_toPutS.f
  repeat' first
      | (with_reducible exact ih0 _ _ _)
      | (with_reducible exact LeO.refl _)
      | (with_reducible exact LeO.none _)
      | (with_reducible refine LeO.ite ?_ ?_)
      | (with_reducible refine LeO.bind ?_ (fun _ => ?_))
      | exact ih0 _ _ _
      | exact LeO.none _
      | refine LeO.ite ?_ ?_
      | refine LeO.bind ?_ (fun _ => ?_)
set_option maxHeartbeats 8000000 in
set_option maxRecDepth 100000 in
theorem laws_toPutS.calls (k : Nat) (A0 : Option Addr) (c0 : Nat) (l0 : List (S96)) (r : List (S83)) (w : World) (hr0 : Kd.C k96 w A0 l0.length l0) (hc0 : l0.length ≤ c0) (h : laws_toPutS.f k l0 = some r) :
    Calls Try.prog 37 #[.slice A0 l0.length c0] w fun e w' => ∃ v0_ : Value, e = .returned (v0_) ∧ Kd.R k83 83 w' w.heap.size (fun _ => True) v0_ r ∧ Below w.heap.size w w' := by
  have hu96 := Try.underlying96
  have hu83 := Try.underlying83
  have HR0 := qo hr0
  have HC0 := qo hc0
  clear hr0 hc0
  have HB := qo (Below.refl w.heap.size w)
  have H : (if 0 ≤ (l0.length : Int) then (if ((l0.length : Int) : Int).toNat ≤ 11728124029610 then (laws_toPutS.l0 k l0 (List.replicate ((l0.length : Int) : Int).toNat z83) 0) else (none)) else (none)) = some r := h
  clear h
  by_cases c2 : 0 ≤ (l0.length : Int)
  · rw [if_pos c2] at H
    have c2b0 := eq_true c2
    have c2b1 : decide (0 ≤ (l0.length : Int)) = true := decide_eq_true c2
    clear c2
    by_cases c3 : ((l0.length : Int) : Int).toNat ≤ 11728124029610
    · rw [if_pos c3] at H
      have c3b0 := eq_true c3
      have c3b1 : decide (((l0.length : Int) : Int).toNat ≤ 11728124029610) = true := decide_eq_true c3
      clear c3
      obtain ⟨y226, hy226⟩ : ∃ y_ : List (S83), y_ = (List.replicate ((l0.length : Int) : Int).toNat z83) := ⟨_, rfl⟩
      replace H : (laws_toPutS.l0 k l0 y226 0) = some r := by first | (rw [hy226]; with_reducible exact H) | (have H2_ := (Option.bind_some _ _).symm.trans H; rw [hy226]; with_reducible exact H2_) | (have H2_ := (Option.bind_some _ _).symm.trans H; with_reducible exact H2_) | with_reducible exact H | (rw [hy226]; exact H) | exact H
      have Ny226 := qo hy226
      clear hy226
      have H' := qo H
      clear H
      go_enter Try.func37, Try.ntmps37
      go_wp2_with (first | ((with_reducible refine gate_dst (N := 7) rfl ?_); refine Kd.R_make k83 _ 83 rfl (N := 7) rfl 36 _ _ rfl (l0.length : Int) rfl rfl Try.underlying36 (.agg #[(.int .i64 0), (.string ⟨#[]⟩)]) 24 info83 rfl za7 zck z83 (ok := fun _ => True) (okp := fun _ => True) (k83_mkM _ _ _ z83 ) (fun _ hk => hk) trivial (of_decide_eq_true zb) (Nat.le_trans (Nat.mul_le_mul_right _ (of_decide_eq_true zb : (l0.length : Int).toNat ≤ 11728124029610)) zck) (Below.refl _ _) (Nat.le_refl _) ?_; intro v227 w4 ho5 hb hg_ hnew_; clear hg_ hnew_; (first | rw [← Ny226.out] at ho5 | (simp only [Int.reduceToNat] at ho5; rw [← Ny226.out] at ho5)); have n0_ := qo (Kd.R_lower ho5 (qp za)); have n1_ := qo (qq za hb); clear HB; have HO228 := n0_; have HB := n1_; clear n0_ n1_; clear hb ho5))
      go_loopg [4] k (fun kq v4 w' => ∃ (x3_1 : List (S83)) (x4_1 : Int), v4 = .int .i64 x4_1 ∧ Aside0 (laws_toPutS.l0 kq l0 x3_1 x4_1 = some r) ∧ Aside0 (kq ≤ k) ∧ Aside0 (Kd.R k83 83 w' w.heap.size (fun _ => True) v227 x3_1) ∧ Aside0 (Below w.heap.size w w'))
      case atStart => exact ⟨(y226), (0), zc, H', ⟨Nat.le_refl _⟩, ⟨by (with_reducible repeat (first | apply Kd.R_alloc | apply Kd.R_drewN | apply Kd.R_drew)); exact HO228.out⟩, ⟨za⟩⟩
      case round =>
        clear H'
        (try clear c2); (try clear c2b0); (try clear c2b1); (try clear p2); (try clear c3); (try clear c3b0); (try clear c3b1)
        obtain ⟨x3_1, x4_1, rfl, HA, HK1, HO_3, HB⟩ := hrel
        cases gk with
        | zero => exact absurd HA.out (by simp [laws_toPutS.l0])
        | succ k1 =>
          have H := HA.out
          clear HA
          simp only [laws_toPutS.l0] at H
          by_cases c6 : x4_1 < (l0.length : Int)
          · rw [if_pos c6] at H
            have c6b0 : decide (x4_1 < (l0.length : Int)) = true := decide_eq_true c6
            clear c6
            by_cases c7 : 0 ≤ x4_1
            · rw [if_pos c7] at H
              have c7b0 : decide (0 ≤ x4_1) = true := decide_eq_true c7
              clear c7
              replace H := Option.bind_eq_some_iff.mp H
              obtain ⟨⟨t230, t231⟩, A80, H⟩ := H
              replace H : (if x4_1 < (x3_1.length : Int) then (laws_toPutS.l0 k1 l0 (x3_1.set (x4_1 : Int).toNat (⟨t230, t231⟩ : S83)) (wrap64 (x4_1 + 1))) else (none)) = some r := H
              have A8 := qo A80
              clear A80
              by_cases c9 : x4_1 < (x3_1.length : Int)
              · rw [if_pos c9] at H
                have c9b0 : decide (x4_1 < (x3_1.length : Int)) = true := decide_eq_true c9
                clear c9
                obtain ⟨y232, hy232⟩ : ∃ y_ : List (S83), y_ = (x3_1.set (x4_1 : Int).toNat (⟨t230, t231⟩ : S83)) := ⟨_, rfl⟩
                replace H : (laws_toPutS.l0 k1 l0 y232 (wrap64 (x4_1 + 1))) = some r := by first | (rw [hy232]; with_reducible exact H) | (have H2_ := (Option.bind_some _ _).symm.trans H; rw [hy232]; with_reducible exact H2_) | (have H2_ := (Option.bind_some _ _).symm.trans H; with_reducible exact H2_) | with_reducible exact H | (rw [hy232]; exact H) | exact H
                have Ny232 := qo hy232
                clear hy232
                have H' := qo H
                clear H
                have p229 : 0 ≤ (x4_1 : Int) := of_decide_eq_true zb
                have q229 : x4_1 < (l0.length : Int) := of_decide_eq_true zb
                obtain ⟨ad229, e229, hx229_0, hx229_1⟩ := at_T96 HR0.out x4_1 p229 q229
                cases e229
                replace hx229_0 := (HB.out.cell (World.block_lt_of_cell? w _ hx229_0)).trans hx229_0
                replace hx229_1 := (HB.out.cell (World.block_lt_of_cell? w _ hx229_1)).trans hx229_1
                replace p229 := eq_true p229
                replace q229 := eq_true q229
                go_wp2_with (first | ((with_reducible refine gate_callee (f := 67) rfl ?_); refine goesL_ (some 20) rfl rfl Try.func67 ze rfl #[.agg #[.int .i64 ((rd_T96 l0 x4_1).f0), .string ((rd_T96 l0 x4_1).f1)]] rfl zcm ?_; (with_reducible refine (laws_toPut.calls ((rd_T96 l0 x4_1).f0) ((rd_T96 l0 x4_1).f1) t230 t231 _ A8.out).mono ?_); rintro e w11 ⟨rfl, hb⟩; refine ⟨_, rfl, ?_⟩; have n0_ := qo (Kd.R_below zs hb); have n1_ := qo (qq za hb); clear HO_3; clear HB; have HO_3 := n0_; have HB := n1_; clear n0_ n1_; (try clear hb); (try clear hb2); (try clear hk); (try clear hi); have p10 : 0 ≤ (x4_1 : Int) := of_decide_eq_true zb; have q10 : (x4_1 : Int) < ((x3_1.length : Int) : Int) := of_decide_eq_true zb; obtain ⟨go10, co10, eo10, gb10, gl10, cl10, HG10⟩ := Kd.R_form HO_3.out zck; (first | cases eo10 | (injection eo10 with ea_ en_ ec_; (first | subst ea_ | (injection ea_ with ea_; subst ea_)); subst ec_; clear en_)); have GB10 := qo gb10; have GG10 := qo HG10; clear gb10 gl10 HG10; obtain ⟨ce10, hcl10, hM10, hcc10, hfr10⟩ := Kd.R_elem HO_3.out z83 (x4_1 : Int) p10 q10; obtain rfl := k83_openM hM10; have hx10_0 : w11.cell? ⟨go10, (x4_1 : Int).toNat * 2, none⟩ = some (.int .i64 ((rd_T83 x3_1 x4_1).f0)) := hcc10 0 _ rfl; have hx10_1 : w11.cell? ⟨go10, (x4_1 : Int).toNat * 2 + 1, none⟩ = some (.string ((rd_T83 x3_1 x4_1).f1)) := hcc10 1 _ rfl; have hf10_0 : w11.frozen? ⟨go10, (x4_1 : Int).toNat * 2, none⟩ = false := hfr10 0; have hf10_1 : w11.frozen? ⟨go10, (x4_1 : Int).toNat * 2 + 1, none⟩ = false := hfr10 1; clear hcl10 hcc10 hfr10 hM10; replace p10 := eq_true p10; replace q10 := eq_true q10; have HX12 := qo (show Kd.R k83 83 w11 w.heap.size (fun _ => True) (.slice (some ⟨go10, 0, none⟩) x3_1.length co10) x3_1 from zs); obtain ⟨ce12, hcl12, hM12, hcc12, hfr12⟩ := Kd.R_elem HX12.out z83 (x4_1 : Int) (of_decide_eq_true zb) (by have h_ : (x4_1 : Int) < ((x3_1.length : Int) : Int) := of_decide_eq_true zb; first | exact h_ | (have e_ := (Kd.R_reads' HO_3.out).1; omega) | simpa using h_); obtain rfl := k83_openM hM12; have HP12 := Kd.R_seg HX12.out (x4_1 : Int) (of_decide_eq_true zb) (by have h_ : (x4_1 : Int) < ((x3_1.length : Int) : Int) := of_decide_eq_true zb; first | exact h_ | (have e_ := (Kd.R_reads' HO_3.out).1; omega) | simpa using h_) (seg := [.int .i64 t230, .string t231]) (j := 0) hcl12 hcc12 (show 2 ≤ 2 from by decide) (x' := (⟨t230, t231⟩ : S83)) (k83_mkM _ _ _ (⟨t230, t231⟩ : S83) ) (fun _ hk => hk); have hx12_0 := hcc12 0 _ rfl; (try simp only [show (k83).sz = 2 from rfl, Nat.mul_one, Nat.add_zero] at hx12_0); have hf12_0 := hfr12 0; (try simp only [show (k83).sz = 2 from rfl, Nat.mul_one, Nat.add_zero] at hf12_0); have hx12_1 := hcc12 1 _ rfl; (try simp only [show (k83).sz = 2 from rfl, Nat.mul_one, Nat.add_zero] at hx12_1); have hf12_1 := hfr12 1; (try simp only [show (k83).sz = 2 from rfl, Nat.mul_one, Nat.add_zero] at hf12_1); clear hcl12 hcc12 hfr12 hM12) | ((with_reducible refine gate_store (t := 83) (p := 21) rfl ?_); refine store_event (t := 83) (p := 21) (v := ?vo_w13) (w1 := ((w11.setCell ⟨go10, (x4_1 : Int).toNat * 2, none⟩ (.int .i64 t230)).setCell ⟨go10, (x4_1 : Int).toNat * 2 + 1, none⟩ (.string t231))) ?hg ?ho ?hn ?hr ?_; (case ho => rfl); (case hg => rfl); (case hn => rfl); (case hr => first | (go_simp; done) | (go_simp; rfl)); intro w13 hw; have hg : w11.grownBy w13 (some go10) := (by rw [hw]; exact HP12.2); have hp_ : Kd.R k83 83 w13 w.heap.size (fun _ => True) (.slice (some ⟨go10, 0, none⟩) x3_1.length co10) y232 := (by rw [hw, Ny232.out]; exact HP12.1); clear HP12; have n0_ := qo (hp_); have n1_ := qo ((by rw [hw]; exact qt (qt (HB.out) GB10.out) GB10.out : Below w.heap.size w w13)); clear HO_3; clear HB; have HO_3 := n0_; have HB := n1_; clear n0_ n1_; clear hg hw hp_))
                go_roundg k1
                case measure => have := HK1.out; omega
                case rel => exact ⟨(y232), (wrap64 (x4_1 + 1)), zc, H', ⟨zb9⟩, ⟨zs⟩, ⟨za⟩⟩
              · rw [if_neg c9] at H
                exact absurd H zbh
            · rw [if_neg c7] at H
              exact absurd H zbh
          · rw [if_neg c6] at H
            have c6b0 : decide (x4_1 < (l0.length : Int)) = false := decide_eq_false c6
            clear c6
            obtain rfl := Option.some.inj H
            go_wp2
            go_ret
            exact ⟨_, zd, zs, za⟩
    · rw [if_neg c3] at H
      exact absurd H zbh
  · rw [if_neg c2] at H
    exact absurd H zbh

/-! ### laws_toDisk: function 13 -/
def laws_toDisk.f (k : Nat) (l0_0 : List ByteArray) (l0_1 : List (S96)) : Option (List ByteArray × (List (S83))) := (laws_toStringS.f k l0_0).bind fun t236 => ((laws_toPutS.f k l0_1).bind fun t239 => (some (t236, t239)))
theorem laws_toDisk.mono : ∀ a0 a1 k, LeO (laws_toDisk.f k a0 a1) (laws_toDisk.f (k + 1) a0 a1) := by
  intro a0 a1 k
  unfold laws_toDisk.f
  repeat' first
      | (with_reducible exact laws_toPutS.mono _ _)
      | (with_reducible exact laws_toStringS.mono _ _)
      | (with_reducible exact LeO.refl _)
      | (with_reducible exact LeO.none _)
      | (with_reducible refine LeO.ite ?_ ?_)
      | (with_reducible refine LeO.bind ?_ (fun _ => ?_))
      | exact laws_toPutS.mono _ _
      | exact laws_toStringS.mono _ _
      | exact LeO.none _
      | refine LeO.ite ?_ ?_
      | refine LeO.bind ?_ (fun _ => ?_)
set_option maxHeartbeats 8000000 in
set_option maxRecDepth 100000 in
theorem laws_toDisk.calls (k : Nat) (A0_0 : Option Addr) (c0_0 : Nat) (l0_0 : List ByteArray) (A0_1 : Option Addr) (c0_1 : Nat) (l0_1 : List (S96)) (r1 : List ByteArray) (r2 : List (S83)) (w : World) (hr0_0 : Kd.C Kd.string w A0_0 l0_0.length l0_0) (hc0_0 : l0_0.length ≤ c0_0) (hr0_1 : Kd.C k96 w A0_1 l0_1.length l0_1) (hc0_1 : l0_1.length ≤ c0_1) (h : laws_toDisk.f k l0_0 l0_1 = some (r1, r2)) :
    Calls Try.prog 13 #[.agg #[.slice A0_0 l0_0.length c0_0, .slice A0_1 l0_1.length c0_1]] w fun e w' => ∃ v0_ v1_ : Value, e = .returned (.agg #[v0_, v1_]) ∧ Kd.R Kd.string 9 w' w.heap.size (fun _ => True) v0_ r1 ∧ Kd.R k83 83 w' w.heap.size (fun _ => True) v1_ r2 ∧ Below w.heap.size w w' := by
  have hu33 := Try.underlying33
  have hu38 := Try.underlying38
  have HR0_0 := qo hr0_0
  have HC0_0 := qo hc0_0
  clear hr0_0 hc0_0
  have HR0_1 := qo hr0_1
  have HC0_1 := qo hc0_1
  clear hr0_1 hc0_1
  have HB := qo (Below.refl w.heap.size w)
  have H : ((laws_toStringS.f k l0_0).bind fun t236 => ((laws_toPutS.f k l0_1).bind fun t239 => (some (t236, t239)))) = some (r1, r2) := h
  clear h
  replace H := Option.bind_eq_some_iff.mp H
  obtain ⟨t236, A20, H⟩ := H
  replace H : ((laws_toPutS.f k l0_1).bind fun t239 => (some (t236, t239))) = some (r1, r2) := H
  have A2 := qo A20
  clear A20
  replace H := Option.bind_eq_some_iff.mp H
  obtain ⟨t239, A30, H⟩ := H
  replace H : (some (t236, t239)) = some (r1, r2) := H
  have A3 := qo A30
  clear A30
  simp only [Option.some.injEq, Prod.mk.injEq] at H
  obtain ⟨rfl, rfl⟩ := H
  go_enter Try.func13, Try.ntmps13
  go_wp2_with (first | ((with_reducible refine gate_dst (N := 1) rfl ?_); refine box_event ?hg (N := 1) ?hd (cs := #[.slice A0_0 l0_0.length c0_0, .slice A0_1 l0_1.length c0_1]) (t := 33) ?hr ?_; (case hd => rfl); (case hg => rfl); (case hr => first | (go_simp; done) | (go_simp; rfl)); intro gb233 hg w4 hbox hb; have n0_ := qo (qq za hb); have n1_ := qo (hbox); have n2_ := qo ((zcn : w.heap.size ≤ gb233)); have n3_ := qo ((zcn : w.heap.size ≤ gb233)); clear HB; have HB := n0_; have BK233 := n1_; have GW233 := n2_; have GE233 := n3_; clear n0_ n1_ n2_ n3_; clear hb hbox hg) | ((with_reducible refine gate_dst (N := 2) rfl ?_); refine box_event ?hg (N := 2) ?hd (cs := #[.slice none 0 0, .slice none 0 0]) (t := 38) ?hr ?_; (case hd => rfl); (case hg => rfl); (case hr => first | (go_simp; done) | (go_simp; rfl)); intro gb234 hg w5 hbox hb; have n0_ := qo (qr (g := gb233) (o := .cells #[.slice A0_0 l0_0.length c0_0, .slice A0_1 l0_1.length c0_1] 33 (0, 0)) za5 hb); have n1_ := qo (qq zby hb); have n2_ := qo (hbox); have n3_ := qo ((by rw [hg]; exact (qp zby) : w.heap.size ≤ gb234)); have n4_ := qo ((by rw [hg]; exact (qp zby) : w.heap.size ≤ gb234)); have n5_ := qo ((by rw [hg]; exact Nat.ne_of_lt (blk_lt (g := gb233) (o := .cells #[.slice A0_0 l0_0.length c0_0, .slice A0_1 l0_1.length c0_1] 33 (0, 0)) za5) : gb233 ≠ gb234)); have n6_ := qo ((by rw [hg]; exact Nat.ne_of_gt (blk_lt (g := gb233) (o := .cells #[.slice A0_0 l0_0.length c0_0, .slice A0_1 l0_1.length c0_1] 33 (0, 0)) za5) : gb234 ≠ gb233)); clear BK233; clear HB; have BK233 := n0_; have HB := n1_; have BK234 := n2_; have GW234 := n3_; have GE234 := n4_; have NB233_234 := n5_; have NB234_233 := n6_; clear n0_ n1_ n2_ n3_ n4_ n5_ n6_; clear hb hbox hg) | ((with_reducible refine gate_dst (N := 3) rfl ?_); refine box_event ?hg (N := 3) ?hd (cs := #[.slice none 0 0, .slice none 0 0]) (t := 38) ?hr ?_; (case hd => rfl); (case hg => rfl); (case hr => first | (go_simp; done) | (go_simp; rfl)); intro gb235 hg w6 hbox hb; have n0_ := qo (qr (g := gb233) (o := .cells #[.slice A0_0 l0_0.length c0_0, .slice A0_1 l0_1.length c0_1] 33 (0, 0)) za5 hb); have n1_ := qo (qr (g := gb234) (o := .cells #[.slice none 0 0, .slice none 0 0] 38 (0, 0)) zb5 hb); have n2_ := qo (qq zbl hb); have n3_ := qo (hbox); have n4_ := qo ((by rw [hg]; exact (qp zbl) : w.heap.size ≤ gb235)); have n5_ := qo ((by rw [hg]; exact (qp zbl) : w.heap.size ≤ gb235)); have n6_ := qo ((by rw [hg]; exact Nat.ne_of_lt (blk_lt (g := gb233) (o := .cells #[.slice A0_0 l0_0.length c0_0, .slice A0_1 l0_1.length c0_1] 33 (0, 0)) za5) : gb233 ≠ gb235)); have n7_ := qo ((by rw [hg]; exact Nat.ne_of_gt (blk_lt (g := gb233) (o := .cells #[.slice A0_0 l0_0.length c0_0, .slice A0_1 l0_1.length c0_1] 33 (0, 0)) za5) : gb235 ≠ gb233)); have n8_ := qo ((by rw [hg]; exact Nat.ne_of_lt (blk_lt (g := gb234) (o := .cells #[.slice none 0 0, .slice none 0 0] 38 (0, 0)) zb5) : gb234 ≠ gb235)); have n9_ := qo ((by rw [hg]; exact Nat.ne_of_gt (blk_lt (g := gb234) (o := .cells #[.slice none 0 0, .slice none 0 0] 38 (0, 0)) zb5) : gb235 ≠ gb234)); clear BK233; clear BK234; clear HB; have BK233 := n0_; have BK234 := n1_; have HB := n2_; have BK235 := n3_; have GW235 := n4_; have GE235 := n5_; have NB233_235 := n6_; have NB235_233 := n7_; have NB234_235 := n8_; have NB235_234 := n9_; clear n0_ n1_ n2_ n3_ n4_ n5_ n6_ n7_ n8_ n9_; clear hb hbox hg; have hnb7 := NB233_234.out; have hnc7 := NB234_233.out; have hnb8 := NB233_235.out; have hnc8 := NB235_233.out; have hcz9_0 : w6.cell? ⟨gb233, 0, none⟩ = some (.slice A0_0 l0_0.length c0_0) := (qs BK233.out 0).trans rfl; have hcz9_1 : w6.cell? ⟨gb233, 1, none⟩ = some (.slice A0_1 l0_1.length c0_1) := (qs BK233.out 1).trans rfl; have hfz9_0 := qu BK233.out 0; have hfz9_1 := qu BK233.out 1) | ((with_reducible refine gate_callee (f := 36) rfl ?_); refine goesL_ (some 6) rfl rfl Try.func36 ze rfl #[.slice A0_0 l0_0.length c0_0] rfl zcm ?_; (with_reducible refine (laws_toStringS.calls k _ _ l0_0 t236 _ ?side1 ?side2 A2.out).mono ?_); (case side1 => repeat (first | exact (Kd.C_below HR0_0.out HB.out) | (with_reducible refine Kd.C_alloc ?_ _) | (with_reducible refine Kd.C_drewN ?_ _) | (with_reducible refine Kd.C_drew ?_))); (case side2 => exact HC0_0.out); rintro e w10 ⟨v237, rfl, ho0, hb⟩; refine ⟨_, rfl, ?_⟩; have n0_ := qo (Kd.R_lower ho0 (qp zak)); have n1_ := qo (qr (g := gb233) (o := .cells #[.slice A0_0 l0_0.length c0_0, .slice A0_1 l0_1.length c0_1] 33 (0, 0)) za5 hb); have n2_ := qo (qr (g := gb234) (o := .cells #[.slice none 0 0, .slice none 0 0] 38 (0, 0)) zb5 hb); have n3_ := qo (qr (g := gb235) (o := .cells #[.slice none 0 0, .slice none 0 0] 38 (0, 0)) (by (with_reducible repeat (first | refine qi ?_ _ | refine qj ?_ | refine qk ?_ _)); exact BK235.out) hb); have n4_ := qo (qq zak hb); clear BK233; clear BK234; clear BK235; clear HB; have HO238 := n0_; have BK233 := n1_; have BK234 := n2_; have BK235 := n3_; have HB := n4_; clear n0_ n1_ n2_ n3_ n4_; (try clear hb); (try clear hb2); (try clear hk); (try clear hi); (try clear ho0); obtain ⟨Ao11, co11, eo11⟩ := Kd.R_slice HO238.out; subst eo11; have hnb12 := NB235_234.out; have hnc12 := NB234_235.out; have hcz13_0 : w10.cell? ⟨gb235, 0, none⟩ = some (.slice none 0 0) := (qs BK235.out 0).trans rfl; have hcz13_1 : w10.cell? ⟨gb235, 1, none⟩ = some (.slice none 0 0) := (qs BK235.out 1).trans rfl; have hfz13_0 := qu BK235.out 0; have hfz13_1 := qu BK235.out 1; have hcz14_0 : w10.cell? ⟨gb233, 0, none⟩ = some (.slice A0_0 l0_0.length c0_0) := (qs BK233.out 0).trans rfl; have hcz14_1 : w10.cell? ⟨gb233, 1, none⟩ = some (.slice A0_1 l0_1.length c0_1) := (qs BK233.out 1).trans rfl; have hfz14_0 := qu BK233.out 0; have hfz14_1 := qu BK233.out 1) | ((with_reducible refine gate_callee (f := 37) rfl ?_); refine goesL_ (some 10) rfl rfl Try.func37 ze rfl #[.slice A0_1 l0_1.length c0_1] rfl zcm ?_; (with_reducible refine (laws_toPutS.calls k _ _ l0_1 t239 _ ?side1 ?side2 A3.out).mono ?_); (case side1 => exact Kd.C_below HR0_1.out zak); (case side2 => exact HC0_1.out); rintro e w15 ⟨v240, rfl, ho0, hb⟩; refine ⟨_, rfl, ?_⟩; have n0_ := qo (Kd.R_below (by (with_reducible repeat (first | apply Kd.R_alloc | apply Kd.R_drewN | apply Kd.R_drew)); exact (Kd.R_mono (Kd.R_far (p := ⟨gb235, 0, none⟩) (Kd.R_types HO238.out BK235.out za7) (fun _ hk => hk.2) (.slice Ao11 t236.length co11)) (fun _ h_ => h_.1))) hb); have n1_ := qo (Kd.R_lower ho0 (qp zak)); have n2_ := qo (qr (g := gb233) (o := .cells #[.slice A0_0 l0_0.length c0_0, .slice A0_1 l0_1.length c0_1] 33 (0, 0)) (by (with_reducible repeat (first | refine qi ?_ _ | refine qj ?_ | refine qk ?_ _)); refine blk_far ?_ NB233_235.out _; (with_reducible repeat (first | refine qi ?_ _ | refine qj ?_ | refine qk ?_ _)); exact BK233.out) hb); have n3_ := qo (qr (g := gb234) (o := .cells #[.slice none 0 0, .slice none 0 0] 38 (0, 0)) (by (with_reducible repeat (first | refine qi ?_ _ | refine qj ?_ | refine qk ?_ _)); refine blk_far ?_ NB234_235.out _; (with_reducible repeat (first | refine qi ?_ _ | refine qj ?_ | refine qk ?_ _)); exact BK234.out) hb); have n4_ := qo (qr (g := gb235) (o := .cells #[.slice Ao11 t236.length co11, .slice none 0 0] 38 (0, 0)) (by (with_reducible repeat (first | refine qi ?_ _ | refine qj ?_ | refine qk ?_ _)); refine blk_put (cs := #[.slice none 0 0, .slice none 0 0]) ?_ 0 _ rfl; (with_reducible repeat (first | refine qi ?_ _ | refine qj ?_ | refine qk ?_ _)); exact BK235.out) hb); have n5_ := qo (qq zak hb); clear HO238; clear BK233; clear BK234; clear BK235; clear HB; have HO238 := n0_; have HO241 := n1_; have BK233 := n2_; have BK234 := n3_; have BK235 := n4_; have HB := n5_; clear n0_ n1_ n2_ n3_ n4_ n5_; (try clear hb); (try clear hb2); (try clear hk); (try clear hi); (try clear ho0); obtain ⟨Ao16, co16, eo16⟩ := Kd.R_slice HO241.out; subst eo16; have hcz17_0 : w15.cell? ⟨gb235, 0, none⟩ = some (.slice Ao11 t236.length co11) := (qs BK235.out 0).trans rfl; have hcz17_1 : w15.cell? ⟨gb235, 1, none⟩ = some (.slice none 0 0) := (qs BK235.out 1).trans rfl; have hfz17_0 := qu BK235.out 0; have hfz17_1 := qu BK235.out 1; have hcz18_0 : w15.cell? ⟨gb234, 0, none⟩ = some (.slice none 0 0) := (qs BK234.out 0).trans rfl; have hcz18_1 : w15.cell? ⟨gb234, 1, none⟩ = some (.slice none 0 0) := (qs BK234.out 1).trans rfl; have hfz18_0 := qu BK234.out 0; have hfz18_1 := qu BK234.out 1))
  refine bodyPost_ret (results_cell_row rfl _ _ gb234 38 #[.slice Ao11 t236.length co11, .slice Ao16 t239.length co16] (0, 0) _ rfl (by (with_reducible repeat (first | refine qi ?_ _ | refine qj ?_ | refine qk ?_ _)); refine blk_put (cs := #[.slice Ao11 t236.length co11, .slice none 0 0]) ?_ 1 _ rfl; (with_reducible repeat (first | refine qi ?_ _ | refine qj ?_ | refine qk ?_ _)); refine blk_put (cs := #[.slice none 0 0, .slice none 0 0]) ?_ 0 _ rfl; (with_reducible repeat (first | refine qi ?_ _ | refine qj ?_ | refine qk ?_ _)); refine blk_far ?_ NB234_235.out _; (with_reducible repeat (first | refine qi ?_ _ | refine qj ?_ | refine qk ?_ _)); exact BK234.out) Try.underlying38 rfl ze) rfl ?_
  exact ⟨_, _, zd, by (with_reducible repeat (first | apply Kd.R_alloc | apply Kd.R_drewN | apply Kd.R_drew)); exact Kd.R_mono (Kd.R_far (p := ⟨gb234, 1, none⟩) (Kd.R_far (p := ⟨gb234, 0, none⟩) (Kd.R_far (p := ⟨gb235, 1, none⟩) (Kd.R_types (Kd.R_types HO238.out BK235.out za7) BK234.out za7) (fun _ hk => hk.1.2) (.slice Ao16 t239.length co16)) (fun _ hk => hk.2) (.slice Ao11 t236.length co11)) (fun _ hk => hk.2) (.slice Ao16 t239.length co16)) (fun _ hk => trivial), by (with_reducible repeat (first | apply Kd.R_alloc | apply Kd.R_drewN | apply Kd.R_drew)); exact Kd.R_mono (Kd.R_far (p := ⟨gb234, 1, none⟩) (Kd.R_far (p := ⟨gb234, 0, none⟩) (Kd.R_far (p := ⟨gb235, 1, none⟩) (Kd.R_types (Kd.R_types HO241.out BK235.out za7) BK234.out za7) (fun _ hk => hk.1.2) (.slice Ao16 t239.length co16)) (fun _ hk => hk.2) (.slice Ao11 t236.length co11)) (fun _ hk => hk.2) (.slice Ao16 t239.length co16)) (fun _ hk => trivial), zak⟩

/-! ### impl_in: function 58 -/
def impl_in.f (a0 : Int) (a1 : Int) (a2 : Int) : Option (Bool) := if a0 ≥ a1 then (some (decide (a0 ≤ a2))) else (some false)
set_option maxHeartbeats 8000000 in
set_option maxRecDepth 100000 in
theorem impl_in.calls (a0 : Int) (a1 : Int) (a2 : Int) (r : Bool) (w : World) (h : impl_in.f a0 a1 a2 = some r) :
    Calls Try.prog 58 #[.int .i64 a0, .int .i64 a1, .int .i64 a2] w fun e w' => e = .returned (.bool r) ∧ Drawn0 w w' := by
  have H : (if a0 ≥ a1 then (some (decide (a0 ≤ a2))) else (some false)) = some r := h
  clear h
  by_cases c4 : a0 ≥ a1
  · rw [if_pos c4] at H
    have c4b0 : decide (a1 ≤ a0) = true := decide_eq_true c4
    clear c4
    obtain rfl := Option.some.inj H
    go_enter Try.func58, Try.ntmps58
    go_wp2
    go_ret
    exact ⟨zc, zm⟩
  · rw [if_neg c4] at H
    have c4b0 : decide (a1 ≤ a0) = false := decide_eq_false c4
    clear c4
    obtain rfl := Option.some.inj H
    go_enter Try.func58, Try.ntmps58
    go_wp2
    go_ret
    exact ⟨zc, zm⟩

/-! ### impl_SumMore: function 80 -/
mutual
def impl_SumMore.l0 : Nat → Int → ByteArray → Int → Int → Option (Int)
  | 0, _, _, _, _ => none
  | k + 1, x0, x1, x8, x9 => if x9 < x8 then (if 0 ≤ x9 then (if x9 < (x1.size : Int) then (impl_SumMore.l1 k (Go.bits .xor .u32 x0 ((bt x1 x9) % 4294967296)) x1 x8 x9 0) else (none)) else (none)) else (some x0)
def impl_SumMore.l1 : Nat → Int → ByteArray → Int → Int → Int → Option (Int)
  | 0, _, _, _, _, _ => none
  | k + 1, x0, x1, x8, x9, x18 => if x18 < 8 then (if (Go.bits .and .u32 x0 1) = 1 then (impl_SumMore.l1 k (Go.bits .xor .u32 (x0 / 2) 3558460437) x1 x8 x9 (wrap64 (x18 + 1))) else (impl_SumMore.l1 k (x0 / 2) x1 x8 x9 (wrap64 (x18 + 1)))) else (impl_SumMore.l0 k x0 x1 x8 (wrap64 (x9 + 1)))
end
def impl_SumMore.f (k : Nat) (a0 : Int) (a1 : ByteArray) : Option (Int) := impl_SumMore.l0 k a0 a1 (a1.size : Int) 0
theorem impl_SumMore.mono_l : ∀ k, (∀ y0 y1 y2 y3, LeO (impl_SumMore.l0 k y0 y1 y2 y3) (impl_SumMore.l0 (k + 1) y0 y1 y2 y3)) ∧ (∀ y0 y1 y2 y3 y4, LeO (impl_SumMore.l1 k y0 y1 y2 y3 y4) (impl_SumMore.l1 (k + 1) y0 y1 y2 y3 y4))
  | 0 => ⟨fun _ _ _ _ r h => by simp [impl_SumMore.l0] at h, fun _ _ _ _ _ r h => by simp [impl_SumMore.l1] at h⟩
  | k + 1 => by
    obtain ⟨ih0, ih1⟩ := impl_SumMore.mono_l k
    refine ⟨?_, ?_⟩
    · intro y0 y1 y2 y3
      unfold impl_SumMore.l0
      repeat' first
      | (with_reducible exact ih0 _ _ _ _)
      | (with_reducible exact ih1 _ _ _ _ _)
      | (with_reducible exact LeO.refl _)
      | (with_reducible exact LeO.none _)
      | (with_reducible refine LeO.ite ?_ ?_)
      | (with_reducible refine LeO.bind ?_ (fun _ => ?_))
      | exact ih0 _ _ _ _
      | exact ih1 _ _ _ _ _
      | exact LeO.none _
      | refine LeO.ite ?_ ?_
      | refine LeO.bind ?_ (fun _ => ?_)
    · intro y0 y1 y2 y3 y4
      unfold impl_SumMore.l1
      repeat' first
      | (with_reducible exact ih0 _ _ _ _)
      | (with_reducible exact ih1 _ _ _ _ _)
      | (with_reducible exact LeO.refl _)
      | (with_reducible exact LeO.none _)
      | (with_reducible refine LeO.ite ?_ ?_)
      | (with_reducible refine LeO.bind ?_ (fun _ => ?_))
      | exact ih0 _ _ _ _
      | exact ih1 _ _ _ _ _
      | exact LeO.none _
      | refine LeO.ite ?_ ?_
      | refine LeO.bind ?_ (fun _ => ?_)
theorem impl_SumMore.mono : ∀ a0 a1 k, LeO (impl_SumMore.f k a0 a1) (impl_SumMore.f (k + 1) a0 a1) := by
  intro a0 a1 k
  obtain ⟨ih0, ih1⟩ := impl_SumMore.mono_l k
  unfold impl_SumMore.f
  repeat' first
      | (with_reducible exact ih0 _ _ _ _)
      | (with_reducible exact ih1 _ _ _ _ _)
      | (with_reducible exact LeO.refl _)
      | (with_reducible exact LeO.none _)
      | (with_reducible refine LeO.ite ?_ ?_)
      | (with_reducible refine LeO.bind ?_ (fun _ => ?_))
      | exact ih0 _ _ _ _
      | exact ih1 _ _ _ _ _
      | exact LeO.none _
      | refine LeO.ite ?_ ?_
      | refine LeO.bind ?_ (fun _ => ?_)
set_option maxHeartbeats 8000000 in
set_option maxRecDepth 100000 in
theorem impl_SumMore.calls (k : Nat) (a0 : Int) (a1 : ByteArray) (r : Int) (w : World) (h : impl_SumMore.f k a0 a1 = some r) :
    Calls Try.prog 80 #[.int .u32 a0, .string a1] w fun e w' => e = .returned (.int .u32 r) ∧ Drawn0 w w' := by
  have H : (impl_SumMore.l0 k a0 a1 (a1.size : Int) 0) = some r := h
  clear h
  have H' := qo H
  clear H
  go_enter Try.func80, Try.ntmps80
  go_wp2
  go_loopg [0, 9] k (fun kq v0 v9 w' => ∃ (x0_1 : Int) (x9_1 : Int), v0 = .int .u32 x0_1 ∧ v9 = .int .i64 x9_1 ∧ Aside0 (impl_SumMore.l0 kq x0_1 a1 (a1.size : Int) x9_1 = some r) ∧ Aside0 (kq ≤ k) ∧ Drawn0 w w')
  case atStart => exact ⟨(a0), (0), zc, zc, H', ⟨Nat.le_refl _⟩, zm⟩
  case round =>
    clear H'
    (try clear p2)
    obtain ⟨x0_1, x9_1, rfl, rfl, HA, HK1, ⟨m1, rfl⟩⟩ := hrel
    cases gk with
    | zero => exact absurd HA.out (by simp [impl_SumMore.l0])
    | succ k1 =>
      have H := HA.out
      clear HA
      simp only [impl_SumMore.l0] at H
      by_cases c3 : x9_1 < (a1.size : Int)
      · rw [if_pos c3] at H
        have c3b0 : decide (x9_1 < (a1.size : Int)) = true := decide_eq_true c3
        clear c3
        by_cases c4 : 0 ≤ x9_1
        · rw [if_pos c4] at H
          have c4b0 : decide (0 ≤ x9_1) = true := decide_eq_true c4
          clear c4
          by_cases c5 : x9_1 < (a1.size : Int)
          · rw [if_pos c5] at H
            have c5b0 : decide (x9_1 < (a1.size : Int)) = true := decide_eq_true c5
            clear c5
            have H' := qo H
            clear H
            have p6 : 0 ≤ (x9_1 : Int) := of_decide_eq_true zb
            have q6 : x9_1 < (a1.size : Int) := of_decide_eq_true zb
            have hx6 := bt_at a1 x9_1
            replace p6 := eq_true p6
            replace q6 := eq_true q6
            go_wp2
            go_loopg [0, 18] k1 (fun kq v0 v18 w' => ∃ (x0_2 : Int) (x18_2 : Int), v0 = .int .u32 x0_2 ∧ v18 = .int .i64 x18_2 ∧ Aside0 (impl_SumMore.l1 kq x0_2 a1 (a1.size : Int) x9_1 x18_2 = some r) ∧ Aside0 (kq ≤ k1) ∧ Drawn0 w w')
            case atStart => exact ⟨(Go.bits .xor .u32 x0_1 ((bt a1 x9_1) % 4294967296)), (0), zc, zc, H', ⟨Nat.le_refl _⟩, zm⟩
            case round =>
              clear H'
              (try clear p2); (try clear c3); (try clear c3b0); (try clear c4); (try clear c4b0); (try clear c5); (try clear c5b0); (try clear p6); (try clear q6); (try clear hx6); (try clear p2); (try clear p6); (try clear q6)
              obtain ⟨x0_2, x18_2, rfl, rfl, HA, HK2, ⟨m2, rfl⟩⟩ := hrel
              cases gk with
              | zero => exact absurd HA.out (by simp [impl_SumMore.l1])
              | succ k2 =>
                have H := HA.out
                clear HA
                simp only [impl_SumMore.l1] at H
                by_cases c7 : x18_2 < 8
                · rw [if_pos c7] at H
                  have c7b0 : decide (x18_2 < 8) = true := decide_eq_true c7
                  clear c7
                  by_cases c8 : (Go.bits .and .u32 x0_2 1) = 1
                  · rw [if_pos c8] at H
                    have c8b0 : ((Go.bits .and .u32 x0_2 1) == 1) = true := beq_iff_eq.mpr c8
                    have c8b1 : ((Go.bits .and .u32 x0_2 1) != 1) = false := bne_eq_false_iff_eq.mpr c8
                    clear c8
                    have H' := qo H
                    clear H
                    go_wp2
                    go_roundg k2
                    case measure => have := HK1.out; have := HK2.out; omega
                    case rel => exact ⟨(Go.bits .xor .u32 (x0_2 / 2) 3558460437), (wrap64 (x18_2 + 1)), zc, zc, H', ⟨zb6⟩, zm⟩
                  · rw [if_neg c8] at H
                    have c8b0 : ((Go.bits .and .u32 x0_2 1) == 1) = false := beq_eq_false_iff_ne.mpr c8
                    have c8b1 : ((Go.bits .and .u32 x0_2 1) != 1) = true := bne_iff_ne.mpr c8
                    have H' := qo H
                    clear H
                    go_wp2
                    go_roundg k2
                    case measure => have := HK1.out; have := HK2.out; omega
                    case rel => exact ⟨(x0_2 / 2), (wrap64 (x18_2 + 1)), zc, zc, H', ⟨zb6⟩, zm⟩
                · rw [if_neg c7] at H
                  have c7b0 : decide (x18_2 < 8) = false := decide_eq_false c7
                  clear c7
                  have H' := qo H
                  clear H
                  go_wp2
                  go_roundg k2
                  case measure => have := HK1.out; have := HK2.out; omega
                  case rel => exact ⟨(x0_2), (wrap64 (x9_1 + 1)), zc, zc, H', ⟨zb6⟩, zm⟩
          · rw [if_neg c5] at H
            exact absurd H zbh
        · rw [if_neg c4] at H
          exact absurd H zbh
      · rw [if_neg c3] at H
        have c3b0 : decide (x9_1 < (a1.size : Int)) = false := decide_eq_false c3
        clear c3
        obtain rfl := Option.some.inj H
        go_wp2
        go_ret
        exact ⟨zc, zm⟩

/-! ### impl_SumOf: function 76 -/
def impl_SumOf.f (k : Nat) (a0 : ByteArray) : Option (Int) := (impl_SumMore.f k 4294967295 a0).bind fun t242 => (some t242)
theorem impl_SumOf.mono : ∀ a0 k, LeO (impl_SumOf.f k a0) (impl_SumOf.f (k + 1) a0) := by
  intro a0 k
  unfold impl_SumOf.f
  repeat' first
      | (with_reducible exact impl_SumMore.mono _ _ _)
      | (with_reducible exact LeO.refl _)
      | (with_reducible exact LeO.none _)
      | (with_reducible refine LeO.ite ?_ ?_)
      | (with_reducible refine LeO.bind ?_ (fun _ => ?_))
      | exact impl_SumMore.mono _ _ _
      | exact LeO.none _
      | refine LeO.ite ?_ ?_
      | refine LeO.bind ?_ (fun _ => ?_)
set_option maxHeartbeats 8000000 in
set_option maxRecDepth 100000 in
theorem impl_SumOf.calls (k : Nat) (a0 : ByteArray) (r : Int) (w : World) (h : impl_SumOf.f k a0 = some r) :
    Calls Try.prog 76 #[.string a0] w fun e w' => e = .returned (.int .u32 r) ∧ Drawn0 w w' := by
  have H : ((impl_SumMore.f k 4294967295 a0).bind fun t242 => (some t242)) = some r := h
  clear h
  replace H := Option.bind_eq_some_iff.mp H
  obtain ⟨t242, A20, H⟩ := H
  replace H : (some t242) = some r := H
  have A2 := qo A20
  clear A20
  obtain rfl := Option.some.inj H
  go_enter Try.func76, Try.ntmps76
  go_wp2_with (first | ((with_reducible refine gate_callee (f := 80) rfl ?_); refine goesL_ (some 4) rfl rfl Try.func80 ze rfl #[.int .u32 4294967295, .string a0] rfl zcm ?_; (with_reducible refine (impl_SumMore.calls k 4294967295 a0 t242 _ A2.out).mono ?_); rintro e w' ⟨rfl, ⟨nd, rfl⟩⟩; refine ⟨_, rfl, ?_⟩))
  go_ret
  exact ⟨zc, zm⟩

/-! ### impl_seal: function 59 -/
def impl_seal.f (k : Nat) (a0 : ByteArray) : Option (ByteArray) := (impl_SumOf.f k a0).bind fun t243 => (some (strOfNums (([(t243 / 16777216) % 256, (t243 / 65536) % 256, (t243 / 256) % 256, (t243) % 256] : List Int))))
theorem impl_seal.mono : ∀ a0 k, LeO (impl_seal.f k a0) (impl_seal.f (k + 1) a0) := by
  intro a0 k
  unfold impl_seal.f
  repeat' first
      | (with_reducible exact impl_SumOf.mono _ _)
      | (with_reducible exact LeO.refl _)
      | (with_reducible exact LeO.none _)
      | (with_reducible refine LeO.ite ?_ ?_)
      | (with_reducible refine LeO.bind ?_ (fun _ => ?_))
      | exact impl_SumOf.mono _ _
      | exact LeO.none _
      | refine LeO.ite ?_ ?_
      | refine LeO.bind ?_ (fun _ => ?_)
set_option maxHeartbeats 8000000 in
set_option maxRecDepth 100000 in
theorem impl_seal.calls (k : Nat) (a0 : ByteArray) (r : ByteArray) (w : World) (h : impl_seal.f k a0 = some r) :
    Calls Try.prog 59 #[.string a0] w fun e w' => e = .returned (.string r) ∧ Below w.heap.size w w' := by
  have HB := qo (Below.refl w.heap.size w)
  have H : ((impl_SumOf.f k a0).bind fun t243 => (some (strOfNums (([(t243 / 16777216) % 256, (t243 / 65536) % 256, (t243 / 256) % 256, (t243) % 256] : List Int))))) = some r := h
  clear h
  replace H := Option.bind_eq_some_iff.mp H
  obtain ⟨t243, A20, H⟩ := H
  replace H : (some (strOfNums (([(t243 / 16777216) % 256, (t243 / 65536) % 256, (t243 / 256) % 256, (t243) % 256] : List Int)))) = some r := H
  have A2 := qo A20
  clear A20
  obtain ⟨y244, hy244⟩ : ∃ y_ : List Int, y_ = (([(t243 / 16777216) % 256, (t243 / 65536) % 256, (t243 / 256) % 256, (t243) % 256] : List Int)) := ⟨_, rfl⟩
  replace H : (some (strOfNums y244)) = some r := by first | (rw [hy244]; with_reducible exact H) | (have H2_ := (Option.bind_some _ _).symm.trans H; rw [hy244]; with_reducible exact H2_) | (have H2_ := (Option.bind_some _ _).symm.trans H; with_reducible exact H2_) | with_reducible exact H | (rw [hy244]; exact H) | exact H
  have Ny244 := qo hy244
  clear hy244
  obtain rfl := Option.some.inj H
  go_enter Try.func59, Try.ntmps59
  go_wp2_with (first | ((with_reducible refine gate_callee (f := 76) rfl ?_); refine goesL_ (some 5) rfl rfl Try.func76 ze rfl #[.string a0] rfl zcm ?_; (with_reducible refine (impl_SumOf.calls k a0 t243 _ A2.out).mono ?_); rintro e w' ⟨rfl, ⟨nd, rfl⟩⟩; refine ⟨_, rfl, ?_⟩) | ((with_reducible refine gate_dst (N := 17) rfl ?_); refine Kd.R_lit (Kd.int .u8) _ 5 ?hg (N := 17) ?hd (xs := ([(t243 / 16777216) % 256, (t243 / 65536) % 256, (t243 / 256) % 256, (t243) % 256] : List Int)) (inner := [.int .u8 ((t243 / 16777216) % 256), .int .u8 ((t243 / 65536) % 256), .int .u8 ((t243 / 256) % 256), .int .u8 ((t243) % 256)]) (ok := fun _ => True) (okp := fun _ => True) ?hr ?hp (fun _ hk => hk) trivial (Below.refl _ _) (Nat.le_refl _) zbh ?_; (case hd => rfl); (case hg => rfl); (case hr => first | (go_simp; done) | (go_simp; rfl)); (case hp => exact (Reps.one (show Kd.M (Kd.int .u8) _ _ _ ((t243 / 16777216) % 256) [.int .u8 ((t243 / 16777216) % 256)] from rfl) (Reps.one (show Kd.M (Kd.int .u8) _ _ _ ((t243 / 65536) % 256) [.int .u8 ((t243 / 65536) % 256)] from rfl) (Reps.one (show Kd.M (Kd.int .u8) _ _ _ ((t243 / 256) % 256) [.int .u8 ((t243 / 256) % 256)] from rfl) (Reps.one (show Kd.M (Kd.int .u8) _ _ _ ((t243) % 256) [.int .u8 ((t243) % 256)] from rfl) (Reps.none _ _)))))); intro v245 w3 ho4 hb hg_ hnew_; clear hg_ hnew_; (first | rw [← Ny244.out] at ho4 | (simp only [Int.reduceToNat] at ho4; rw [← Ny244.out] at ho4)); have n0_ := qo (Kd.R_lower ho4 (qp za)); have n1_ := qo (qq za hb); clear HB; have HO246 := n0_; have HB := n1_; clear n0_ n1_; clear hb ho4; have hcv5 := own_string (P := Try.prog) Try.underlying43 Try.underlying5 Try.underlying9 (Kd.own_of_R HO246.out)))
  go_ret
  exact ⟨zd, za⟩

end Go.Proofs.Yteokilffbcbllaa.VFnExactBestMeta
