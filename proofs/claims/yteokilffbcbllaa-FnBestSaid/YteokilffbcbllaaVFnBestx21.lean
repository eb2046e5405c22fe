-- Written by a program of this repo (wip/myprint.py), over the kit's print; functions that the print does not take stand in it by hand-proved contracts.
import Derived.Test.YteokilffbcbllaaVFnBestx0
import Derived.Test.YteokilffbcbllaaVFnBestx20
namespace Go.Proofs.Yteokilffbcbllaa.VFnBest
open Go.RowKit Go.Proofs.YteokilffbcbllaaW.PrintWords Go.Proofs.YteokilffbcbllaaW.PrintLast Go.Proofs.YteokilffbcbllaaW.PrintMore
attribute [local go_sem] max2_int min2_int max_two min_two max_three min_three max_four min_four   -- for this text's walks alone
attribute [local go_sem high] str_leq str_gtr str_geq str_lss
set_option linter.unusedVariables false
set_option linter.unusedSimpArgs false

/-! ### laws_sameMeta: function 24 -/
mutual
def laws_sameMeta.j0 : Nat → Bool → Int → Int → Int → List (S60) → Int → Int → Int → List (S60) → Option (Bool)
  | 0, _, _, _, _, _, _, _, _, _ => none
  | k + 1, x33, x470000, x470001, x470002, x470003, x471000, x471001, x471002, x471003 => if x33 = true then (some false) else (laws_sameMeta.l0 k 0 x470000 x470001 x470002 x470003 x471000 x471001 x471002 x471003)
def laws_sameMeta.l0 : Nat → Int → Int → Int → Int → List (S60) → Int → Int → Int → List (S60) → Option (Bool)
  | 0, _, _, _, _, _, _, _, _, _ => none
  | k + 1, x5, x470000, x470001, x470002, x470003, x471000, x471001, x471002, x471003 => if x5 < (x470003.length : Int) then (if 0 ≤ x5 then (if x5 < (x471003.length : Int) then (if ((rd_T60 x470003 x5).f0) = ((rd_T60 x471003 x5).f0) then ((laws_sameInts.f k ((rd_T60 x470003 x5).f1) ((rd_T60 x471003 x5).f1)).bind fun t475 => (if t475 = true then (laws_sameMeta.l0 k (wrap64 (x5 + 1)) x470000 x470001 x470002 x470003 x471000 x471001 x471002 x471003) else (some false))) else (some false)) else (none)) else (none)) else (some true)
end
def laws_sameMeta.f (k : Nat) (a0_0 : Int) (a0_1 : Int) (a0_2 : Int) (l0_3 : List (S60)) (a1_0 : Int) (a1_1 : Int) (a1_2 : Int) (l1_3 : List (S60)) : Option (Bool) := if a0_0 = a1_0 then (if a0_1 = a1_1 then (if a0_2 = a1_2 then (laws_sameMeta.j0 k ((l0_3.length : Int) != (l1_3.length : Int)) a0_0 a0_1 a0_2 l0_3 a1_0 a1_1 a1_2 l1_3) else (laws_sameMeta.j0 k true a0_0 a0_1 a0_2 l0_3 a1_0 a1_1 a1_2 l1_3)) else (laws_sameMeta.j0 k true a0_0 a0_1 a0_2 l0_3 a1_0 a1_1 a1_2 l1_3)) else (laws_sameMeta.j0 k true a0_0 a0_1 a0_2 l0_3 a1_0 a1_1 a1_2 l1_3)
theorem laws_sameMeta.mono_l : ∀ k, (∀ y0 y1 y2 y3 y4 y5 y6 y7 y8, LeO (laws_sameMeta.j0 k y0 y1 y2 y3 y4 y5 y6 y7 y8) (laws_sameMeta.j0 (k + 1) y0 y1 y2 y3 y4 y5 y6 y7 y8)) ∧ (∀ y0 y1 y2 y3 y4 y5 y6 y7 y8, LeO (laws_sameMeta.l0 k y0 y1 y2 y3 y4 y5 y6 y7 y8) (laws_sameMeta.l0 (k + 1) y0 y1 y2 y3 y4 y5 y6 y7 y8))
  | 0 => ⟨fun _ _ _ _ _ _ _ _ _ r h => by simp [laws_sameMeta.j0] at h, fun _ _ _ _ _ _ _ _ _ r h => by simp [laws_sameMeta.l0] at h⟩
  | k + 1 => by
    obtain ⟨ih0, ih1⟩ := laws_sameMeta.mono_l k
    refine ⟨?_, ?_⟩
    · intro y0 y1 y2 y3 y4 y5 y6 y7 y8
      unfold laws_sameMeta.j0
      exact qv
    · intro y0 y1 y2 y3 y4 y5 y6 y7 y8
      unfold laws_sameMeta.l0
      exact qv
theorem laws_sameMeta.mono : ∀ a0 a1 a2 a3 a4 a5 a6 a7 k, LeO (laws_sameMeta.f k a0 a1 a2 a3 a4 a5 a6 a7) (laws_sameMeta.f (k + 1) a0 a1 a2 a3 a4 a5 a6 a7) := by
  intro a0 a1 a2 a3 a4 a5 a6 a7 k
  obtain ⟨ih0, ih1⟩ := laws_sameMeta.mono_l k
  unfold laws_sameMeta.f
  exact qv
set_option maxHeartbeats 8000000 in
set_option maxRecDepth 100000 in
theorem laws_sameMeta.calls (k : Nat) (a0_0 : Int) (a0_1 : Int) (a0_2 : Int) (A0_3 : Option Addr) (c0_3 : Nat) (l0_3 : List (S60)) (a1_0 : Int) (a1_1 : Int) (a1_2 : Int) (A1_3 : Option Addr) (c1_3 : Nat) (l1_3 : List (S60)) (r : Bool) (w : World) (hr0_3 : Kd.C k60 w A0_3 l0_3.length l0_3) (hc0_3 : l0_3.length ≤ c0_3) (hr1_3 : Kd.C k60 w A1_3 l1_3.length l1_3) (hc1_3 : l1_3.length ≤ c1_3) (h : laws_sameMeta.f k a0_0 a0_1 a0_2 l0_3 a1_0 a1_1 a1_2 l1_3 = some r) :
    Calls Try.prog 24 #[.agg #[.int .i64 a0_0, .int .i64 a0_1, .int .i64 a0_2, .slice A0_3 l0_3.length c0_3], .agg #[.int .i64 a1_0, .int .i64 a1_1, .int .i64 a1_2, .slice A1_3 l1_3.length c1_3]] w fun e w' => e = .returned (.bool r) ∧ Below w.heap.size w w' := by
  have hu24 := Try.underlying24
  have HR0_3 := Aside0.mk hr0_3
  clear hr0_3 hc0_3
  have HR1_3 := Aside0.mk hr1_3
  clear hr1_3 hc1_3
  have HB := Aside0.mk (Below.refl w.heap.size w)
  unfold laws_sameMeta.f at h
  have H := h
  clear h
  have HC3 := Aside0.mk H
  clear H
  go_enter Try.func24, Try.ntmps24
  go_upto_region 1 with (first | ((with_reducible refine gate_dst (N := 2) rfl ?_); (try (refine gate_guard zdy ?_; dsimp only)); refine qB 2 #[.int .i64 a0_0, .int .i64 a0_1, .int .i64 a0_2, .slice A0_3 l0_3.length c0_3] 24 ?_; intro gb469 hg w4 hbox hb; have BK469 := Aside0.mk (hbox); have GW469 := Aside0.mk ((zef : w.heap.size ≤ gb469)); have GE469 := GW469; replace HB := Aside0.mk (below_step za hb); clear hb hbox hg) | ((with_reducible refine gate_dst (N := 3) rfl ?_); (try (refine gate_guard zdy ?_; dsimp only)); refine qB 3 #[.int .i64 a1_0, .int .i64 a1_1, .int .i64 a1_2, .slice A1_3 l1_3.length c1_3] 24 ?_; intro gb470 hg w5 hbox hb; have BK470 := Aside0.mk (hbox); have GW470 := Aside0.mk ((by rw [hg]; exact (below_size zbx) : w.heap.size ≤ gb470)); have GE470 := GW470; replace HB := Aside0.mk (below_step zbx hb); have NB469_470 := Aside0.mk ((zec : gb469 ≠ gb470)); have NB470_469 := Aside0.mk NB469_470.out.symm; replace BK469 := Aside0.mk (bB BK469.out hb); clear hb hbox hg))
  repeat (go_quiet (first | ((with_reducible refine gate_dst (N := 2) rfl ?_); (try (refine gate_guard zdy ?_; dsimp only)); refine qB 2 #[.int .i64 a0_0, .int .i64 a0_1, .int .i64 a0_2, .slice A0_3 l0_3.length c0_3] 24 ?_; intro gb469 hg w4 hbox hb; have BK469 := Aside0.mk (hbox); have GW469 := Aside0.mk ((zef : w.heap.size ≤ gb469)); have GE469 := GW469; replace HB := Aside0.mk (below_step za hb); clear hb hbox hg) | ((with_reducible refine gate_dst (N := 3) rfl ?_); (try (refine gate_guard zdy ?_; dsimp only)); refine qB 3 #[.int .i64 a1_0, .int .i64 a1_1, .int .i64 a1_2, .slice A1_3 l1_3.length c1_3] 24 ?_; intro gb470 hg w5 hbox hb; have BK470 := Aside0.mk (hbox); have GW470 := Aside0.mk ((by rw [hg]; exact (below_size zbx) : w.heap.size ≤ gb470)); have GE470 := GW470; replace HB := Aside0.mk (below_step zbx hb); have NB469_470 := Aside0.mk ((zec : gb469 ≠ gb470)); have NB470_469 := Aside0.mk NB469_470.out.symm; replace BK469 := Aside0.mk (bB BK469.out hb); clear hb hbox hg)); go_upto_region 1 with (first | ((with_reducible refine gate_dst (N := 2) rfl ?_); (try (refine gate_guard zdy ?_; dsimp only)); refine qB 2 #[.int .i64 a0_0, .int .i64 a0_1, .int .i64 a0_2, .slice A0_3 l0_3.length c0_3] 24 ?_; intro gb469 hg w4 hbox hb; have BK469 := Aside0.mk (hbox); have GW469 := Aside0.mk ((zef : w.heap.size ≤ gb469)); have GE469 := GW469; replace HB := Aside0.mk (below_step za hb); clear hb hbox hg) | ((with_reducible refine gate_dst (N := 3) rfl ?_); (try (refine gate_guard zdy ?_; dsimp only)); refine qB 3 #[.int .i64 a1_0, .int .i64 a1_1, .int .i64 a1_2, .slice A1_3 l1_3.length c1_3] 24 ?_; intro gb470 hg w5 hbox hb; have BK470 := Aside0.mk (hbox); have GW470 := Aside0.mk ((by rw [hg]; exact (below_size zbx) : w.heap.size ≤ gb470)); have GE470 := GW470; replace HB := Aside0.mk (below_step zbx hb); have NB469_470 := Aside0.mk ((zec : gb469 ≠ gb470)); have NB470_469 := Aside0.mk NB469_470.out.symm; replace BK469 := Aside0.mk (bB BK469.out hb); clear hb hbox hg)))
  (try simp only [Act.put, qa, qb, qc])
  go_cut [33] (fun v33 wc => ∃ (kq : Nat) (x33_2 : Bool), v33 = .bool x33_2 ∧ Aside0 (laws_sameMeta.j0 kq x33_2 a0_0 a0_1 a0_2 l0_3 a1_0 a1_1 a1_2 l1_3 = some r) ∧ Aside0 (kq ≤ k) ∧ Aside0 (wc.heap[gb469]? = some (.cells #[.int .i64 a0_0, .int .i64 a0_1, .int .i64 a0_2, (.slice A0_3 l0_3.length c0_3)] 24 (0, 0))) ∧ Aside0 (wc.heap[gb470]? = some (.cells #[.int .i64 a1_0, .int .i64 a1_1, .int .i64 a1_2, (.slice A1_3 l1_3.length c1_3)] 24 (0, 0))) ∧ Aside0 (Below w.heap.size w wc))
  case first =>
    have H := HC3.out
    clear HC3
    by_cases c6 : a0_0 = a1_0
    case neg =>
      rw [if_neg c6] at H
      have c6b0 : (a0_0 == a1_0) = false := beq_eq_false_iff_ne.mpr c6
      have c6b1 : (a0_0 != a1_0) = true := bne_iff_ne.mpr c6
      (first | rw [c6b0] | (simp only [i64_w, i32_w]; rw [c6b0]) | skip)
      have H' := Aside0.mk H
      clear H
      have hnb18 := NB469_470.out
      have hnc18 := NB470_469.out
      obtain ⟨hcz19_0, hcz19_1, hcz19_2, hcz19_3, hfz19_0, hfz19_1, hfz19_2, hfz19_3⟩ := qk4 BK469.out
      obtain ⟨hcz20_0, hcz20_1, hcz20_2, hcz20_3, hfz20_0, hfz20_1, hfz20_2, hfz20_3⟩ := qk4 BK470.out
      go_wp2
      repeat (go_quiet (fail); try go_wp2)
      go_meet
      case rel => exact ⟨_, (true), zd, H', ⟨zda⟩, ⟨zch⟩, ⟨zci⟩, ⟨zai⟩⟩
    rw [if_pos c6] at H
    have c6b0 : (a0_0 == a1_0) = true := beq_iff_eq.mpr c6
    have c6b1 : (a0_0 != a1_0) = false := bne_eq_false_iff_eq.mpr c6
    clear c6
    (first | rw [c6b0] | (simp only [i64_w, i32_w]; rw [c6b0]) | skip)
    by_cases c7 : a0_1 = a1_1
    case neg =>
      rw [if_neg c7] at H
      have c7b0 : (a0_1 == a1_1) = false := beq_eq_false_iff_ne.mpr c7
      have c7b1 : (a0_1 != a1_1) = true := bne_iff_ne.mpr c7
      have H' := Aside0.mk H
      clear H
      have hnb15 := NB469_470.out
      have hnc15 := NB470_469.out
      obtain ⟨hcz16_0, hcz16_1, hcz16_2, hcz16_3, hfz16_0, hfz16_1, hfz16_2, hfz16_3⟩ := qk4 BK469.out
      obtain ⟨hcz17_0, hcz17_1, hcz17_2, hcz17_3, hfz17_0, hfz17_1, hfz17_2, hfz17_3⟩ := qk4 BK470.out
      go_wp2
      repeat (go_quiet (fail); try go_wp2)
      go_meet
      case rel => exact ⟨_, (true), zd, H', ⟨zda⟩, ⟨zch⟩, ⟨zci⟩, ⟨zai⟩⟩
    rw [if_pos c7] at H
    have c7b0 : (a0_1 == a1_1) = true := beq_iff_eq.mpr c7
    have c7b1 : (a0_1 != a1_1) = false := bne_eq_false_iff_eq.mpr c7
    clear c7
    by_cases c8 : a0_2 = a1_2
    case neg =>
      rw [if_neg c8] at H
      have c8b0 : (a0_2 == a1_2) = false := beq_eq_false_iff_ne.mpr c8
      have c8b1 : (a0_2 != a1_2) = true := bne_iff_ne.mpr c8
      have H' := Aside0.mk H
      clear H
      have hnb12 := NB469_470.out
      have hnc12 := NB470_469.out
      obtain ⟨hcz13_0, hcz13_1, hcz13_2, hcz13_3, hfz13_0, hfz13_1, hfz13_2, hfz13_3⟩ := qk4 BK469.out
      obtain ⟨hcz14_0, hcz14_1, hcz14_2, hcz14_3, hfz14_0, hfz14_1, hfz14_2, hfz14_3⟩ := qk4 BK470.out
      go_wp2
      repeat (go_quiet (fail); try go_wp2)
      go_meet
      case rel => exact ⟨_, (true), zd, H', ⟨zda⟩, ⟨zch⟩, ⟨zci⟩, ⟨zai⟩⟩
    rw [if_pos c8] at H
    have c8b0 : (a0_2 == a1_2) = true := beq_iff_eq.mpr c8
    have c8b1 : (a0_2 != a1_2) = false := bne_eq_false_iff_eq.mpr c8
    clear c8
    have H' := Aside0.mk H
    clear H
    have hnb9 := NB469_470.out
    have hnc9 := NB470_469.out
    obtain ⟨hcz10_0, hcz10_1, hcz10_2, hcz10_3, hfz10_0, hfz10_1, hfz10_2, hfz10_3⟩ := qk4 BK469.out
    obtain ⟨hcz11_0, hcz11_1, hcz11_2, hcz11_3, hfz11_0, hfz11_1, hfz11_2, hfz11_3⟩ := qk4 BK470.out
    go_wp2
    repeat (go_quiet (fail); try go_wp2)
    go_meet
    case rel => exact ⟨_, (((l0_3.length : Int) != (l1_3.length : Int))), zd, H', ⟨zda⟩, ⟨zch⟩, ⟨zci⟩, ⟨zai⟩⟩
  case rest =>
    clear HC3
    (try clear c6); (try clear c6b0); (try clear c6b1); (try clear c7); (try clear c7b0); (try clear c7b1); (try clear c8); (try clear c8b0); (try clear c8b1); (try clear hcz10_0 hcz10_1 hcz10_2 hcz10_3 hfz10_0 hfz10_1 hfz10_2 hfz10_3); (try clear hcz11_0 hcz11_1 hcz11_2 hcz11_3 hfz11_0 hfz11_1 hfz11_2 hfz11_3); (try clear hcz13_0 hcz13_1 hcz13_2 hcz13_3 hfz13_0 hfz13_1 hfz13_2 hfz13_3); (try clear hcz14_0 hcz14_1 hcz14_2 hcz14_3 hfz14_0 hfz14_1 hfz14_2 hfz14_3); (try clear hcz16_0 hcz16_1 hcz16_2 hcz16_3 hfz16_0 hfz16_1 hfz16_2 hfz16_3); (try clear hcz17_0 hcz17_1 hcz17_2 hcz17_3 hfz17_0 hfz17_1 hfz17_2 hfz17_3); (try clear hcz19_0 hcz19_1 hcz19_2 hcz19_3 hfz19_0 hfz19_1 hfz19_2 hfz19_3); (try clear hcz20_0 hcz20_1 hcz20_2 hcz20_3 hfz20_0 hfz20_1 hfz20_2 hfz20_3)
    obtain ⟨kq, x33_2, rfl, HA, HJ2, BK469, BK470, HB⟩ := hcut
    cases kq with
    | zero => exact absurd HA.out (by simp [laws_sameMeta.j0])
    | succ kj2 =>
      have H := HA.out
      clear HA
      simp only [laws_sameMeta.j0] at H
      by_cases c21 : x33_2 = true
      case pos =>
        subst c21
        rw [if_pos rfl] at H
        obtain rfl := Option.some.inj H
        go_wp2
        repeat (go_quiet (fail); try go_wp2)
        go_ret
        exact ⟨zc, zai⟩
      replace c21 := Bool.eq_false_iff.mpr c21
      subst c21
      rw [if_neg (qj)] at H
      have H' := Aside0.mk H
      clear H
      go_wp2
      repeat (go_quiet (fail); try go_wp2)
      go_loopg [5] kj2 (fun kq v5 w' => ∃ (x5_2 : Int), v5 = .int .i64 x5_2 ∧ Aside0 (laws_sameMeta.l0 kq x5_2 a0_0 a0_1 a0_2 l0_3 a1_0 a1_1 a1_2 l1_3 = some r) ∧ Aside0 (kq ≤ kj2) ∧ Aside0 (w'.heap[gb469]? = some (.cells #[.int .i64 a0_0, .int .i64 a0_1, .int .i64 a0_2, (.slice A0_3 l0_3.length c0_3)] 24 (0, 0))) ∧ Aside0 (w'.heap[gb470]? = some (.cells #[.int .i64 a1_0, .int .i64 a1_1, .int .i64 a1_2, (.slice A1_3 l1_3.length c1_3)] 24 (0, 0))) ∧ Aside0 (Below w.heap.size w w'))
      case atStart => exact ⟨(0), zd, H', ⟨Nat.le_refl _⟩, ⟨zch⟩, ⟨zci⟩, ⟨zai⟩⟩
      case round =>
        clear H'
        (try clear c6); (try clear c6b0); (try clear c6b1); (try clear c7); (try clear c7b0); (try clear c7b1); (try clear c8); (try clear c8b0); (try clear c8b1); (try clear c21); (try clear hcz10_0 hcz10_1 hcz10_2 hcz10_3 hfz10_0 hfz10_1 hfz10_2 hfz10_3); (try clear hcz11_0 hcz11_1 hcz11_2 hcz11_3 hfz11_0 hfz11_1 hfz11_2 hfz11_3); (try clear hcz13_0 hcz13_1 hcz13_2 hcz13_3 hfz13_0 hfz13_1 hfz13_2 hfz13_3); (try clear hcz14_0 hcz14_1 hcz14_2 hcz14_3 hfz14_0 hfz14_1 hfz14_2 hfz14_3); (try clear hcz16_0 hcz16_1 hcz16_2 hcz16_3 hfz16_0 hfz16_1 hfz16_2 hfz16_3); (try clear hcz17_0 hcz17_1 hcz17_2 hcz17_3 hfz17_0 hfz17_1 hfz17_2 hfz17_3); (try clear hcz19_0 hcz19_1 hcz19_2 hcz19_3 hfz19_0 hfz19_1 hfz19_2 hfz19_3); (try clear hcz20_0 hcz20_1 hcz20_2 hcz20_3 hfz20_0 hfz20_1 hfz20_2 hfz20_3)
        try clear BK469 BK470 HB
        obtain ⟨x5_2, rfl, HA, HK2, BK469, BK470, HB⟩ := hrel
        cases gk with
        | zero => exact absurd HA.out (by simp [laws_sameMeta.l0])
        | succ k2 =>
          have H := HA.out
          clear HA
          simp only [laws_sameMeta.l0] at H
          by_cases c22 : x5_2 < (l0_3.length : Int)
          case neg =>
            rw [if_neg c22] at H
            have c22b0 := decide_eq_false c22
            clear c22
            obtain rfl := Option.some.inj H
            have hnb37 := NB469_470.out
            have hnc37 := NB470_469.out
            obtain ⟨_, _, _, _, _, _, _, _⟩ := qk4 BK469.out
            go_wp2
            repeat (go_quiet (fail); try go_wp2)
            go_ret
            exact ⟨zc, zai⟩

          rw [if_pos c22] at H
          have c22b0 := decide_eq_true c22
          clear c22
          by_cases c23 : 0 ≤ x5_2
          case neg => exact qn c23 H
          rw [if_pos c23] at H
          have c23b0 := decide_eq_true c23
          clear c23
          by_cases c24 : x5_2 < (l1_3.length : Int)
          case neg => exact qn c24 H
          rw [if_pos c24] at H
          have c24b0 := decide_eq_true c24
          clear c24
          by_cases c25 : ((rd_T60 l0_3 x5_2).f0) = ((rd_T60 l1_3 x5_2).f0)
          case neg =>
            rw [if_neg c25] at H
            have c25b0 : (((rd_T60 l0_3 x5_2).f0) == ((rd_T60 l1_3 x5_2).f0)) = false := beq_eq_false_iff_ne.mpr c25
            have c25b1 : (((rd_T60 l0_3 x5_2).f0) != ((rd_T60 l1_3 x5_2).f0)) = true := bne_iff_ne.mpr c25
            obtain rfl := Option.some.inj H
            have hnb34 := NB469_470.out
            have hnc34 := NB470_469.out
            obtain ⟨_, _, _, _, _, _, _, _⟩ := qk4 BK469.out
            have p471 : 0 ≤ (x5_2 : Int) := of_decide_eq_true zb
            have q471 : x5_2 < (l0_3.length : Int) := of_decide_eq_true zb
            obtain ⟨ad471, A471_1, c471_1, e471, hx471_0, hx471_1, hl471_1, hi471_1⟩ := at_T60 HR0_3.out x5_2 p471 q471
            cases e471
            replace hx471_0 := qw HB hx471_0
            replace hx471_1 := qw HB hx471_1
            clear hi471_1 hl471_1
            replace p471 := eq_true p471
            replace q471 := eq_true q471
            obtain ⟨_, _, _, _, _, _, _, _⟩ := qk4 BK470.out
            have p472 : 0 ≤ (x5_2 : Int) := of_decide_eq_true zb
            have q472 : x5_2 < (l1_3.length : Int) := of_decide_eq_true zb
            obtain ⟨ad472, A472_1, c472_1, e472, hx472_0, hx472_1, hl472_1, hi472_1⟩ := at_T60 HR1_3.out x5_2 p472 q472
            cases e472
            replace hx472_0 := qw HB hx472_0
            replace hx472_1 := qw HB hx472_1
            clear hi472_1 hl472_1
            replace p472 := eq_true p472
            replace q472 := eq_true q472
            go_wp2
            repeat (go_quiet (fail); try go_wp2)
            go_ret
            exact ⟨zc, zai⟩
          rw [if_pos c25] at H
          have c25b0 : (((rd_T60 l0_3 x5_2).f0) == ((rd_T60 l1_3 x5_2).f0)) = true := beq_iff_eq.mpr c25
          have c25b1 : (((rd_T60 l0_3 x5_2).f0) != ((rd_T60 l1_3 x5_2).f0)) = false := bne_eq_false_iff_eq.mpr c25
          clear c25
          replace H := qi H
          obtain ⟨t475, A26, H⟩ := H
          by_cases c27 : t475 = true
          case neg =>
            replace c27 := Bool.eq_false_iff.mpr c27
            subst c27
            rw [if_neg (qj)] at H
            obtain rfl := Option.some.inj H
            have hnb31 := NB469_470.out
            have hnc31 := NB470_469.out
            obtain ⟨_, _, _, _, _, _, _, _⟩ := qk4 BK469.out
            have p471 : 0 ≤ (x5_2 : Int) := of_decide_eq_true zb
            have q471 : x5_2 < (l0_3.length : Int) := of_decide_eq_true zb
            obtain ⟨ad471, A471_1, c471_1, e471, hx471_0, hx471_1, hl471_1, hi471_1⟩ := at_T60 HR0_3.out x5_2 p471 q471
            cases e471
            replace hx471_0 := qw HB hx471_0
            replace hx471_1 := qw HB hx471_1
            clear hi471_1 hl471_1
            replace p471 := eq_true p471
            replace q471 := eq_true q471
            obtain ⟨_, _, _, _, _, _, _, _⟩ := qk4 BK470.out
            have p472 : 0 ≤ (x5_2 : Int) := of_decide_eq_true zb
            have q472 : x5_2 < (l1_3.length : Int) := of_decide_eq_true zb
            obtain ⟨ad472, A472_1, c472_1, e472, hx472_0, hx472_1, hl472_1, hi472_1⟩ := at_T60 HR1_3.out x5_2 p472 q472
            cases e472
            replace hx472_0 := qw HB hx472_0
            replace hx472_1 := qw HB hx472_1
            clear hi472_1 hl472_1
            replace p472 := eq_true p472
            replace q472 := eq_true q472
            have p473 : 0 ≤ (x5_2 : Int) := of_decide_eq_true zb
            have q473 : x5_2 < (l0_3.length : Int) := of_decide_eq_true zb
            obtain ⟨ad473, A473_1, c473_1, e473, hx473_0, hx473_1, hl473_1, hi473_1⟩ := at_T60 HR0_3.out x5_2 p473 q473
            obtain rfl : ad471 = ad473 := (by injection e473)
            replace hx473_0 := qw HB hx473_0
            replace hx473_1 := qw HB hx473_1
            have HR473_1 := Aside0.mk hi473_1
            have HC473_1 := Aside0.mk hl473_1
            clear hi473_1 hl473_1
            replace p473 := eq_true p473
            replace q473 := eq_true q473
            have ea_ := Option.some.inj (hx471_1.symm.trans hx473_1)
            injection ea_ with ea_ en_ ec_
            subst ea_
            subst ec_
            clear en_
            have p474 : 0 ≤ (x5_2 : Int) := of_decide_eq_true zb
            have q474 : x5_2 < (l1_3.length : Int) := of_decide_eq_true zb
            obtain ⟨ad474, A474_1, c474_1, e474, hx474_0, hx474_1, hl474_1, hi474_1⟩ := at_T60 HR1_3.out x5_2 p474 q474
            obtain rfl : ad472 = ad474 := (by injection e474)
            replace hx474_0 := qw HB hx474_0
            replace hx474_1 := qw HB hx474_1
            have HR474_1 := Aside0.mk hi474_1
            have HC474_1 := Aside0.mk hl474_1
            clear hi474_1 hl474_1
            replace p474 := eq_true p474
            replace q474 := eq_true q474
            have ea_ := Option.some.inj (hx472_1.symm.trans hx474_1)
            injection ea_ with ea_ en_ ec_
            subst ea_
            subst ec_
            clear en_
            go_wp2_with (first | (go_at_call 54; (with_reducible refine (laws_sameInts.calls k2 _ _ ((rd_T60 l0_3 x5_2).f1) _ _ ((rd_T60 l1_3 x5_2).f1) false _ ?side1 ?side2 ?side3 ?side4 A26.out).mono ?_); (case side1 => exact zbr); (case side2 => exact HC473_1.out); (case side3 => exact zbs); (case side4 => exact HC474_1.out); rintro e w' ⟨rfl, ⟨nd, rfl⟩⟩; (try first | exact ⟨rfl, _, World.drewN_drewN _ _ _⟩ | exact ⟨rfl, _, Eq.trans (World.drewN_drewN _ _ _) (congrArg (World.drewN _) (Nat.add_assoc _ _ _))⟩)))
            repeat (go_quiet (first | (go_at_call 54; (with_reducible refine (laws_sameInts.calls k2 _ _ ((rd_T60 l0_3 x5_2).f1) _ _ ((rd_T60 l1_3 x5_2).f1) false _ ?side1 ?side2 ?side3 ?side4 A26.out).mono ?_); (case side1 => exact zbr); (case side2 => exact HC473_1.out); (case side3 => exact zbs); (case side4 => exact HC474_1.out); rintro e w' ⟨rfl, ⟨nd, rfl⟩⟩; (try first | exact ⟨rfl, _, World.drewN_drewN _ _ _⟩ | exact ⟨rfl, _, Eq.trans (World.drewN_drewN _ _ _) (congrArg (World.drewN _) (Nat.add_assoc _ _ _))⟩))); try go_wp2_with (first | (go_at_call 54; (with_reducible refine (laws_sameInts.calls k2 _ _ ((rd_T60 l0_3 x5_2).f1) _ _ ((rd_T60 l1_3 x5_2).f1) false _ ?side1 ?side2 ?side3 ?side4 A26.out).mono ?_); (case side1 => exact zbr); (case side2 => exact HC473_1.out); (case side3 => exact zbs); (case side4 => exact HC474_1.out); rintro e w' ⟨rfl, ⟨nd, rfl⟩⟩; (try first | exact ⟨rfl, _, World.drewN_drewN _ _ _⟩ | exact ⟨rfl, _, Eq.trans (World.drewN_drewN _ _ _) (congrArg (World.drewN _) (Nat.add_assoc _ _ _))⟩))))
            go_ret
            exact ⟨zc, zai⟩
          subst c27
          rw [if_pos rfl] at H
          have H' := Aside0.mk H
          clear H
          have hnb28 := NB469_470.out
          have hnc28 := NB470_469.out
          obtain ⟨_, _, _, _, _, _, _, _⟩ := qk4 BK469.out
          have p471 : 0 ≤ (x5_2 : Int) := of_decide_eq_true zb
          have q471 : x5_2 < (l0_3.length : Int) := of_decide_eq_true zb
          obtain ⟨ad471, A471_1, c471_1, e471, hx471_0, hx471_1, hl471_1, hi471_1⟩ := at_T60 HR0_3.out x5_2 p471 q471
          cases e471
          replace hx471_0 := qw HB hx471_0
          replace hx471_1 := qw HB hx471_1
          clear hi471_1 hl471_1
          replace p471 := eq_true p471
          replace q471 := eq_true q471
          obtain ⟨_, _, _, _, _, _, _, _⟩ := qk4 BK470.out
          have p472 : 0 ≤ (x5_2 : Int) := of_decide_eq_true zb
          have q472 : x5_2 < (l1_3.length : Int) := of_decide_eq_true zb
          obtain ⟨ad472, A472_1, c472_1, e472, hx472_0, hx472_1, hl472_1, hi472_1⟩ := at_T60 HR1_3.out x5_2 p472 q472
          cases e472
          replace hx472_0 := qw HB hx472_0
          replace hx472_1 := qw HB hx472_1
          clear hi472_1 hl472_1
          replace p472 := eq_true p472
          replace q472 := eq_true q472
          have p473 : 0 ≤ (x5_2 : Int) := of_decide_eq_true zb
          have q473 : x5_2 < (l0_3.length : Int) := of_decide_eq_true zb
          obtain ⟨ad473, A473_1, c473_1, e473, hx473_0, hx473_1, hl473_1, hi473_1⟩ := at_T60 HR0_3.out x5_2 p473 q473
          obtain rfl : ad471 = ad473 := (by injection e473)
          replace hx473_0 := qw HB hx473_0
          replace hx473_1 := qw HB hx473_1
          have HR473_1 := Aside0.mk hi473_1
          have HC473_1 := Aside0.mk hl473_1
          clear hi473_1 hl473_1
          replace p473 := eq_true p473
          replace q473 := eq_true q473
          have ea_ := Option.some.inj (hx471_1.symm.trans hx473_1)
          injection ea_ with ea_ en_ ec_
          subst ea_
          subst ec_
          clear en_
          have p474 : 0 ≤ (x5_2 : Int) := of_decide_eq_true zb
          have q474 : x5_2 < (l1_3.length : Int) := of_decide_eq_true zb
          obtain ⟨ad474, A474_1, c474_1, e474, hx474_0, hx474_1, hl474_1, hi474_1⟩ := at_T60 HR1_3.out x5_2 p474 q474
          obtain rfl : ad472 = ad474 := (by injection e474)
          replace hx474_0 := qw HB hx474_0
          replace hx474_1 := qw HB hx474_1
          have HR474_1 := Aside0.mk hi474_1
          have HC474_1 := Aside0.mk hl474_1
          clear hi474_1 hl474_1
          replace p474 := eq_true p474
          replace q474 := eq_true q474
          have ea_ := Option.some.inj (hx472_1.symm.trans hx474_1)
          injection ea_ with ea_ en_ ec_
          subst ea_
          subst ec_
          clear en_
          go_wp2_with (first | (go_at_call 54; (with_reducible refine (laws_sameInts.calls k2 _ _ ((rd_T60 l0_3 x5_2).f1) _ _ ((rd_T60 l1_3 x5_2).f1) true _ ?side1 ?side2 ?side3 ?side4 A26.out).mono ?_); (case side1 => exact zbr); (case side2 => exact HC473_1.out); (case side3 => exact zbs); (case side4 => exact HC474_1.out); rintro e w' ⟨rfl, ⟨nd, rfl⟩⟩; (try first | exact ⟨rfl, _, World.drewN_drewN _ _ _⟩ | exact ⟨rfl, _, Eq.trans (World.drewN_drewN _ _ _) (congrArg (World.drewN _) (Nat.add_assoc _ _ _))⟩)))
          repeat (go_quiet (first | (go_at_call 54; (with_reducible refine (laws_sameInts.calls k2 _ _ ((rd_T60 l0_3 x5_2).f1) _ _ ((rd_T60 l1_3 x5_2).f1) true _ ?side1 ?side2 ?side3 ?side4 A26.out).mono ?_); (case side1 => exact zbr); (case side2 => exact HC473_1.out); (case side3 => exact zbs); (case side4 => exact HC474_1.out); rintro e w' ⟨rfl, ⟨nd, rfl⟩⟩; (try first | exact ⟨rfl, _, World.drewN_drewN _ _ _⟩ | exact ⟨rfl, _, Eq.trans (World.drewN_drewN _ _ _) (congrArg (World.drewN _) (Nat.add_assoc _ _ _))⟩))); try go_wp2_with (first | (go_at_call 54; (with_reducible refine (laws_sameInts.calls k2 _ _ ((rd_T60 l0_3 x5_2).f1) _ _ ((rd_T60 l1_3 x5_2).f1) true _ ?side1 ?side2 ?side3 ?side4 A26.out).mono ?_); (case side1 => exact zbr); (case side2 => exact HC473_1.out); (case side3 => exact zbs); (case side4 => exact HC474_1.out); rintro e w' ⟨rfl, ⟨nd, rfl⟩⟩; (try first | exact ⟨rfl, _, World.drewN_drewN _ _ _⟩ | exact ⟨rfl, _, Eq.trans (World.drewN_drewN _ _ _) (congrArg (World.drewN _) (Nat.add_assoc _ _ _))⟩))))
          go_roundg k2
          case measure => have := HJ2.out; have := HK2.out; omega
          case rel => exact ⟨(wrap64 (x5_2 + 1)), zd, H', ⟨by have := HJ2.out; have := HK2.out; omega⟩, ⟨zch⟩, ⟨zci⟩, ⟨zai⟩⟩
end Go.Proofs.Yteokilffbcbllaa.VFnBest
