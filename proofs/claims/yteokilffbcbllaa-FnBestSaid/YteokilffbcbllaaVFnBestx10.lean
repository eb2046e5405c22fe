-- Written by a program of this repo (wip/myprint.py), over the kit's print; functions that the print does not take stand in it by hand-proved contracts.
import Derived.Test.YteokilffbcbllaaVFnBestx0
import Derived.Test.YteokilffbcbllaaVFnBestx9
namespace Go.Proofs.Yteokilffbcbllaa.VFnBest
open Go.RowKit Go.Proofs.YteokilffbcbllaaW.PrintWords Go.Proofs.YteokilffbcbllaaW.PrintLast Go.Proofs.YteokilffbcbllaaW.PrintMore
attribute [local go_sem] max2_int min2_int max_two min_two max_three min_three max_four min_four   -- for this text's walks alone
attribute [local go_sem high] str_leq str_gtr str_geq str_lss
set_option linter.unusedVariables false
set_option linter.unusedSimpArgs false

/-! ### impl_Unsealed: function 27 -/
def impl_Unsealed.f (k : Nat) (a0 : ByteArray) : Option (ByteArray × Bool) := (impl_in.f (wrap64 ((a0.size : Int) - 4)) 0 20000).bind fun t198 => (if t198 = true then (if 0 ≤ (wrap64 ((a0.size : Int) - 4)) then (if (wrap64 ((a0.size : Int) - 4)) ≤ (a0.size : Int) then ((impl_seal.f k (a0.extract 0 ((wrap64 ((a0.size : Int) - 4)) : Int).toNat)).bind fun t199 => (if (a0.extract ((wrap64 ((a0.size : Int) - 4)) : Int).toNat a0.size).toList = t199.toList then (some (a0.extract 0 ((wrap64 ((a0.size : Int) - 4)) : Int).toNat, true)) else (some ((⟨#[]⟩ : ByteArray), false)))) else (none)) else (none)) else (some ((⟨#[]⟩ : ByteArray), false)))
theorem impl_Unsealed.mono : ∀ a0 k, LeO (impl_Unsealed.f k a0) (impl_Unsealed.f (k + 1) a0) := by
  intro a0 k
  unfold impl_Unsealed.f
  exact qv
def impl_Unsealed.T2 : Bool × List (List Nat × List Nat) := (true, [([], []), ([0], [0]), ([1], [1]), ([2, 1], [2]), ([3], [3]), ([3], [3]), ([4, 5, 3], [3, 4, 5]), ([3], [3]), ([3], [3]), ([7, 8, 3], [3, 7, 8]), ([9, 3, 3], [3, 9]), ([6, 10, 3], [3, 6, 10]), ([3, 11], [3, 11])])
def impl_Unsealed.B2 : List Nat := [0, 1, 3, 7, 15, 15, 63, 15, 15, 399, 911, 2047, 4095]
theorem impl_Unsealed.tab2 : rtab .any (opsOf Try.f27 2) = impl_Unsealed.T2 := by kernel_rfl
theorem impl_Unsealed.bits2 : waitsOk impl_Unsealed.T2.2 impl_Unsealed.B2 = true := by kernel_rfl
set_option maxHeartbeats 8000000 in
set_option maxRecDepth 100000 in
theorem impl_Unsealed.calls (k : Nat) (a0 : ByteArray) (r1 : ByteArray) (r2 : Bool) (w : World) (h : impl_Unsealed.f k a0 = some (r1, r2)) :
    Calls Try.prog 27 #[.string a0] w fun e w' => e = .returned (.tuple #[.string r1, .bool r2]) ∧ Below w.heap.size w w' := by
  have HB := Aside0.mk (Below.refl w.heap.size w)
  unfold impl_Unsealed.f at h
  have H := h
  clear h
  replace H := qi H
  obtain ⟨t198, A2, H⟩ := H
  by_cases c3 : t198 = true
  case neg =>
    replace c3 := Bool.eq_false_iff.mpr c3
    subst c3
    rw [if_neg (qj)] at H
    simp only [Option.some.injEq, Prod.mk.injEq] at H
    obtain ⟨rfl, rfl⟩ := H
    go_enter Try.func27, Try.ntmps27
    try go_wp2
    replace HB := Aside0.mk (below_drew1 HB.out)
    refine start_ (n := 13) (S := fun w' => True) (ds := []) (bz 13 0) za5 rfl rfl trivial (fun hHeld => ?_); refine with_tabW impl_Unsealed.tab2 impl_Unsealed.bits2 (fun HT_ HW_ => ?_)
    generalize w.drew = w17 at HB hHeld ⊢
    refine ql 0 (some 8) (bz 13 1) HT_ ?_
    refine qs 1 (some 9) (bz 13 3) HT_ rfl rfl (fun K hK => ?_)
    refine goes_ Try.func58 za5 rfl #[.int .i64 (wrap64 ((a0.size : Int) - 4)), .int .i64 0, .int .i64 20000] zdy rfl rfl zv ?_
    with_reducible refine (impl_in.calls (wrap64 ((a0.size : Int) - 4)) 0 20000 false _ A2.out).mono ?_
    rintro e w' ⟨rfl, ⟨nd, rfl⟩⟩
    refine ⟨_, rfl, ?_⟩
    refine hK.out _ _ trivial (fun hHeld => ?_)
    clear hK K
    refine qr (some 9) ?_
    refine ql 2 (some 10) (bz 13 7) HT_ ?_
    refine ql 3 (some 11) (bz 13 15) HT_ ?_
    refine qo 4 (some 12) (bz 13 31) HT_ ?_
    refine qo 5 (some 13) (bz 13 63) HT_ ?_
    refine qo 6 (some 14) (bz 13 127) HT_ ?_
    refine qo 7 (some 15) (bz 13 255) HT_ ?_
    refine qo 8 (some 16) (bz 13 511) HT_ ?_
    refine qo 9 (some 17) (bz 13 1023) HT_ ?_
    refine qo 10 (some 18) (bz 13 2047) HT_ ?_
    refine qo 11 (some 19) (bz 13 4095) HT_ ?_
    refine ql 12 (some 20) (bz 13 8191) HT_ ?_
    refine qu HT_ ?_
    try go_wp2
    go_ret2
    exact ⟨zc, za⟩

  subst c3
  rw [if_pos rfl] at H
  obtain ⟨ji4, hji4⟩ : ∃ j_ : Int, (wrap64 ((a0.size : Int) - 4)) = j_ := ⟨_, rfl⟩
  replace H : (if 0 ≤ (ji4) then (if (ji4) ≤ (a0.size : Int) then ((impl_seal.f k (a0.extract 0 ((ji4) : Int).toNat)).bind fun t199 => (if (a0.extract ((ji4) : Int).toNat a0.size).toList = t199.toList then (some (a0.extract 0 ((ji4) : Int).toNat, true)) else (some ((⟨#[]⟩ : ByteArray), false)))) else (none)) else (none)) = some (r1, r2) := by first | (rw [hji4] at H; exact H) | (simp only [hji4] at H ⊢; exact H)
  (try rw [hji4] at A2)
  have hji4w : (IntKind.i64.wrap ((a0.size : Int) - 4)) = ji4 := (i64_w _).trans hji4
  by_cases c5 : 0 ≤ (ji4)
  case neg => exact qn c5 H
  rw [if_pos c5] at H
  have c5b0 := eq_true c5
  have c5b1 := decide_eq_true c5
  clear c5
  by_cases c6 : (ji4) ≤ (a0.size : Int)
  case neg => exact qn c6 H
  rw [if_pos c6] at H
  have c6b0 := eq_true c6
  have c6b1 := decide_eq_true c6
  clear c6
  have c7b0 := eq_true (of_decide_eq_true zb : 0 ≤ (ji4))
  have c8b0 := eq_true (of_decide_eq_true zb : (ji4) ≤ (a0.size : Int))
  replace H := qi H
  obtain ⟨t199, A9, H⟩ := H
  by_cases c10 : (a0.extract ((ji4) : Int).toNat a0.size).toList = t199.toList
  case neg =>
    rw [if_neg c10] at H
    have c10b0 : ((a0.extract ((ji4) : Int).toNat a0.size).toList == t199.toList) = false := beq_eq_false_iff_ne.mpr c10
    have c10b1 : ((a0.extract ((ji4) : Int).toNat a0.size).toList != t199.toList) = true := bne_iff_ne.mpr c10
    simp only [Option.some.injEq, Prod.mk.injEq] at H
    obtain ⟨rfl, rfl⟩ := H
    go_enter Try.func27, Try.ntmps27
    try go_wp2
    replace HB := Aside0.mk (below_drew1 HB.out)
    refine start_ (n := 13) (S := fun w' => True) (ds := []) (bz 13 0) za5 rfl rfl trivial (fun hHeld => ?_); refine with_tabW impl_Unsealed.tab2 impl_Unsealed.bits2 (fun HT_ HW_ => ?_)
    generalize w.drew = w15 at HB hHeld ⊢
    refine ql 0 (some 8) (bz 13 1) HT_ ?_
    refine qs 1 (some 9) (bz 13 3) HT_ rfl rfl (fun K hK => ?_)
    refine goes_ Try.func58 za5 rfl #[.int .i64 ji4, .int .i64 0, .int .i64 20000] zdy rfl rfl zcl ?_
    with_reducible refine (impl_in.calls ji4 0 20000 true _ A2.out).mono ?_
    rintro e w' ⟨rfl, ⟨nd, rfl⟩⟩
    refine ⟨_, rfl, ?_⟩
    refine hK.out _ _ trivial (fun hHeld => ?_)
    clear hK K
    refine qr (some 9) ?_
    refine ql 2 (some 10) (bz 13 7) HT_ ?_
    refine ql 3 (some 11) (bz 13 15) HT_ ?_
    refine ql 4 (some 12) (bz 13 31) HT_ ?_
    refine ql 5 (some 13) (bz 13 63) HT_ ?_
    refine ql 6 (some 14) (bz 13 127) HT_ ?_
    refine ql 7 (some 15) (bz 13 255) HT_ ?_
    refine ql 8 (some 16) (bz 13 511) HT_ ?_
    refine ql 9 (some 17) (bz 13 1023) HT_ ?_
    refine qs 10 (some 18) (bz 13 2047) HT_ rfl rfl (fun K hK => ?_)
    refine goes_ Try.func59 za5 rfl #[.string (a0.extract 0 ((ji4) : Int).toNat)] zdy rfl rfl zcl ?_
    with_reducible refine (impl_seal.calls k (a0.extract 0 ((ji4) : Int).toNat) t199 _ A9.out).mono ?_
    rintro e w16 ⟨rfl, hb⟩
    refine ⟨_, rfl, ?_⟩
    replace HB := Aside0.mk (below_step za hb)
    try clear hb
    refine hK.out _ _ trivial (fun hHeld => ?_)
    clear hK K
    refine qr (some 18) ?_
    refine ql 11 (some 19) (bz 13 4095) HT_ ?_
    refine ql 12 (some 20) (bz 13 8191) HT_ ?_
    refine qu HT_ ?_
    try go_wp2
    go_ret2
    exact ⟨by first | rfl | (simp [errW_none, errW_some] <;> rfl) | (simp only [← hji4]; first | rfl | (simp [errW_none, errW_some] <;> rfl)) | (simp [*, errW_none, errW_some] <;> rfl), za⟩
  rw [if_pos c10] at H
  have c10b0 : ((a0.extract ((ji4) : Int).toNat a0.size).toList == t199.toList) = true := beq_iff_eq.mpr c10
  have c10b1 : ((a0.extract ((ji4) : Int).toNat a0.size).toList != t199.toList) = false := bne_eq_false_iff_eq.mpr c10
  clear c10
  have c11b0 := eq_true (of_decide_eq_true zb : 0 ≤ (ji4))
  have c12b0 := eq_true (of_decide_eq_true zb : (ji4) ≤ (a0.size : Int))
  simp only [Option.some.injEq, Prod.mk.injEq] at H
  obtain ⟨rfl, rfl⟩ := H
  go_enter Try.func27, Try.ntmps27
  try go_wp2
  replace HB := Aside0.mk (below_drew1 HB.out)
  refine start_ (n := 13) (S := fun w' => True) (ds := []) (bz 13 0) za5 rfl rfl trivial (fun hHeld => ?_); refine with_tabW impl_Unsealed.tab2 impl_Unsealed.bits2 (fun HT_ HW_ => ?_)
  generalize w.drew = w13 at HB hHeld ⊢
  refine ql 0 (some 8) (bz 13 1) HT_ ?_
  refine qs 1 (some 9) (bz 13 3) HT_ rfl rfl (fun K hK => ?_)
  refine goes_ Try.func58 za5 rfl #[.int .i64 ji4, .int .i64 0, .int .i64 20000] zdy rfl rfl zcl ?_
  with_reducible refine (impl_in.calls ji4 0 20000 true _ A2.out).mono ?_
  rintro e w' ⟨rfl, ⟨nd, rfl⟩⟩
  refine ⟨_, rfl, ?_⟩
  refine hK.out _ _ trivial (fun hHeld => ?_)
  clear hK K
  refine qr (some 9) ?_
  refine ql 2 (some 10) (bz 13 7) HT_ ?_
  refine ql 3 (some 11) (bz 13 15) HT_ ?_
  refine ql 4 (some 12) (bz 13 31) HT_ ?_
  refine ql 5 (some 13) (bz 13 63) HT_ ?_
  refine ql 6 (some 14) (bz 13 127) HT_ ?_
  refine ql 7 (some 15) (bz 13 255) HT_ ?_
  refine ql 8 (some 16) (bz 13 511) HT_ ?_
  refine ql 9 (some 17) (bz 13 1023) HT_ ?_
  refine qs 10 (some 18) (bz 13 2047) HT_ rfl rfl (fun K hK => ?_)
  refine goes_ Try.func59 za5 rfl #[.string (a0.extract 0 ((ji4) : Int).toNat)] zdy rfl rfl zcl ?_
  with_reducible refine (impl_seal.calls k (a0.extract 0 ((ji4) : Int).toNat) t199 _ A9.out).mono ?_
  rintro e w14 ⟨rfl, hb⟩
  refine ⟨_, rfl, ?_⟩
  replace HB := Aside0.mk (below_step za hb)
  try clear hb
  refine hK.out _ _ trivial (fun hHeld => ?_)
  clear hK K
  refine qr (some 18) ?_
  refine ql 11 (some 19) (bz 13 4095) HT_ ?_
  refine ql 12 (some 20) (bz 13 8191) HT_ ?_
  refine qu HT_ ?_
  try go_wp2
  go_ret2
  exact ⟨by first | rfl | (simp [errW_none, errW_some] <;> rfl) | (simp only [← hji4]; first | rfl | (simp [errW_none, errW_some] <;> rfl)) | (simp [*, errW_none, errW_some] <;> rfl), za⟩
/-! ### impl_ReadVar: function 60 -/
mutual
def impl_ReadVar.l0 : Nat → ByteArray → Int → Int → Int → Option (Int × Int × Bool)
  | 0, _, _, _, _ => none
  | k + 1, x0, x1, x7, x8 => if x8 < 5 then (impl_ReadVar.j1 k x0 x1 x7 x8 (decide ((wrap64 (x1 + x8)) < (x0.size : Int)))) else (impl_ReadVar.j1 k x0 x1 x7 x8 false)
def impl_ReadVar.j1 : Nat → ByteArray → Int → Int → Int → Bool → Option (Int × Int × Bool)
  | 0, _, _, _, _, _ => none
  | k + 1, x0, x1, x7, x8, x24 => if x24 = true then (if 0 ≤ (wrap64 (x1 + x8)) then (if (wrap64 (x1 + x8)) < (x0.size : Int) then (if 0 ≤ (wrap64 (7 * x8)) then (if (wrap64 (bt x0 (wrap64 (x1 + x8)))) > 127 then (impl_ReadVar.l0 k x0 x1 (Go.bits .or .i64 x7 (shl .i64 (Go.bits .and .i64 (wrap64 (bt x0 (wrap64 (x1 + x8)))) 127) (wrap64 (7 * x8)))) (wrap64 (x8 + 1))) else (if (wrap64 (bt x0 (wrap64 (x1 + x8)))) = 0 then (if x8 > 0 then (some (0, 0, false)) else (if (Go.bits .or .i64 x7 (shl .i64 (Go.bits .and .i64 (wrap64 (bt x0 (wrap64 (x1 + x8)))) 127) (wrap64 (7 * x8)))) > 1000000000 then (some (0, 0, false)) else (some (Go.bits .or .i64 x7 (shl .i64 (Go.bits .and .i64 (wrap64 (bt x0 (wrap64 (x1 + x8)))) 127) (wrap64 (7 * x8))), wrap64 ((wrap64 (x1 + x8)) + 1), true)))) else (if (Go.bits .or .i64 x7 (shl .i64 (Go.bits .and .i64 (wrap64 (bt x0 (wrap64 (x1 + x8)))) 127) (wrap64 (7 * x8)))) > 1000000000 then (some (0, 0, false)) else (some (Go.bits .or .i64 x7 (shl .i64 (Go.bits .and .i64 (wrap64 (bt x0 (wrap64 (x1 + x8)))) 127) (wrap64 (7 * x8))), wrap64 ((wrap64 (x1 + x8)) + 1), true))))) else (none)) else (none)) else (none)) else (some (0, 0, false))
end
def impl_ReadVar.f (k : Nat) (a0 : ByteArray) (a1 : Int) : Option (Int × Int × Bool) := (impl_in.f a1 0 (a0.size : Int)).bind fun t200 => (if t200 = true then (impl_ReadVar.l0 k a0 a1 0 0) else (some (0, 0, false)))
theorem impl_ReadVar.mono_l : ∀ k, (∀ y0 y1 y2 y3, LeO (impl_ReadVar.l0 k y0 y1 y2 y3) (impl_ReadVar.l0 (k + 1) y0 y1 y2 y3)) ∧ (∀ y0 y1 y2 y3 y4, LeO (impl_ReadVar.j1 k y0 y1 y2 y3 y4) (impl_ReadVar.j1 (k + 1) y0 y1 y2 y3 y4))
  | 0 => ⟨fun _ _ _ _ r h => by simp [impl_ReadVar.l0] at h, fun _ _ _ _ _ r h => by simp [impl_ReadVar.j1] at h⟩
  | k + 1 => by
    obtain ⟨ih0, ih1⟩ := impl_ReadVar.mono_l k
    refine ⟨?_, ?_⟩
    · intro y0 y1 y2 y3
      unfold impl_ReadVar.l0
      exact qv
    · intro y0 y1 y2 y3 y4
      unfold impl_ReadVar.j1
      exact qv
theorem impl_ReadVar.mono : ∀ a0 a1 k, LeO (impl_ReadVar.f k a0 a1) (impl_ReadVar.f (k + 1) a0 a1) := by
  intro a0 a1 k
  obtain ⟨ih0, ih1⟩ := impl_ReadVar.mono_l k
  unfold impl_ReadVar.f
  exact qv
set_option maxHeartbeats 8000000 in
set_option maxRecDepth 100000 in
theorem impl_ReadVar.calls (k : Nat) (a0 : ByteArray) (a1 : Int) (r1 : Int) (r2 : Int) (r3 : Bool) (w : World) (h : impl_ReadVar.f k a0 a1 = some (r1, r2, r3)) :
    Calls Try.prog 60 #[.string a0, .int .i64 a1] w fun e w' => e = .returned (.tuple #[.int .i64 r1, .int .i64 r2, .bool r3]) ∧ Drawn0 w w' := by
  unfold impl_ReadVar.f at h
  have H := h
  clear h
  replace H := qi H
  obtain ⟨t200, A3, H⟩ := H
  by_cases c4 : t200 = true
  case neg =>
    replace c4 := Bool.eq_false_iff.mpr c4
    subst c4
    rw [if_neg (qj)] at H
    simp only [Option.some.injEq, Prod.mk.injEq] at H
    obtain ⟨rfl, rfl, rfl⟩ := H
    go_enter Try.func60, Try.ntmps60
    go_wp2_with (first | ((with_reducible refine gate_callee (f := 58) rfl ?_); refine qG (some 13) Try.func58 #[.int .i64 a1, .int .i64 0, .int .i64 (a0.size : Int)] ?_; (with_reducible refine (impl_in.calls a1 0 (a0.size : Int) false _ A3.out).mono ?_); rintro e w' ⟨rfl, ⟨nd, rfl⟩⟩; refine ⟨_, rfl, ?_⟩))
    go_ret3
    exact ⟨zd, z5⟩

  subst c4
  rw [if_pos rfl] at H
  have H' := Aside0.mk H
  clear H
  go_enter Try.func60, Try.ntmps60
  go_wp2_with (first | ((with_reducible refine gate_callee (f := 58) rfl ?_); refine qG (some 13) Try.func58 #[.int .i64 a1, .int .i64 0, .int .i64 (a0.size : Int)] ?_; (with_reducible refine (impl_in.calls a1 0 (a0.size : Int) true _ A3.out).mono ?_); rintro e w' ⟨rfl, ⟨nd, rfl⟩⟩; refine ⟨_, rfl, ?_⟩))
  go_loopg [7, 8] k (fun kq v7 v8 w' => ∃ (x7_1 : Int) (x8_1 : Int), v7 = .int .i64 x7_1 ∧ v8 = .int .i64 x8_1 ∧ Aside0 (impl_ReadVar.l0 kq a0 a1 x7_1 x8_1 = some (r1, r2, r3)) ∧ Aside0 (kq ≤ k) ∧ Drawn0 w w')
  case atStart => exact ⟨(0), (0), zd, zd, H', ⟨Nat.le_refl _⟩, z5⟩
  case round =>
    clear H'
    (try clear c4)
    obtain ⟨x7_1, x8_1, rfl, rfl, HA, HK1, ⟨m1, rfl⟩⟩ := hrel
    cases gk with
    | zero => exact absurd HA.out (by simp [impl_ReadVar.l0])
    | succ k1 =>
      have H := HA.out
      clear HA
      simp only [impl_ReadVar.l0] at H
      have HC5 := Aside0.mk H
      clear H
      go_upto_region 5 with (fail)
      go_cut [24] (fun v24 wc => ∃ (kq : Nat) (x24_4 : Bool), v24 = .bool x24_4 ∧ Aside0 (impl_ReadVar.j1 kq a0 a1 x7_1 x8_1 x24_4 = some (r1, r2, r3)) ∧ Aside0 (kq ≤ k1) ∧ Drawn0 w wc)
      case first =>
        have H := HC5.out
        clear HC5
        by_cases c6 : x8_1 < 5
        case neg =>
          rw [if_neg c6] at H
          have c6b0 := decide_eq_false c6
          clear c6
          (first | rw [c6b0] | (simp only [i64_w, i32_w]; rw [c6b0]) | skip)
          have H' := Aside0.mk H
          clear H
          go_wp2
          go_meet
          case rel => exact ⟨_, (false), zd, H', ⟨zcy⟩, z5⟩
        rw [if_pos c6] at H
        have c6b0 := decide_eq_true c6
        clear c6
        (first | rw [c6b0] | (simp only [i64_w, i32_w]; rw [c6b0]) | skip)
        have H' := Aside0.mk H
        clear H
        go_wp2
        go_meet
        case rel => exact ⟨_, (decide ((wrap64 (a1 + x8_1)) < (a0.size : Int))), zd, H', ⟨zcy⟩, z5⟩
      case rest =>
        clear HC5
        (try clear c4); (try clear c6); (try clear c6b0)
        obtain ⟨kq, x24_4, rfl, HA, HJ4, ⟨mc4, rfl⟩⟩ := hcut
        cases kq with
        | zero => exact absurd HA.out (by simp [impl_ReadVar.j1])
        | succ kj4 =>
          have H := HA.out
          clear HA
          simp only [impl_ReadVar.j1] at H
          by_cases c7 : x24_4 = true
          case neg =>
            replace c7 := Bool.eq_false_iff.mpr c7
            subst c7
            rw [if_neg (qj)] at H
            simp only [Option.some.injEq, Prod.mk.injEq] at H
            obtain ⟨rfl, rfl, rfl⟩ := H
            go_wp2
            go_ret3
            exact ⟨zd, z5⟩
          subst c7
          rw [if_pos rfl] at H
          obtain ⟨ji8, hji8⟩ : ∃ j_ : Int, (wrap64 (a1 + x8_1)) = j_ := ⟨_, rfl⟩
          replace H : (if 0 ≤ (ji8) then (if (ji8) < (a0.size : Int) then (if 0 ≤ (wrap64 (7 * x8_1)) then (if (wrap64 (bt a0 (ji8))) > 127 then (impl_ReadVar.l0 kj4 a0 a1 (Go.bits .or .i64 x7_1 (shl .i64 (Go.bits .and .i64 (wrap64 (bt a0 (ji8))) 127) (wrap64 (7 * x8_1)))) (wrap64 (x8_1 + 1))) else (if (wrap64 (bt a0 (ji8))) = 0 then (if x8_1 > 0 then (some (0, 0, false)) else (if (Go.bits .or .i64 x7_1 (shl .i64 (Go.bits .and .i64 (wrap64 (bt a0 (ji8))) 127) (wrap64 (7 * x8_1)))) > 1000000000 then (some (0, 0, false)) else (some (Go.bits .or .i64 x7_1 (shl .i64 (Go.bits .and .i64 (wrap64 (bt a0 (ji8))) 127) (wrap64 (7 * x8_1))), wrap64 ((ji8) + 1), true)))) else (if (Go.bits .or .i64 x7_1 (shl .i64 (Go.bits .and .i64 (wrap64 (bt a0 (ji8))) 127) (wrap64 (7 * x8_1)))) > 1000000000 then (some (0, 0, false)) else (some (Go.bits .or .i64 x7_1 (shl .i64 (Go.bits .and .i64 (wrap64 (bt a0 (ji8))) 127) (wrap64 (7 * x8_1))), wrap64 ((ji8) + 1), true))))) else (none)) else (none)) else (none)) = some (r1, r2, r3) := by first | (rw [hji8] at H; exact H) | (simp only [hji8] at H ⊢; exact H)
          have hji8w : (IntKind.i64.wrap (a1 + x8_1)) = ji8 := (i64_w _).trans hji8
          by_cases c9 : 0 ≤ (ji8)
          case neg => exact qn c9 H
          rw [if_pos c9] at H
          have c9b0 := decide_eq_true c9
          clear c9
          by_cases c10 : (ji8) < (a0.size : Int)
          case neg => exact qn c10 H
          rw [if_pos c10] at H
          have c10b0 := decide_eq_true c10
          clear c10
          obtain ⟨ji12, hji12⟩ : ∃ j_ : Int, (wrap64 (7 * x8_1)) = j_ := ⟨_, rfl⟩
          replace H : (if 0 ≤ (ji12) then (if (wrap64 (bt a0 (ji8))) > 127 then (impl_ReadVar.l0 kj4 a0 a1 (Go.bits .or .i64 x7_1 (shl .i64 (Go.bits .and .i64 (wrap64 (bt a0 (ji8))) 127) (ji12))) (wrap64 (x8_1 + 1))) else (if (wrap64 (bt a0 (ji8))) = 0 then (if x8_1 > 0 then (some (0, 0, false)) else (if (Go.bits .or .i64 x7_1 (shl .i64 (Go.bits .and .i64 (wrap64 (bt a0 (ji8))) 127) (ji12))) > 1000000000 then (some (0, 0, false)) else (some (Go.bits .or .i64 x7_1 (shl .i64 (Go.bits .and .i64 (wrap64 (bt a0 (ji8))) 127) (ji12)), wrap64 ((ji8) + 1), true)))) else (if (Go.bits .or .i64 x7_1 (shl .i64 (Go.bits .and .i64 (wrap64 (bt a0 (ji8))) 127) (ji12))) > 1000000000 then (some (0, 0, false)) else (some (Go.bits .or .i64 x7_1 (shl .i64 (Go.bits .and .i64 (wrap64 (bt a0 (ji8))) 127) (ji12)), wrap64 ((ji8) + 1), true))))) else (none)) = some (r1, r2, r3) := by first | (rw [hji12] at H; exact H) | (simp only [hji12] at H ⊢; exact H)
          have hji12w : (IntKind.i64.wrap (7 * x8_1)) = ji12 := (i64_w _).trans hji12
          by_cases c13 : 0 ≤ (ji12)
          case neg => exact qn c13 H
          rw [if_pos c13] at H
          have c13b0 := eq_true c13
          have c13b1 := decide_eq_true c13
          clear c13
          obtain ⟨ji14, hji14⟩ : ∃ j_ : Int, (shl .i64 (Go.bits .and .i64 (wrap64 (bt a0 (ji8))) 127) (ji12)) = j_ := ⟨_, rfl⟩
          replace H : (if (wrap64 (bt a0 (ji8))) > 127 then (impl_ReadVar.l0 kj4 a0 a1 (Go.bits .or .i64 x7_1 (ji14)) (wrap64 (x8_1 + 1))) else (if (wrap64 (bt a0 (ji8))) = 0 then (if x8_1 > 0 then (some (0, 0, false)) else (if (Go.bits .or .i64 x7_1 (ji14)) > 1000000000 then (some (0, 0, false)) else (some (Go.bits .or .i64 x7_1 (ji14), wrap64 ((ji8) + 1), true)))) else (if (Go.bits .or .i64 x7_1 (ji14)) > 1000000000 then (some (0, 0, false)) else (some (Go.bits .or .i64 x7_1 (ji14), wrap64 ((ji8) + 1), true))))) = some (r1, r2, r3) := by first | (rw [hji14] at H; exact H) | (simp only [hji14] at H ⊢; exact H)
          have hji14_ : (IntKind.i64.wrap ((Go.bits .and .i64 (wrap64 (bt a0 (ji8))) 127) * 2 ^ min (ji12).toNat 64)) = ji14 := hji14
          have hji14z : (ji12) ≤ 64 → (IntKind.i64.wrap ((Go.bits .and .i64 (wrap64 (bt a0 (ji8))) 127) * 2 ^ (ji12).toNat)) = ji14 := shl_small hji14
          have hji14y : (wrap64 ((Go.bits .and .i64 (wrap64 (bt a0 (ji8))) 127) * 2 ^ min (ji12).toNat 64)) = ji14 := (i64_w _).symm.trans hji14_
          have hji14x : (ji12) ≤ 64 → (wrap64 ((Go.bits .and .i64 (wrap64 (bt a0 (ji8))) 127) * 2 ^ (ji12).toNat)) = ji14 := fun h_ => (i64_w _).symm.trans (hji14z h_)
          by_cases c15 : (wrap64 (bt a0 (ji8))) > 127
          case pos =>
            rw [if_pos c15] at H
            have c15b0 : decide (127 < (wrap64 (bt a0 (ji8)))) = true := decide_eq_true c15
            clear c15
            have H' := Aside0.mk H
            clear H
            have p11 : 0 ≤ ((ji8) : Int) := of_decide_eq_true zb
            have q11 : (ji8) < (a0.size : Int) := of_decide_eq_true zb
            have hx11 := bt_at a0 (ji8)
            replace p11 := eq_true p11
            replace q11 := eq_true q11
            go_wp2
            go_roundg kj4
            case measure => have := HK1.out; have := HJ4.out; omega
            case rel => exact ⟨(Go.bits .or .i64 x7_1 (ji14)), (wrap64 (x8_1 + 1)), (by first | rfl | (simp; done) | (simp only [← hji14] <;> (first | rfl | simp)) | (simp [*]; done)), zd, H', ⟨by have := HK1.out; have := HJ4.out; omega⟩, z5⟩
          rw [if_neg c15] at H
          have c15b0 : decide (127 < (wrap64 (bt a0 (ji8)))) = false := decide_eq_false c15
          clear c15
          by_cases c16 : (wrap64 (bt a0 (ji8))) = 0
          case neg =>
            rw [if_neg c16] at H
            have c16b0 : ((wrap64 (bt a0 (ji8))) == 0) = false := beq_eq_false_iff_ne.mpr c16
            have c16b1 : ((wrap64 (bt a0 (ji8))) != 0) = true := bne_iff_ne.mpr c16
            by_cases c19 : (Go.bits .or .i64 x7_1 (ji14)) > 1000000000
            case pos =>
              rw [if_pos c19] at H
              have c19b0 : decide (1000000000 < (Go.bits .or .i64 x7_1 (ji14))) = true := decide_eq_true c19
              clear c19
              simp only [Option.some.injEq, Prod.mk.injEq] at H
              obtain ⟨rfl, rfl, rfl⟩ := H
              have p11 : 0 ≤ ((ji8) : Int) := of_decide_eq_true zb
              have q11 : (ji8) < (a0.size : Int) := of_decide_eq_true zb
              have hx11 := bt_at a0 (ji8)
              replace p11 := eq_true p11
              replace q11 := eq_true q11
              go_wp2
              go_ret3
              exact ⟨zc0, z5⟩
            rw [if_neg c19] at H
            have c19b0 : decide (1000000000 < (Go.bits .or .i64 x7_1 (ji14))) = false := decide_eq_false c19
            clear c19
            simp only [Option.some.injEq, Prod.mk.injEq] at H
            obtain ⟨rfl, rfl, rfl⟩ := H
            have p11 : 0 ≤ ((ji8) : Int) := of_decide_eq_true zb
            have q11 : (ji8) < (a0.size : Int) := of_decide_eq_true zb
            have hx11 := bt_at a0 (ji8)
            replace p11 := eq_true p11
            replace q11 := eq_true q11
            go_wp2
            go_ret3
            exact ⟨zc0, z5⟩
          rw [if_pos c16] at H
          have c16b0 : ((wrap64 (bt a0 (ji8))) == 0) = true := beq_iff_eq.mpr c16
          have c16b1 : ((wrap64 (bt a0 (ji8))) != 0) = false := bne_eq_false_iff_eq.mpr c16
          clear c16
          by_cases c17 : x8_1 > 0
          case pos =>
            rw [if_pos c17] at H
            have c17b0 : decide (0 < x8_1) = true := decide_eq_true c17
            clear c17
            simp only [Option.some.injEq, Prod.mk.injEq] at H
            obtain ⟨rfl, rfl, rfl⟩ := H
            have p11 : 0 ≤ ((ji8) : Int) := of_decide_eq_true zb
            have q11 : (ji8) < (a0.size : Int) := of_decide_eq_true zb
            have hx11 := bt_at a0 (ji8)
            replace p11 := eq_true p11
            replace q11 := eq_true q11
            go_wp2
            go_ret3
            exact ⟨zc0, z5⟩
          rw [if_neg c17] at H
          have c17b0 : decide (0 < x8_1) = false := decide_eq_false c17
          clear c17
          by_cases c18 : (Go.bits .or .i64 x7_1 (ji14)) > 1000000000
          case pos =>
            rw [if_pos c18] at H
            have c18b0 : decide (1000000000 < (Go.bits .or .i64 x7_1 (ji14))) = true := decide_eq_true c18
            clear c18
            simp only [Option.some.injEq, Prod.mk.injEq] at H
            obtain ⟨rfl, rfl, rfl⟩ := H
            have p11 : 0 ≤ ((ji8) : Int) := of_decide_eq_true zb
            have q11 : (ji8) < (a0.size : Int) := of_decide_eq_true zb
            have hx11 := bt_at a0 (ji8)
            replace p11 := eq_true p11
            replace q11 := eq_true q11
            go_wp2
            go_ret3
            exact ⟨zc0, z5⟩
          rw [if_neg c18] at H
          have c18b0 : decide (1000000000 < (Go.bits .or .i64 x7_1 (ji14))) = false := decide_eq_false c18
          clear c18
          simp only [Option.some.injEq, Prod.mk.injEq] at H
          obtain ⟨rfl, rfl, rfl⟩ := H
          have p11 : 0 ≤ ((ji8) : Int) := of_decide_eq_true zb
          have q11 : (ji8) < (a0.size : Int) := of_decide_eq_true zb
          have hx11 := bt_at a0 (ji8)
          replace p11 := eq_true p11
          replace q11 := eq_true q11
          go_wp2
          go_ret3
          exact ⟨zc0, z5⟩
end Go.Proofs.Yteokilffbcbllaa.VFnBest
