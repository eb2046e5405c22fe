-- Written by a program of this repo (wip/myprint.py), over the kit's print; functions that the print does not take stand in it by hand-proved contracts.
import Derived.Test.YteokilffbcbllaaVFnBestx0
import Derived.Test.YteokilffbcbllaaVFnBestx2
import Derived.Test.YteokilffbcbllaaVFnBestx3
namespace Go.Proofs.Yteokilffbcbllaa.VFnBest
open Go.RowKit Go.Proofs.YteokilffbcbllaaW.PrintWords Go.Proofs.YteokilffbcbllaaW.PrintLast Go.Proofs.YteokilffbcbllaaW.PrintMore
attribute [local go_sem] max2_int min2_int max_two min_two max_three min_three max_four min_four   -- for this text's walks alone
attribute [local go_sem high] str_leq str_gtr str_geq str_lss
set_option linter.unusedVariables false
set_option linter.unusedSimpArgs false

/-! ### spec_MetaText: function 20 -/
mutual
def spec_MetaText.l0 : Nat → ByteArray → Int → Int → Int → Int → List (S60) → Option (ByteArray × Bool)
  | 0, _, _, _, _, _, _ => none
  | k + 1, x4, x5, x118000, x118001, x118002, x118003 => if x5 < (x118003.length : Int) then (if 0 ≤ x5 then ((spec_l01Var.f k ((rd_T60 x118003 x5).f0)).bind fun t124 => (if x4.size + t124.size ≤ 9223372036854775807 then ((spec_l01Var.f k (((rd_T60 x118003 x5).f1).length : Int)).bind fun t126 => (if (x4 ++ t124).size + t126.size ≤ 9223372036854775807 then (spec_MetaText.l1 k ((x4 ++ t124) ++ t126) x5 0 x118000 x118001 x118002 x118003) else (none))) else (none))) else (none)) else ((spec_Sealed.f k x4).bind fun bt131 => (if bt131.2 = true then (if (bt131.1.size : Int) > 240 then (some ((⟨#[]⟩ : ByteArray), false)) else (some (bt131.1, true))) else (some ((⟨#[]⟩ : ByteArray), false))))
def spec_MetaText.l1 : Nat → ByteArray → Int → Int → Int → Int → Int → List (S60) → Option (ByteArray × Bool)
  | 0, _, _, _, _, _, _, _ => none
  | k + 1, x4, x5, x6, x118000, x118001, x118002, x118003 => if 0 ≤ x5 then (if x5 < (x118003.length : Int) then (if x6 < (((rd_T60 x118003 x5).f1).length : Int) then (if 0 ≤ x6 then ((spec_l01Var.f k (rd ((rd_T60 x118003 x5).f1) x6)).bind fun t130 => (if x4.size + t130.size ≤ 9223372036854775807 then (spec_MetaText.l1 k (x4 ++ t130) x5 (wrap64 (x6 + 1)) x118000 x118001 x118002 x118003) else (none))) else (none)) else (spec_MetaText.l0 k x4 (wrap64 (x5 + 1)) x118000 x118001 x118002 x118003)) else (none)) else (none)
end
def spec_MetaText.f (k : Nat) (a0_0 : Int) (a0_1 : Int) (a0_2 : Int) (l0_3 : List (S60)) : Option (ByteArray × Bool) := (spec_MetaOk.f k a0_0 a0_1 a0_2 l0_3).bind fun t118 => (if t118 = true then ((spec_l01Var.f k a0_0).bind fun t119 => ((spec_l01Var.f k a0_1).bind fun t120 => (if t119.size + t120.size ≤ 9223372036854775807 then ((spec_l01Var.f k a0_2).bind fun t121 => (if (t119 ++ t120).size + t121.size ≤ 9223372036854775807 then ((spec_l01Var.f k (l0_3.length : Int)).bind fun t122 => (if ((t119 ++ t120) ++ t121).size + t122.size ≤ 9223372036854775807 then (spec_MetaText.l0 k (((t119 ++ t120) ++ t121) ++ t122) 0 a0_0 a0_1 a0_2 l0_3) else (none))) else (none))) else (none)))) else (some ((⟨#[]⟩ : ByteArray), false)))
theorem spec_MetaText.mono_l : ∀ k, (∀ y0 y1 y2 y3 y4 y5, LeO (spec_MetaText.l0 k y0 y1 y2 y3 y4 y5) (spec_MetaText.l0 (k + 1) y0 y1 y2 y3 y4 y5)) ∧ (∀ y0 y1 y2 y3 y4 y5 y6, LeO (spec_MetaText.l1 k y0 y1 y2 y3 y4 y5 y6) (spec_MetaText.l1 (k + 1) y0 y1 y2 y3 y4 y5 y6))
  | 0 => ⟨fun _ _ _ _ _ _ r h => by simp [spec_MetaText.l0] at h, fun _ _ _ _ _ _ _ r h => by simp [spec_MetaText.l1] at h⟩
  | k + 1 => by
    obtain ⟨ih0, ih1⟩ := spec_MetaText.mono_l k
    refine ⟨?_, ?_⟩
    · intro y0 y1 y2 y3 y4 y5
      unfold spec_MetaText.l0
      exact qv
    · intro y0 y1 y2 y3 y4 y5 y6
      unfold spec_MetaText.l1
      exact qv
theorem spec_MetaText.mono : ∀ a0 a1 a2 a3 k, LeO (spec_MetaText.f k a0 a1 a2 a3) (spec_MetaText.f (k + 1) a0 a1 a2 a3) := by
  intro a0 a1 a2 a3 k
  obtain ⟨ih0, ih1⟩ := spec_MetaText.mono_l k
  unfold spec_MetaText.f
  exact qv
def spec_MetaText.T3 : Bool × List (List Nat × List Nat) := (true, [([], []), ([0], [0]), ([1], [1]), ([], []), ([3], [3]), ([4, 2], [4]), ([2, 5], [2, 5]), ([], []), ([7], [7]), ([8, 5], [8]), ([6, 9], [6, 9]), ([], []), ([11], [11]), ([12], [12]), ([13, 9], [13]), ([10, 14], [10, 14]), ([15, 14, 0, 1, 2, 3, 4, 5, 6, 7, 8, 9, 10, 11, 12, 13, 14, 15], [15])])
def spec_MetaText.B3 : List Nat := [0, 1, 3, 0, 8, 31, 63, 0, 128, 447, 1023, 0, 2048, 6144, 15295, 32767, 65535]
theorem spec_MetaText.tab3 : rtab .any (opsOf Try.f20 3) = spec_MetaText.T3 := by kernel_rfl
theorem spec_MetaText.bits3 : waitsOk spec_MetaText.T3.2 spec_MetaText.B3 = true := by kernel_rfl
def spec_MetaText.T7 : Bool × List (List Nat × List Nat) := (true, [([], []), ([], []), ([1], [1]), ([], []), ([2, 3], [2, 3]), ([4], [4]), ([5], [5]), ([6], [6]), ([0, 7], [0, 7]), ([], []), ([9], [9]), ([], []), ([10, 11], [10, 11]), ([12], [12]), ([13], [13]), ([14], [14]), ([15, 7], [15]), ([8, 16], [8, 16]), ([17, 16, 0, 1, 2, 3, 4, 5, 6, 7, 8, 9, 10, 11, 12, 13, 14, 15, 16, 17], [0, 17])])
def spec_MetaText.B7 : List Nat := [0, 0, 2, 0, 14, 30, 62, 126, 255, 0, 512, 0, 3584, 7680, 15872, 32256, 65278, 131071, 262143]
theorem spec_MetaText.tab7 : rtab .any (opsOf Try.f20 7) = spec_MetaText.T7 := by kernel_rfl
theorem spec_MetaText.bits7 : waitsOk spec_MetaText.T7.2 spec_MetaText.B7 = true := by kernel_rfl
set_option maxHeartbeats 8000000 in
set_option maxRecDepth 100000 in
theorem spec_MetaText.calls (k : Nat) (a0_0 : Int) (a0_1 : Int) (a0_2 : Int) (A0_3 : Option Addr) (c0_3 : Nat) (l0_3 : List (S60)) (r1 : ByteArray) (r2 : Bool) (w : World) (hr0_3 : Kd.C k60 w A0_3 l0_3.length l0_3) (hc0_3 : l0_3.length ≤ c0_3) (h : spec_MetaText.f k a0_0 a0_1 a0_2 l0_3 = some (r1, r2)) :
    Calls Try.prog 20 #[.agg #[.int .i64 a0_0, .int .i64 a0_1, .int .i64 a0_2, .slice A0_3 l0_3.length c0_3]] w fun e w' => e = .returned (.tuple #[.string r1, .bool r2]) ∧ Below w.heap.size w w' := by
  have hu24 := Try.underlying24
  have HR0_3 := Aside0.mk hr0_3
  have HC0_3 := Aside0.mk hc0_3
  clear hr0_3 hc0_3
  have HB := Aside0.mk (Below.refl w.heap.size w)
  unfold spec_MetaText.f at h
  have H := h
  clear h
  replace H := qi H
  obtain ⟨t118, A2, H⟩ := H
  by_cases c3 : t118 = true
  case neg =>
    replace c3 := Bool.eq_false_iff.mpr c3
    subst c3
    rw [if_neg (qj)] at H
    simp only [Option.some.injEq, Prod.mk.injEq] at H
    obtain ⟨rfl, rfl⟩ := H
    go_enter Try.func20, Try.ntmps20
    go_wp2_with (first | ((with_reducible refine gate_dst (N := 1) rfl ?_); (try (refine gate_guard zdy ?_; dsimp only)); refine qB 1 #[.int .i64 a0_0, .int .i64 a0_1, .int .i64 a0_2, .slice A0_3 l0_3.length c0_3] 24 ?_; intro gb117 hg w47 hbox hb; have BK117 := Aside0.mk (hbox); have GW117 := Aside0.mk ((zef : w.heap.size ≤ gb117)); have GE117 := GW117; replace HB := Aside0.mk (below_step za hb); clear hb hbox hg; obtain ⟨_, _, _, _, _, _, _, _⟩ := qk4 BK117.out) | ((with_reducible refine gate_callee (f := 46) rfl ?_); refine qG (some 10) Try.func46 #[.agg #[.int .i64 a0_0, .int .i64 a0_1, .int .i64 a0_2, .slice A0_3 l0_3.length c0_3]] ?_; (with_reducible refine (spec_MetaOk.calls k a0_0 a0_1 a0_2 _ _ l0_3 false _ ?side1 ?side2 A2.out).mono ?_); (case side1 => exact zbe); (case side2 => exact HC0_3.out); rintro e w49 ⟨rfl, hb⟩; refine ⟨_, rfl, ?_⟩; replace HB := Aside0.mk (below_step zw hb); try clear hb))
    go_ret2
    exact ⟨zc, zw⟩

  subst c3
  rw [if_pos rfl] at H
  replace H := qi H
  obtain ⟨t119, A4, H⟩ := H
  replace H := qi H
  obtain ⟨t120, A5, H⟩ := H
  by_cases c6 : t119.size + t120.size ≤ 9223372036854775807
  case neg => exact qn c6 H
  rw [if_pos c6] at H
  have c6b0 := eq_true c6
  have c6b1 := decide_eq_true c6
  try have c6b2 := eq_false (Nat.not_lt.2 c6)
  replace H := qi H
  obtain ⟨t121, A7, H⟩ := H
  by_cases c8 : (t119 ++ t120).size + t121.size ≤ 9223372036854775807
  case neg => exact qn c8 H
  rw [if_pos c8] at H
  have c8b0 := eq_true c8
  have c8b1 := decide_eq_true c8
  try have c8b2 := eq_false (Nat.not_lt.2 c8)
  try have c8b3 := c8b2
  try simp only [ByteArray.size_append] at c8b3
  replace H := qi H
  obtain ⟨t122, A9, H⟩ := H
  by_cases c10 : ((t119 ++ t120) ++ t121).size + t122.size ≤ 9223372036854775807
  case neg => exact qn c10 H
  rw [if_pos c10] at H
  have c10b0 := eq_true c10
  have c10b1 := decide_eq_true c10
  try have c10b2 := eq_false (Nat.not_lt.2 c10)
  try have c10b3 := c10b2
  try simp only [ByteArray.size_append] at c10b3
  have H' := Aside0.mk H
  clear H
  go_enter Try.func20, Try.ntmps20
  try go_wp2_with (first | ((with_reducible refine gate_dst (N := 1) rfl ?_); (try (refine gate_guard zdy ?_; dsimp only)); refine qB 1 #[.int .i64 a0_0, .int .i64 a0_1, .int .i64 a0_2, .slice A0_3 l0_3.length c0_3] 24 ?_; intro gb117 hg w11 hbox hb; have BK117 := Aside0.mk (hbox); have GW117 := Aside0.mk ((zef : w.heap.size ≤ gb117)); have GE117 := GW117; replace HB := Aside0.mk (below_step za hb); clear hb hbox hg; obtain ⟨hcz12_0, hcz12_1, hcz12_2, hcz12_3, hfz12_0, hfz12_1, hfz12_2, hfz12_3⟩ := qk4 BK117.out) | ((with_reducible refine gate_callee (f := 46) rfl ?_); refine qG (some 10) Try.func46 #[.agg #[.int .i64 a0_0, .int .i64 a0_1, .int .i64 a0_2, .slice A0_3 l0_3.length c0_3]] ?_; (with_reducible refine (spec_MetaOk.calls k a0_0 a0_1 a0_2 _ _ l0_3 true _ ?side1 ?side2 A2.out).mono ?_); (case side1 => exact zbe); (case side2 => exact HC0_3.out); rintro e w13 ⟨rfl, hb⟩; refine ⟨_, rfl, ?_⟩; replace BK117 := Aside0.mk (bB BK117.out hb); replace HB := Aside0.mk (below_step zw hb); try clear hb))
  replace BK117 := Aside0.mk (blk_drew BK117.out)
  replace HB := Aside0.mk (below_drew1 HB.out)
  refine start_ (n := 17) (S := fun w' => w'.cell? ⟨gb117, 0, none⟩ = some (.int .i64 a0_0) ∧ w'.cell? ⟨gb117, 1, none⟩ = some (.int .i64 a0_1) ∧ w'.cell? ⟨gb117, 2, none⟩ = some (.int .i64 a0_2) ∧ w'.cell? ⟨gb117, 3, none⟩ = some (.slice A0_3 l0_3.length c0_3)) (ds := []) (bz 17 0) za5 rfl rfl ⟨qx BK117 0, qx BK117 1, qx BK117 2, qx BK117 3⟩ (fun hHeld => ?_); refine with_tabW spec_MetaText.tab3 spec_MetaText.bits3 (fun HT_ HW_ => ?_)
  generalize w13.drew = w14 at BK117 HB hHeld ⊢
  refine ql 0 (some 12) (bz 17 1) HT_ ?_
  refine ql 3 (some 15) (bz 17 9) HT_ ?_
  refine ql 7 (some 19) (bz 17 137) HT_ ?_
  refine ql 11 (some 23) (bz 17 2185) HT_ ?_
  refine qt 1 (some 13) (bz 17 2187) HT_ HW_ hHeld ?_
  refine qt 4 (some 16) (bz 17 2203) HT_ HW_ hHeld ?_
  refine qt 8 (some 20) (bz 17 2459) HT_ HW_ hHeld ?_
  refine qt 12 (some 24) (bz 17 6555) HT_ HW_ hHeld ?_
  refine ql 13 (some 25) (bz 17 14747) HT_ ?_
  refine qs 2 (some 14) (bz 17 14751) HT_ rfl rfl (fun K hK => ?_)
  refine goes_ Try.func47 za5 rfl #[.int .i64 a0_0] zdy rfl rfl zv ?_
  with_reducible refine (spec_l01Var.calls k a0_0 t119 _ A4.out).mono ?_
  rintro e w15 ⟨rfl, hb⟩
  refine ⟨_, rfl, ?_⟩
  replace BK117 := Aside0.mk (bB BK117.out hb)
  replace HB := Aside0.mk (below_step zw hb)
  try clear hb
  refine hK.out _ _ ⟨qx BK117 0, qx BK117 1, qx BK117 2, qx BK117 3⟩ (fun hHeld => ?_)
  clear hK K
  refine qr (some 14) ?_
  refine qs 5 (some 17) (bz 17 14783) HT_ rfl rfl (fun K hK => ?_)
  refine goes_ Try.func47 za5 rfl #[.int .i64 a0_1] zdy rfl rfl zv ?_
  with_reducible refine (spec_l01Var.calls k a0_1 t120 _ A5.out).mono ?_
  rintro e w16 ⟨rfl, hb⟩
  refine ⟨_, rfl, ?_⟩
  replace BK117 := Aside0.mk (bB BK117.out hb)
  replace HB := Aside0.mk (below_step zw hb)
  try clear hb
  refine hK.out _ _ ⟨qx BK117 0, qx BK117 1, qx BK117 2, qx BK117 3⟩ (fun hHeld => ?_)
  clear hK K
  refine qr (some 17) ?_
  refine ql 6 (some 18) (bz 17 14847) HT_ ?_
  refine qs 9 (some 21) (bz 17 15359) HT_ rfl rfl (fun K hK => ?_)
  refine goes_ Try.func47 za5 rfl #[.int .i64 a0_2] zdy rfl rfl zv ?_
  with_reducible refine (spec_l01Var.calls k a0_2 t121 _ A7.out).mono ?_
  rintro e w17 ⟨rfl, hb⟩
  refine ⟨_, rfl, ?_⟩
  replace BK117 := Aside0.mk (bB BK117.out hb)
  replace HB := Aside0.mk (below_step zw hb)
  try clear hb
  refine hK.out _ _ ⟨qx BK117 0, qx BK117 1, qx BK117 2, qx BK117 3⟩ (fun hHeld => ?_)
  clear hK K
  refine qr (some 21) ?_
  refine ql 10 (some 22) (bz 17 16383) HT_ ?_
  refine qs 14 (some 26) (bz 17 32767) HT_ rfl rfl (fun K hK => ?_)
  refine goes_ Try.func47 za5 rfl #[.int .i64 (l0_3.length : Int)] zdy rfl rfl zv ?_
  with_reducible refine (spec_l01Var.calls k (l0_3.length : Int) t122 _ A9.out).mono ?_
  rintro e w18 ⟨rfl, hb⟩
  refine ⟨_, rfl, ?_⟩
  replace BK117 := Aside0.mk (bB BK117.out hb)
  replace HB := Aside0.mk (below_step zw hb)
  try clear hb
  refine hK.out _ _ ⟨qx BK117 0, qx BK117 1, qx BK117 2, qx BK117 3⟩ (fun hHeld => ?_)
  clear hK K
  refine qr (some 26) ?_
  refine ql 15 (some 27) (bz 17 65535) HT_ ?_
  refine ql 16 (some 4) (bz 17 131071) HT_ ?_
  refine qu HT_ ?_
  try go_wp2
  go_loopg [4, 5] k (fun kq v4 v5 w' => ∃ (x4_1 : ByteArray) (x5_1 : Int), v4 = .string x4_1 ∧ v5 = .int .i64 x5_1 ∧ Aside0 (spec_MetaText.l0 kq x4_1 x5_1 a0_0 a0_1 a0_2 l0_3 = some (r1, r2)) ∧ Aside0 (kq ≤ k) ∧ Aside0 (w'.heap[gb117]? = some (.cells #[.int .i64 a0_0, .int .i64 a0_1, .int .i64 a0_2, (.slice A0_3 l0_3.length c0_3)] 24 (0, 0))) ∧ Aside0 (Below w.heap.size w w'))
  case atStart => exact ⟨(((t119 ++ t120) ++ t121) ++ t122), (0), zd, zd, H', ⟨Nat.le_refl _⟩, ⟨zdf⟩, ⟨zw⟩⟩
  case round =>
    clear H'
    (try clear c3); (try clear c6); (try clear c6b0); (try clear c6b1); (try clear c6b2); (try clear c8); (try clear c8b0); (try clear c8b1); (try clear c8b2); (try clear c10); (try clear c10b0); (try clear c10b1); (try clear c10b2); (try clear hcz12_0 hcz12_1 hcz12_2 hcz12_3 hfz12_0 hfz12_1 hfz12_2 hfz12_3)
    try clear BK117 HB
    obtain ⟨x4_1, x5_1, rfl, rfl, HA, HK1, BK117, HB⟩ := hrel
    cases gk with
    | zero => exact absurd HA.out (by simp [spec_MetaText.l0])
    | succ k1 =>
      have H := HA.out
      clear HA
      simp only [spec_MetaText.l0] at H
      by_cases c19 : x5_1 < (l0_3.length : Int)
      case neg =>
        rw [if_neg c19] at H
        have c19b0 := decide_eq_false c19
        clear c19
        replace H := qi H
        obtain ⟨⟨t131, t132⟩, A38, H⟩ := H
        dsimp only at H
        by_cases c39 : t132 = true
        case neg =>
          replace c39 := Bool.eq_false_iff.mpr c39
          subst c39
          rw [if_neg (qj)] at H
          simp only [Option.some.injEq, Prod.mk.injEq] at H
          obtain ⟨rfl, rfl⟩ := H
          obtain ⟨_, _, _, _, _, _, _, _⟩ := qk4 BK117.out
          go_wp2_with (first | ((with_reducible refine gate_callee (f := 48) rfl ?_); refine qG (some 78) Try.func48 #[.string x4_1] ?_; (with_reducible refine (spec_Sealed.calls k1 x4_1 t131 false _ A38.out).mono ?_); rintro e w46 ⟨rfl, hb⟩; refine ⟨_, rfl, ?_⟩; replace BK117 := Aside0.mk (bB BK117.out hb); replace HB := Aside0.mk (below_step zw hb); try clear hb))
          go_ret2
          exact ⟨zc, zw⟩
        subst c39
        rw [if_pos rfl] at H
        by_cases c40 : (t131.size : Int) > 240
        case pos =>
          rw [if_pos c40] at H
          have c40b0 : decide (240 < (t131.size : Int)) = true := decide_eq_true c40
          have c40b1 : decide (240 < t131.size) = true := decide_eq_true zd4
          clear c40
          simp only [Option.some.injEq, Prod.mk.injEq] at H
          obtain ⟨rfl, rfl⟩ := H
          obtain ⟨_, _, _, _, _, _, _, _⟩ := qk4 BK117.out
          go_wp2_with (first | ((with_reducible refine gate_callee (f := 48) rfl ?_); refine qG (some 78) Try.func48 #[.string x4_1] ?_; (with_reducible refine (spec_Sealed.calls k1 x4_1 t131 true _ A38.out).mono ?_); rintro e w42 ⟨rfl, hb⟩; refine ⟨_, rfl, ?_⟩; replace BK117 := Aside0.mk (bB BK117.out hb); replace HB := Aside0.mk (below_step zw hb); try clear hb))
          go_ret2
          exact ⟨zc, zw⟩
        rw [if_neg c40] at H
        have c40b0 : decide (240 < (t131.size : Int)) = false := decide_eq_false c40
        have c40b1 : decide (240 < t131.size) = false := decide_eq_false zd4
        clear c40
        simp only [Option.some.injEq, Prod.mk.injEq] at H
        obtain ⟨rfl, rfl⟩ := H
        obtain ⟨_, _, _, _, _, _, _, _⟩ := qk4 BK117.out
        go_wp2_with (first | ((with_reducible refine gate_callee (f := 48) rfl ?_); refine qG (some 78) Try.func48 #[.string x4_1] ?_; (with_reducible refine (spec_Sealed.calls k1 x4_1 t131 true _ A38.out).mono ?_); rintro e w44 ⟨rfl, hb⟩; refine ⟨_, rfl, ?_⟩; replace BK117 := Aside0.mk (bB BK117.out hb); replace HB := Aside0.mk (below_step zw hb); try clear hb))
        go_ret2
        exact ⟨zc, zw⟩
      rw [if_pos c19] at H
      have c19b0 := decide_eq_true c19
      clear c19
      by_cases c20 : 0 ≤ x5_1
      case neg => exact qn c20 H
      rw [if_pos c20] at H
      have c20b0 := decide_eq_true c20
      clear c20
      replace H := qi H
      obtain ⟨t124, A21, H⟩ := H
      by_cases c22 : x4_1.size + t124.size ≤ 9223372036854775807
      case neg => exact qn c22 H
      rw [if_pos c22] at H
      have c22b0 := eq_true c22
      have c22b1 := decide_eq_true c22
      try have c22b2 := eq_false (Nat.not_lt.2 c22)
      replace H := qi H
      obtain ⟨t126, A23, H⟩ := H
      by_cases c24 : (x4_1 ++ t124).size + t126.size ≤ 9223372036854775807
      case neg => exact qn c24 H
      rw [if_pos c24] at H
      have c24b0 := eq_true c24
      have c24b1 := decide_eq_true c24
      try have c24b2 := eq_false (Nat.not_lt.2 c24)
      try have c24b3 := c24b2
      try simp only [ByteArray.size_append] at c24b3
      have H' := Aside0.mk H
      clear H
      obtain ⟨hcz25_0, hcz25_1, hcz25_2, hcz25_3, hfz25_0, hfz25_1, hfz25_2, hfz25_3⟩ := qk4 BK117.out
      try go_wp2
      replace BK117 := Aside0.mk (blk_drew BK117.out)
      replace HB := Aside0.mk (below_drew1 HB.out)
      have p123 : 0 ≤ (x5_1 : Int) := of_decide_eq_true zb
      have q123 : x5_1 < (l0_3.length : Int) := of_decide_eq_true zb
      obtain ⟨ad123, A123_1, c123_1, e123, hx123_0, hx123_1, hl123_1, hi123_1⟩ := at_T60 HR0_3.out x5_1 p123 q123
      have hw123_1 := hx123_1
      have hw123_0 := hx123_0
      cases e123
      replace hx123_0 := qw HB hx123_0
      replace hx123_1 := qw HB hx123_1
      clear hi123_1 hl123_1
      replace p123 := eq_true p123
      replace q123 := eq_true q123
      have p125 : 0 ≤ (x5_1 : Int) := of_decide_eq_true zb
      have q125 : x5_1 < (l0_3.length : Int) := of_decide_eq_true zb
      obtain ⟨ad125, A125_1, c125_1, e125, hx125_0, hx125_1, hl125_1, hi125_1⟩ := at_T60 HR0_3.out x5_1 p125 q125
      have hw125_1 := hx125_1
      have hw125_0 := hx125_0
      obtain rfl : ad123 = ad125 := (by injection e125)
      replace hx125_0 := qw HB hx125_0
      replace hx125_1 := qw HB hx125_1
      clear hi125_1 hl125_1
      replace p125 := eq_true p125
      replace q125 := eq_true q125
      have ea_ := Option.some.inj (hx123_1.symm.trans hx125_1)
      injection ea_ with ea_ en_ ec_
      subst ea_
      subst ec_
      clear en_
      refine start_ (n := 19) (S := fun w' => w'.cell? ⟨gb117, 0, none⟩ = some (.int .i64 a0_0) ∧ w'.cell? ⟨gb117, 1, none⟩ = some (.int .i64 a0_1) ∧ w'.cell? ⟨gb117, 2, none⟩ = some (.int .i64 a0_2) ∧ w'.cell? ⟨gb117, 3, none⟩ = some (.slice (some ad123) l0_3.length c0_3) ∧ w'.cell? (ad123.add ((x5_1).toNat * 2)) = some (.int .i64 ((rd_T60 l0_3 x5_1).f0)) ∧ w'.cell? ⟨(ad123.add ((x5_1).toNat * 2)).block, (ad123.add ((x5_1).toNat * 2)).off + 1, none⟩ = some (.slice A123_1 ((rd_T60 l0_3 x5_1).f1).length c123_1) ∧ w'.cell? (ad123.add ((x5_1).toNat * 2)) = some (.int .i64 ((rd_T60 l0_3 x5_1).f0)) ∧ w'.cell? ⟨(ad123.add ((x5_1).toNat * 2)).block, (ad123.add ((x5_1).toNat * 2)).off + 1, none⟩ = some (.slice A123_1 ((rd_T60 l0_3 x5_1).f1).length c123_1)) (ds := []) (bz 19 0) za5 rfl rfl ⟨qx BK117 0, qx BK117 1, qx BK117 2, qx BK117 3, (qw HB hw123_0), (qw HB hw123_1), (qw HB hw125_0), (qw HB hw125_1)⟩ (fun hHeld => ?_); refine with_tabW spec_MetaText.tab7 spec_MetaText.bits7 (fun HT_ HW_ => ?_)
      generalize wr.drew = w26 at BK117 HB hx123_0 hx123_1 hx125_0 hx125_1 hHeld ⊢
      refine ql 0 (some 35) (bz 19 1) HT_ ?_
      refine ql 1 (some 36) (bz 19 3) HT_ ?_
      refine ql 3 (some 38) (bz 19 11) HT_ ?_
      refine ql 9 (some 44) (bz 19 523) HT_ ?_
      refine ql 11 (some 46) (bz 19 2571) HT_ ?_
      refine qt 2 (some 37) (bz 19 2575) HT_ HW_ hHeld ?_
      refine ql 4 (some 39) (bz 19 2591) HT_ ?_
      refine ql 5 (some 40) (bz 19 2623) HT_ ?_
      refine qt 6 (some 41) (bz 19 2687) HT_ HW_ hHeld ?_
      refine qt 10 (some 45) (bz 19 3711) HT_ HW_ hHeld ?_
      refine ql 12 (some 47) (bz 19 7807) HT_ ?_
      refine ql 13 (some 48) (bz 19 15999) HT_ ?_
      refine qt 14 (some 49) (bz 19 32383) HT_ HW_ hHeld ?_
      refine ql 15 (some 50) (bz 19 65151) HT_ ?_
      refine qs 7 (some 42) (bz 19 65279) HT_ rfl rfl (fun K hK => ?_)
      refine goes_ Try.func47 za5 rfl #[.int .i64 ((rd_T60 l0_3 x5_1).f0)] zdy rfl rfl zv ?_
      with_reducible refine (spec_l01Var.calls k1 ((rd_T60 l0_3 x5_1).f0) t124 _ A21.out).mono ?_
      rintro e w27 ⟨rfl, hb⟩
      refine ⟨_, rfl, ?_⟩
      replace BK117 := Aside0.mk (bB BK117.out hb)
      replace HB := Aside0.mk (below_step zw hb)
      try clear hb
      refine hK.out _ _ ⟨qx BK117 0, qx BK117 1, qx BK117 2, qx BK117 3, (qw HB hw123_0), (qw HB hw123_1), (qw HB hw125_0), (qw HB hw125_1)⟩ (fun hHeld => ?_)
      clear hK K
      refine qr (some 42) ?_
      refine ql 8 (some 43) (bz 19 65535) HT_ ?_
      refine qs 16 (some 51) (bz 19 131071) HT_ rfl rfl (fun K hK => ?_)
      refine goes_ Try.func47 za5 rfl #[.int .i64 (((rd_T60 l0_3 x5_1).f1).length : Int)] zdy rfl rfl zv ?_
      with_reducible refine (spec_l01Var.calls k1 (((rd_T60 l0_3 x5_1).f1).length : Int) t126 _ A23.out).mono ?_
      rintro e w28 ⟨rfl, hb⟩
      refine ⟨_, rfl, ?_⟩
      replace BK117 := Aside0.mk (bB BK117.out hb)
      replace HB := Aside0.mk (below_step zw hb)
      try clear hb
      refine hK.out _ _ ⟨qx BK117 0, qx BK117 1, qx BK117 2, qx BK117 3, (qw HB hw123_0), (qw HB hw123_1), (qw HB hw125_0), (qw HB hw125_1)⟩ (fun hHeld => ?_)
      clear hK K
      refine qr (some 51) ?_
      refine ql 17 (some 52) (bz 19 262143) HT_ ?_
      refine ql 18 (some 4) (bz 19 524287) HT_ ?_
      refine qu HT_ ?_
      try go_wp2
      go_loopg [4, 6] k1 (fun kq v4 v6 w' => ∃ (x4_2 : ByteArray) (x6_2 : Int), v4 = .string x4_2 ∧ v6 = .int .i64 x6_2 ∧ Aside0 (spec_MetaText.l1 kq x4_2 x5_1 x6_2 a0_0 a0_1 a0_2 l0_3 = some (r1, r2)) ∧ Aside0 (kq ≤ k1) ∧ Aside0 (w'.heap[gb117]? = some (.cells #[.int .i64 a0_0, .int .i64 a0_1, .int .i64 a0_2, (.slice (some ad123) l0_3.length c0_3)] 24 (0, 0))) ∧ Aside0 (Below w.heap.size w w'))
      case atStart => exact ⟨((x4_1 ++ t124) ++ t126), (0), zd, zd, H', ⟨Nat.le_refl _⟩, ⟨zdf⟩, ⟨zw⟩⟩
      case round =>
        clear H'
        (try clear c3); (try clear c6); (try clear c6b0); (try clear c6b1); (try clear c6b2); (try clear c8); (try clear c8b0); (try clear c8b1); (try clear c8b2); (try clear c10); (try clear c10b0); (try clear c10b1); (try clear c10b2); (try clear c19); (try clear c19b0); (try clear c20); (try clear c20b0); (try clear c22); (try clear c22b0); (try clear c22b1); (try clear c22b2); (try clear c24); (try clear c24b0); (try clear c24b1); (try clear c24b2); (try clear hcz12_0 hcz12_1 hcz12_2 hcz12_3 hfz12_0 hfz12_1 hfz12_2 hfz12_3); (try clear hcz25_0 hcz25_1 hcz25_2 hcz25_3 hfz25_0 hfz25_1 hfz25_2 hfz25_3); (try clear hx123_0); (try clear hx123_1); (try clear hx125_0); (try clear hx125_1); (try clear p123); (try clear p125); (try clear q123); (try clear q125)
        try clear BK117 HB
        obtain ⟨x4_2, x6_2, rfl, rfl, HA, HK2, BK117, HB⟩ := hrel
        cases gk with
        | zero => exact absurd HA.out (by simp [spec_MetaText.l1])
        | succ k2 =>
          have H := HA.out
          clear HA
          simp only [spec_MetaText.l1] at H
          by_cases c29 : 0 ≤ x5_1
          case neg => exact qn c29 H
          rw [if_pos c29] at H
          have c29b0 := decide_eq_true c29
          clear c29
          by_cases c30 : x5_1 < (l0_3.length : Int)
          case neg => exact qn c30 H
          rw [if_pos c30] at H
          have c30b0 := decide_eq_true c30
          clear c30
          by_cases c31 : x6_2 < (((rd_T60 l0_3 x5_1).f1).length : Int)
          case neg =>
            rw [if_neg c31] at H
            have c31b0 := decide_eq_false c31
            clear c31
            have H' := Aside0.mk H
            clear H
            obtain ⟨_, _, _, _, _, _, _, _⟩ := qk4 BK117.out
            have p127 : 0 ≤ (x5_1 : Int) := of_decide_eq_true zb
            have q127 : x5_1 < (l0_3.length : Int) := of_decide_eq_true zb
            obtain ⟨ad127, A127_1, c127_1, e127, hx127_0, hx127_1, hl127_1, hi127_1⟩ := at_T60 HR0_3.out x5_1 p127 q127
            obtain rfl : ad123 = ad127 := (by injection e127)
            replace hx127_0 := qw HB hx127_0
            replace hx127_1 := qw HB hx127_1
            clear hi127_1 hl127_1
            replace p127 := eq_true p127
            replace q127 := eq_true q127
            go_wp2
            go_roundg k2
            case measure => have := HK1.out; have := HK2.out; omega
            case rel => exact ⟨(x4_2), (wrap64 (x5_1 + 1)), zd, zd, H', ⟨zcm⟩, ⟨zdf⟩, ⟨zw⟩⟩
          rw [if_pos c31] at H
          have c31b0 := decide_eq_true c31
          clear c31
          by_cases c32 : 0 ≤ x6_2
          case neg => exact qn c32 H
          rw [if_pos c32] at H
          have c32b0 := decide_eq_true c32
          clear c32
          replace H := qi H
          obtain ⟨t130, A33, H⟩ := H
          by_cases c34 : x4_2.size + t130.size ≤ 9223372036854775807
          case neg => exact qn c34 H
          rw [if_pos c34] at H
          have c34b0 := eq_true c34
          have c34b1 := decide_eq_true c34
          try have c34b2 := eq_false (Nat.not_lt.2 c34)
          have H' := Aside0.mk H
          clear H
          obtain ⟨_, _, _, _, _, _, _, _⟩ := qk4 BK117.out
          have p127 : 0 ≤ (x5_1 : Int) := of_decide_eq_true zb
          have q127 : x5_1 < (l0_3.length : Int) := of_decide_eq_true zb
          obtain ⟨ad127, A127_1, c127_1, e127, hx127_0, hx127_1, hl127_1, hi127_1⟩ := at_T60 HR0_3.out x5_1 p127 q127
          obtain rfl : ad123 = ad127 := (by injection e127)
          replace hx127_0 := qw HB hx127_0
          replace hx127_1 := qw HB hx127_1
          clear hi127_1 hl127_1
          replace p127 := eq_true p127
          replace q127 := eq_true q127
          have p128 : 0 ≤ (x5_1 : Int) := of_decide_eq_true zb
          have q128 : x5_1 < (l0_3.length : Int) := of_decide_eq_true zb
          obtain ⟨ad128, A128_1, c128_1, e128, hx128_0, hx128_1, hl128_1, hi128_1⟩ := at_T60 HR0_3.out x5_1 p128 q128
          obtain rfl : ad123 = ad128 := (by injection e128)
          replace hx128_0 := qw HB hx128_0
          replace hx128_1 := qw HB hx128_1
          have HR128_1 := Aside0.mk hi128_1
          clear hi128_1 hl128_1
          replace p128 := eq_true p128
          replace q128 := eq_true q128
          have ea_ := Option.some.inj (hx127_1.symm.trans hx128_1)
          injection ea_ with ea_ en_ ec_
          subst ea_
          subst ec_
          clear en_
          have p129 : 0 ≤ (x6_2 : Int) := of_decide_eq_true zb
          have q129 : x6_2 < (((rd_T60 l0_3 x5_1).f1).length : Int) := of_decide_eq_true zb
          obtain ⟨ad129, e129, hx129_0⟩ := Kd.at_int HR128_1.out x6_2 p129 q129
          cases e129
          replace hx129_0 := qw HB hx129_0
          replace p129 := eq_true p129
          replace q129 := eq_true q129
          go_wp2_with (first | ((with_reducible refine gate_callee (f := 47) rfl ?_); refine qG (some 74) Try.func47 #[.int .i64 (rd ((rd_T60 l0_3 x5_1).f1) x6_2)] ?_; (with_reducible refine (spec_l01Var.calls k2 (rd ((rd_T60 l0_3 x5_1).f1) x6_2) t130 _ A33.out).mono ?_); rintro e w36 ⟨rfl, hb⟩; refine ⟨_, rfl, ?_⟩; replace BK117 := Aside0.mk (bB BK117.out hb); replace HB := Aside0.mk (below_step zw hb); try clear hb))
          go_roundg k2
          case measure => have := HK1.out; have := HK2.out; omega
          case rel => exact ⟨(x4_2 ++ t130), (wrap64 (x6_2 + 1)), zd, zd, H', ⟨zcm⟩, ⟨zdf⟩, ⟨zw⟩⟩
end Go.Proofs.Yteokilffbcbllaa.VFnBest
