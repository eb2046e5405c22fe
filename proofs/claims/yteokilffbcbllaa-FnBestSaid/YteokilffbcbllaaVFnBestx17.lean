-- Written by a program of this repo (wip/myprint.py), over the kit's print; functions that the print does not take stand in it by hand-proved contracts.
import Derived.Test.YteokilffbcbllaaVFnBestx0
import Derived.Test.YteokilffbcbllaaVFnBestx1
namespace Go.Proofs.Yteokilffbcbllaa.VFnBest
open Go.RowKit Go.Proofs.YteokilffbcbllaaW.PrintWords Go.Proofs.YteokilffbcbllaaW.PrintLast Go.Proofs.YteokilffbcbllaaW.PrintMore
attribute [local go_sem] max2_int min2_int max_two min_two max_three min_three max_four min_four   -- for this text's walks alone
attribute [local go_sem high] str_leq str_gtr str_geq str_lss
set_option linter.unusedVariables false
set_option linter.unusedSimpArgs false

/-! ### spec_DiskOk: function 50 -/
mutual
def spec_DiskOk.l0 : Nat → Int → List ByteArray → List (S83) → Option (Bool)
  | 0, _, _, _ => none
  | k + 1, x3, x379000, x379001 => if x3 < (x379000.length : Int) then (if 0 ≤ x3 then (if ((rdOf ByteArray.empty x379000 x3).size : Int) > 240 then (some false) else (spec_DiskOk.l0 k (wrap64 (x3 + 1)) x379000 x379001)) else (none)) else (spec_DiskOk.l1 k 0 x379000 x379001)
def spec_DiskOk.l1 : Nat → Int → List ByteArray → List (S83) → Option (Bool)
  | 0, _, _, _ => none
  | k + 1, x4, x379000, x379001 => if x4 < (x379001.length : Int) then (if 0 ≤ x4 then ((spec_l01In.f ((rd_T83 x379001 x4).f0) 0 (wrap64 ((x379000.length : Int) - 1))).bind fun t381 => (if t381 = true then (if (((rd_T83 x379001 x4).f1).size : Int) > 240 then (some false) else (spec_DiskOk.l1 k (wrap64 (x4 + 1)) x379000 x379001)) else (some false))) else (none)) else ((spec_l01In.f (x379000.length : Int) 4 40).bind fun t383 => (if t383 = true then (some (decide ((x379001.length : Int) ≤ 200))) else (some false)))
end
def spec_DiskOk.f (k : Nat) (l0_0 : List ByteArray) (l0_1 : List (S83)) : Option (Bool) := spec_DiskOk.l0 k 0 l0_0 l0_1
theorem spec_DiskOk.mono_l : ∀ k, (∀ y0 y1 y2, LeO (spec_DiskOk.l0 k y0 y1 y2) (spec_DiskOk.l0 (k + 1) y0 y1 y2)) ∧ (∀ y0 y1 y2, LeO (spec_DiskOk.l1 k y0 y1 y2) (spec_DiskOk.l1 (k + 1) y0 y1 y2))
  | 0 => ⟨fun _ _ _ r h => by simp [spec_DiskOk.l0] at h, fun _ _ _ r h => by simp [spec_DiskOk.l1] at h⟩
  | k + 1 => by
    obtain ⟨ih0, ih1⟩ := spec_DiskOk.mono_l k
    refine ⟨?_, ?_⟩
    · intro y0 y1 y2
      unfold spec_DiskOk.l0
      exact qv
    · intro y0 y1 y2
      unfold spec_DiskOk.l1
      exact qv
theorem spec_DiskOk.mono : ∀ a0 a1 k, LeO (spec_DiskOk.f k a0 a1) (spec_DiskOk.f (k + 1) a0 a1) := by
  intro a0 a1 k
  obtain ⟨ih0, ih1⟩ := spec_DiskOk.mono_l k
  unfold spec_DiskOk.f
  exact qv
def spec_DiskOk.T9 : Bool × List (List Nat × List Nat) := (true, [([], []), ([0], [0]), ([], []), ([1, 2], [1, 2]), ([3], [3]), ([4], [4]), ([], []), ([6], [6]), ([7], [7]), ([8], [8]), ([5, 9], [5, 9]), ([10], [10]), ([11, 10], [11]), ([12], [12]), ([13, 12], [12, 13]), ([12], [12]), ([14, 15, 12], [12, 14, 15]), ([16, 12], [12, 16]), ([17, 12], [12, 17]), ([18, 12], [12, 18]), ([19, 12], [12, 19]), ([12, 20], [12, 20])])
def spec_DiskOk.B9 : List Nat := [0, 1, 0, 7, 15, 31, 0, 64, 192, 448, 1023, 2047, 4095, 8191, 16383, 8191, 65535, 131071, 262143, 524287, 1048575, 2097151]
theorem spec_DiskOk.tab9 : rtab .any (opsOf Try.f50 9) = spec_DiskOk.T9 := by kernel_rfl
theorem spec_DiskOk.bits9 : waitsOk spec_DiskOk.T9.2 spec_DiskOk.B9 = true := by kernel_rfl
set_option maxHeartbeats 8000000 in
set_option maxRecDepth 100000 in
theorem spec_DiskOk.calls (k : Nat) (A0_0 : Option Addr) (c0_0 : Nat) (l0_0 : List ByteArray) (A0_1 : Option Addr) (c0_1 : Nat) (l0_1 : List (S83)) (r : Bool) (w : World) (hr0_0 : Kd.C Kd.string w A0_0 l0_0.length l0_0) (hc0_0 : l0_0.length ≤ c0_0) (hr0_1 : Kd.C k83 w A0_1 l0_1.length l0_1) (hc0_1 : l0_1.length ≤ c0_1) (h : spec_DiskOk.f k l0_0 l0_1 = some r) :
    Calls Try.prog 50 #[.agg #[.slice A0_0 l0_0.length c0_0, .slice A0_1 l0_1.length c0_1]] w fun e w' => e = .returned (.bool r) ∧ Below w.heap.size w w' := by
  have hu38 := Try.underlying38
  have HR0_0 := Aside0.mk hr0_0
  clear hr0_0 hc0_0
  have HR0_1 := Aside0.mk hr0_1
  clear hr0_1 hc0_1
  have HB := Aside0.mk (Below.refl w.heap.size w)
  have H : (spec_DiskOk.l0 k 0 l0_0 l0_1) = some r := h
  clear h
  have H' := Aside0.mk H
  clear H
  go_enter Try.func50, Try.ntmps50
  go_wp2_with (first | ((with_reducible refine gate_dst (N := 1) rfl ?_); (try (refine gate_guard zdy ?_; dsimp only)); refine qB 1 #[.slice A0_0 l0_0.length c0_0, .slice A0_1 l0_1.length c0_1] 38 ?_; intro gb378 hg w2 hbox hb; have BK378 := Aside0.mk (hbox); have GW378 := Aside0.mk ((zef : w.heap.size ≤ gb378)); have GE378 := GW378; replace HB := Aside0.mk (below_step za hb); clear hb hbox hg))
  go_loopg [3] k (fun kq v3 w' => ∃ (x3_1 : Int), v3 = .int .i64 x3_1 ∧ Aside0 (spec_DiskOk.l0 kq x3_1 l0_0 l0_1 = some r) ∧ Aside0 (kq ≤ k) ∧ Aside0 (w'.heap[gb378]? = some (.cells #[(.slice A0_0 l0_0.length c0_0), (.slice A0_1 l0_1.length c0_1)] 38 (0, 0))) ∧ Aside0 (Below w.heap.size w w'))
  case atStart => exact ⟨(0), zd, H', ⟨Nat.le_refl _⟩, ⟨zde⟩, ⟨zax⟩⟩
  case round =>
    clear H'
    try clear BK378 HB
    obtain ⟨x3_1, rfl, HA, HK1, BK378, HB⟩ := hrel
    cases gk with
    | zero => exact absurd HA.out (by simp [spec_DiskOk.l0])
    | succ k1 =>
      have H := HA.out
      clear HA
      simp only [spec_DiskOk.l0] at H
      by_cases c3 : x3_1 < (l0_0.length : Int)
      case pos =>
        rw [if_pos c3] at H
        have c3b0 := decide_eq_true c3
        clear c3
        by_cases c4 : 0 ≤ x3_1
        case neg => exact qn c4 H
        rw [if_pos c4] at H
        have c4b0 := decide_eq_true c4
        clear c4
        by_cases c5 : ((rdOf ByteArray.empty l0_0 x3_1).size : Int) > 240
        case pos =>
          rw [if_pos c5] at H
          have c5b0 : decide (240 < ((rdOf ByteArray.empty l0_0 x3_1).size : Int)) = true := decide_eq_true c5
          have c5b1 : decide (240 < (rdOf ByteArray.empty l0_0 x3_1).size) = true := decide_eq_true zd4
          clear c5
          obtain rfl := Option.some.inj H
          obtain ⟨hcz6_0, hcz6_1, hfz6_0, hfz6_1⟩ := qk2 BK378.out
          have p379 : 0 ≤ (x3_1 : Int) := of_decide_eq_true zb
          have q379 : x3_1 < (l0_0.length : Int) := of_decide_eq_true zb
          obtain ⟨ad379, e379, hx379_0⟩ := Kd.at_string HR0_0.out x3_1 p379 q379
          cases e379
          replace hx379_0 := qw HB hx379_0
          replace p379 := eq_true p379
          replace q379 := eq_true q379
          go_wp2
          go_ret
          exact ⟨zc, zax⟩
        rw [if_neg c5] at H
        have c5b0 : decide (240 < ((rdOf ByteArray.empty l0_0 x3_1).size : Int)) = false := decide_eq_false c5
        have c5b1 : decide (240 < (rdOf ByteArray.empty l0_0 x3_1).size) = false := decide_eq_false zd4
        clear c5
        have H' := Aside0.mk H
        clear H
        obtain ⟨hcz7_0, hcz7_1, hfz7_0, hfz7_1⟩ := qk2 BK378.out
        have p379 : 0 ≤ (x3_1 : Int) := of_decide_eq_true zb
        have q379 : x3_1 < (l0_0.length : Int) := of_decide_eq_true zb
        obtain ⟨ad379, e379, hx379_0⟩ := Kd.at_string HR0_0.out x3_1 p379 q379
        cases e379
        replace hx379_0 := qw HB hx379_0
        replace p379 := eq_true p379
        replace q379 := eq_true q379
        go_wp2
        go_roundg k1
        case measure => have := HK1.out; omega
        case rel => exact ⟨(wrap64 (x3_1 + 1)), zd, H', ⟨zd3⟩, ⟨zde⟩, ⟨zax⟩⟩
      rw [if_neg c3] at H
      have c3b0 := decide_eq_false c3
      clear c3
      have H' := Aside0.mk H
      clear H
      obtain ⟨hcz8_0, hcz8_1, hfz8_0, hfz8_1⟩ := qk2 BK378.out
      go_wp2
      go_loopg [4] k1 (fun kq v4 w' => ∃ (x4_2 : Int), v4 = .int .i64 x4_2 ∧ Aside0 (spec_DiskOk.l1 kq x4_2 l0_0 l0_1 = some r) ∧ Aside0 (kq ≤ k1) ∧ Aside0 (w'.heap[gb378]? = some (.cells #[(.slice A0_0 l0_0.length c0_0), (.slice A0_1 l0_1.length c0_1)] 38 (0, 0))) ∧ Aside0 (Below w.heap.size w w'))
      case atStart => exact ⟨(0), zd, H', ⟨Nat.le_refl _⟩, ⟨zde⟩, ⟨zax⟩⟩
      case round =>
        clear H'
        (try clear c3); (try clear c3b0); (try clear c4); (try clear c4b0); (try clear c5); (try clear c5b0); (try clear c5b1); (try clear hcz6_0 hcz6_1 hfz6_0 hfz6_1); (try clear hcz7_0 hcz7_1 hfz7_0 hfz7_1); (try clear hcz8_0 hcz8_1 hfz8_0 hfz8_1); (try clear hx379_0); (try clear p379); (try clear q379)
        try clear BK378 HB
        obtain ⟨x4_2, rfl, HA, HK2, BK378, HB⟩ := hrel
        cases gk with
        | zero => exact absurd HA.out (by simp [spec_DiskOk.l1])
        | succ k2 =>
          have H := HA.out
          clear HA
          simp only [spec_DiskOk.l1] at H
          by_cases c9 : x4_2 < (l0_1.length : Int)
          case neg =>
            rw [if_neg c9] at H
            have c9b0 := decide_eq_false c9
            clear c9
            replace H := qi H
            obtain ⟨t383, A20, H⟩ := H
            by_cases c21 : t383 = true
            case pos =>
              subst c21
              rw [if_pos rfl] at H
              obtain rfl := Option.some.inj H
              obtain ⟨_, _, _, _⟩ := qk2 BK378.out
              go_wp2_with (first | ((with_reducible refine gate_callee (f := 45) rfl ?_); refine qG (some 51) Try.func45 #[.int .i64 (l0_0.length : Int), .int .i64 4, .int .i64 40] ?_; (with_reducible refine (spec_l01In.calls (l0_0.length : Int) 4 40 true _ A20.out).mono ?_); rintro e w' ⟨rfl, ⟨nd, rfl⟩⟩; refine ⟨_, rfl, ?_⟩))
              go_ret
              exact ⟨zc, zax⟩
            replace c21 := Bool.eq_false_iff.mpr c21
            subst c21
            rw [if_neg (qj)] at H
            obtain rfl := Option.some.inj H
            obtain ⟨_, _, _, _⟩ := qk2 BK378.out
            go_wp2_with (first | ((with_reducible refine gate_callee (f := 45) rfl ?_); refine qG (some 51) Try.func45 #[.int .i64 (l0_0.length : Int), .int .i64 4, .int .i64 40] ?_; (with_reducible refine (spec_l01In.calls (l0_0.length : Int) 4 40 false _ A20.out).mono ?_); rintro e w' ⟨rfl, ⟨nd, rfl⟩⟩; refine ⟨_, rfl, ?_⟩))
            go_ret
            exact ⟨zc, zax⟩

          rw [if_pos c9] at H
          have c9b0 := decide_eq_true c9
          clear c9
          by_cases c10 : 0 ≤ x4_2
          case neg => exact qn c10 H
          rw [if_pos c10] at H
          have c10b0 := decide_eq_true c10
          clear c10
          replace H := qi H
          obtain ⟨t381, A11, H⟩ := H
          by_cases c12 : t381 = true
          case neg =>
            replace c12 := Bool.eq_false_iff.mpr c12
            subst c12
            rw [if_neg (qj)] at H
            obtain rfl := Option.some.inj H
            obtain ⟨_, _, _, _⟩ := qk2 BK378.out
            try go_wp2
            replace BK378 := Aside0.mk (blk_drew BK378.out)
            replace HB := Aside0.mk (below_drew1 HB.out)
            have p380 : 0 ≤ (x4_2 : Int) := of_decide_eq_true zb
            have q380 : x4_2 < (l0_1.length : Int) := of_decide_eq_true zb
            obtain ⟨ad380, e380, hx380_0, hx380_1⟩ := at_T83 HR0_1.out x4_2 p380 q380
            have hw380_1 := hx380_1
            have hw380_0 := hx380_0
            cases e380
            replace hx380_0 := qw HB hx380_0
            replace hx380_1 := qw HB hx380_1
            replace p380 := eq_true p380
            replace q380 := eq_true q380
            refine start_ (n := 22) (S := fun w' => w'.cell? ⟨gb378, 0, none⟩ = some (.slice A0_0 l0_0.length c0_0) ∧ w'.cell? ⟨gb378, 1, none⟩ = some (.slice (some ad380) l0_1.length c0_1) ∧ w'.cell? (ad380.add ((x4_2).toNat * 2)) = some (.int .i64 ((rd_T83 l0_1 x4_2).f0)) ∧ w'.cell? ⟨(ad380.add ((x4_2).toNat * 2)).block, (ad380.add ((x4_2).toNat * 2)).off + 1, none⟩ = some (.string ((rd_T83 l0_1 x4_2).f1))) (ds := []) (bz 22 0) za5 rfl rfl ⟨qx BK378 0, qx BK378 1, (qw HB hw380_0), (qw HB hw380_1)⟩ (fun hHeld => ?_); refine with_tabW spec_DiskOk.tab9 spec_DiskOk.bits9 (fun HT_ HW_ => ?_)
            generalize wr.drew = w19 at BK378 HB hx380_0 hx380_1 hHeld ⊢
            refine ql 0 (some 26) (bz 22 1) HT_ ?_
            refine ql 2 (some 28) (bz 22 5) HT_ ?_
            refine ql 6 (some 32) (bz 22 69) HT_ ?_
            refine qt 1 (some 27) (bz 22 71) HT_ HW_ hHeld ?_
            refine ql 3 (some 29) (bz 22 79) HT_ ?_
            refine ql 4 (some 30) (bz 22 95) HT_ ?_
            refine qt 5 (some 31) (bz 22 127) HT_ HW_ hHeld ?_
            refine qt 7 (some 33) (bz 22 255) HT_ HW_ hHeld ?_
            refine ql 8 (some 34) (bz 22 511) HT_ ?_
            refine ql 9 (some 35) (bz 22 1023) HT_ ?_
            refine qs 10 (some 36) (bz 22 2047) HT_ rfl rfl (fun K hK => ?_)
            refine goes_ Try.func45 za5 rfl #[.int .i64 ((rd_T83 l0_1 x4_2).f0), .int .i64 0, .int .i64 (wrap64 ((l0_0.length : Int) - 1))] zdy rfl rfl zv ?_
            with_reducible refine (spec_l01In.calls ((rd_T83 l0_1 x4_2).f0) 0 (wrap64 ((l0_0.length : Int) - 1)) false _ A11.out).mono ?_
            rintro e w' ⟨rfl, ⟨nd, rfl⟩⟩
            refine ⟨_, rfl, ?_⟩
            refine hK.out _ _ ⟨qx BK378 0, qx BK378 1, (qw HB hw380_0), (qw HB hw380_1)⟩ (fun hHeld => ?_)
            clear hK K
            refine qr (some 36) ?_
            refine ql 11 (some 37) (bz 22 4095) HT_ ?_
            refine ql 12 (some 38) (bz 22 8191) HT_ ?_
            refine qo 13 (some 39) (bz 22 16383) HT_ ?_
            refine qo 14 (some 40) (bz 22 32767) HT_ ?_
            refine qo 15 (some 41) (bz 22 65535) HT_ ?_
            refine qo 16 (some 42) (bz 22 131071) HT_ ?_
            refine qo 17 (some 43) (bz 22 262143) HT_ ?_
            refine qo 18 (some 44) (bz 22 524287) HT_ ?_
            refine qo 19 (some 45) (bz 22 1048575) HT_ ?_
            refine qo 20 (some 46) (bz 22 2097151) HT_ ?_
            refine ql 21 (some 47) (bz 22 4194303) HT_ ?_
            refine qu HT_ ?_
            try go_wp2
            go_ret
            exact ⟨zc, zax⟩
          subst c12
          rw [if_pos rfl] at H
          by_cases c13 : (((rd_T83 l0_1 x4_2).f1).size : Int) > 240
          case pos =>
            rw [if_pos c13] at H
            have c13b0 : decide (240 < (((rd_T83 l0_1 x4_2).f1).size : Int)) = true := decide_eq_true c13
            have c13b1 : decide (240 < ((rd_T83 l0_1 x4_2).f1).size) = true := decide_eq_true zd4
            clear c13
            obtain rfl := Option.some.inj H
            obtain ⟨_, _, _, _⟩ := qk2 BK378.out
            try go_wp2
            replace BK378 := Aside0.mk (blk_drew BK378.out)
            replace HB := Aside0.mk (below_drew1 HB.out)
            have p380 : 0 ≤ (x4_2 : Int) := of_decide_eq_true zb
            have q380 : x4_2 < (l0_1.length : Int) := of_decide_eq_true zb
            obtain ⟨ad380, e380, hx380_0, hx380_1⟩ := at_T83 HR0_1.out x4_2 p380 q380
            have hw380_1 := hx380_1
            have hw380_0 := hx380_0
            cases e380
            replace hx380_0 := qw HB hx380_0
            replace hx380_1 := qw HB hx380_1
            replace p380 := eq_true p380
            replace q380 := eq_true q380
            have p382 : 0 ≤ (x4_2 : Int) := of_decide_eq_true zb
            have q382 : x4_2 < (l0_1.length : Int) := of_decide_eq_true zb
            obtain ⟨ad382, e382, hx382_0, hx382_1⟩ := at_T83 HR0_1.out x4_2 p382 q382
            have hw382_1 := hx382_1
            have hw382_0 := hx382_0
            obtain rfl : ad380 = ad382 := (by injection e382)
            replace hx382_0 := qw HB hx382_0
            replace hx382_1 := qw HB hx382_1
            replace p382 := eq_true p382
            replace q382 := eq_true q382
            refine start_ (n := 22) (S := fun w' => w'.cell? ⟨gb378, 0, none⟩ = some (.slice A0_0 l0_0.length c0_0) ∧ w'.cell? ⟨gb378, 1, none⟩ = some (.slice (some ad380) l0_1.length c0_1) ∧ w'.cell? (ad380.add ((x4_2).toNat * 2)) = some (.int .i64 ((rd_T83 l0_1 x4_2).f0)) ∧ w'.cell? ⟨(ad380.add ((x4_2).toNat * 2)).block, (ad380.add ((x4_2).toNat * 2)).off + 1, none⟩ = some (.string ((rd_T83 l0_1 x4_2).f1)) ∧ w'.cell? (ad380.add ((x4_2).toNat * 2)) = some (.int .i64 ((rd_T83 l0_1 x4_2).f0)) ∧ w'.cell? ⟨(ad380.add ((x4_2).toNat * 2)).block, (ad380.add ((x4_2).toNat * 2)).off + 1, none⟩ = some (.string ((rd_T83 l0_1 x4_2).f1))) (ds := []) (bz 22 0) za5 rfl rfl ⟨qx BK378 0, qx BK378 1, (qw HB hw380_0), (qw HB hw380_1), (qw HB hw382_0), (qw HB hw382_1)⟩ (fun hHeld => ?_); refine with_tabW spec_DiskOk.tab9 spec_DiskOk.bits9 (fun HT_ HW_ => ?_)
            generalize wr.drew = w15 at BK378 HB hx380_0 hx380_1 hx382_0 hx382_1 hHeld ⊢
            refine ql 0 (some 26) (bz 22 1) HT_ ?_
            refine ql 2 (some 28) (bz 22 5) HT_ ?_
            refine ql 6 (some 32) (bz 22 69) HT_ ?_
            refine qt 1 (some 27) (bz 22 71) HT_ HW_ hHeld ?_
            refine ql 3 (some 29) (bz 22 79) HT_ ?_
            refine ql 4 (some 30) (bz 22 95) HT_ ?_
            refine qt 5 (some 31) (bz 22 127) HT_ HW_ hHeld ?_
            refine qt 7 (some 33) (bz 22 255) HT_ HW_ hHeld ?_
            refine ql 8 (some 34) (bz 22 511) HT_ ?_
            refine ql 9 (some 35) (bz 22 1023) HT_ ?_
            refine qs 10 (some 36) (bz 22 2047) HT_ rfl rfl (fun K hK => ?_)
            refine goes_ Try.func45 za5 rfl #[.int .i64 ((rd_T83 l0_1 x4_2).f0), .int .i64 0, .int .i64 (wrap64 ((l0_0.length : Int) - 1))] zdy rfl rfl zv ?_
            with_reducible refine (spec_l01In.calls ((rd_T83 l0_1 x4_2).f0) 0 (wrap64 ((l0_0.length : Int) - 1)) true _ A11.out).mono ?_
            rintro e w' ⟨rfl, ⟨nd, rfl⟩⟩
            refine ⟨_, rfl, ?_⟩
            refine hK.out _ _ ⟨qx BK378 0, qx BK378 1, (qw HB hw380_0), (qw HB hw380_1), (qw HB hw382_0), (qw HB hw382_1)⟩ (fun hHeld => ?_)
            clear hK K
            refine qr (some 36) ?_
            refine ql 11 (some 37) (bz 22 4095) HT_ ?_
            refine ql 12 (some 38) (bz 22 8191) HT_ ?_
            refine ql 13 (some 39) (bz 22 16383) HT_ ?_
            refine ql 15 (some 41) (bz 22 49151) HT_ ?_
            refine qt 14 (some 40) (bz 22 65535) HT_ HW_ hHeld ?_
            refine ql 16 (some 42) (bz 22 131071) HT_ ?_
            refine ql 17 (some 43) (bz 22 262143) HT_ ?_
            refine qt 18 (some 44) (bz 22 524287) HT_ HW_ hHeld ?_
            refine ql 19 (some 45) (bz 22 1048575) HT_ ?_
            refine ql 20 (some 46) (bz 22 2097151) HT_ ?_
            refine ql 21 (some 47) (bz 22 4194303) HT_ ?_
            refine qu HT_ ?_
            try go_wp2
            go_ret
            exact ⟨zc, zax⟩
          rw [if_neg c13] at H
          have c13b0 : decide (240 < (((rd_T83 l0_1 x4_2).f1).size : Int)) = false := decide_eq_false c13
          have c13b1 : decide (240 < ((rd_T83 l0_1 x4_2).f1).size) = false := decide_eq_false zd4
          clear c13
          have H' := Aside0.mk H
          clear H
          obtain ⟨_, _, _, _⟩ := qk2 BK378.out
          try go_wp2
          replace BK378 := Aside0.mk (blk_drew BK378.out)
          replace HB := Aside0.mk (below_drew1 HB.out)
          have p380 : 0 ≤ (x4_2 : Int) := of_decide_eq_true zb
          have q380 : x4_2 < (l0_1.length : Int) := of_decide_eq_true zb
          obtain ⟨ad380, e380, hx380_0, hx380_1⟩ := at_T83 HR0_1.out x4_2 p380 q380
          have hw380_1 := hx380_1
          have hw380_0 := hx380_0
          cases e380
          replace hx380_0 := qw HB hx380_0
          replace hx380_1 := qw HB hx380_1
          replace p380 := eq_true p380
          replace q380 := eq_true q380
          have p382 : 0 ≤ (x4_2 : Int) := of_decide_eq_true zb
          have q382 : x4_2 < (l0_1.length : Int) := of_decide_eq_true zb
          obtain ⟨ad382, e382, hx382_0, hx382_1⟩ := at_T83 HR0_1.out x4_2 p382 q382
          have hw382_1 := hx382_1
          have hw382_0 := hx382_0
          obtain rfl : ad380 = ad382 := (by injection e382)
          replace hx382_0 := qw HB hx382_0
          replace hx382_1 := qw HB hx382_1
          replace p382 := eq_true p382
          replace q382 := eq_true q382
          refine start_ (n := 22) (S := fun w' => w'.cell? ⟨gb378, 0, none⟩ = some (.slice A0_0 l0_0.length c0_0) ∧ w'.cell? ⟨gb378, 1, none⟩ = some (.slice (some ad380) l0_1.length c0_1) ∧ w'.cell? (ad380.add ((x4_2).toNat * 2)) = some (.int .i64 ((rd_T83 l0_1 x4_2).f0)) ∧ w'.cell? ⟨(ad380.add ((x4_2).toNat * 2)).block, (ad380.add ((x4_2).toNat * 2)).off + 1, none⟩ = some (.string ((rd_T83 l0_1 x4_2).f1)) ∧ w'.cell? (ad380.add ((x4_2).toNat * 2)) = some (.int .i64 ((rd_T83 l0_1 x4_2).f0)) ∧ w'.cell? ⟨(ad380.add ((x4_2).toNat * 2)).block, (ad380.add ((x4_2).toNat * 2)).off + 1, none⟩ = some (.string ((rd_T83 l0_1 x4_2).f1))) (ds := []) (bz 22 0) za5 rfl rfl ⟨qx BK378 0, qx BK378 1, (qw HB hw380_0), (qw HB hw380_1), (qw HB hw382_0), (qw HB hw382_1)⟩ (fun hHeld => ?_); refine with_tabW spec_DiskOk.tab9 spec_DiskOk.bits9 (fun HT_ HW_ => ?_)
          generalize wr.drew = w17 at BK378 HB hx380_0 hx380_1 hx382_0 hx382_1 hHeld ⊢
          refine ql 0 (some 26) (bz 22 1) HT_ ?_
          refine ql 2 (some 28) (bz 22 5) HT_ ?_
          refine ql 6 (some 32) (bz 22 69) HT_ ?_
          refine qt 1 (some 27) (bz 22 71) HT_ HW_ hHeld ?_
          refine ql 3 (some 29) (bz 22 79) HT_ ?_
          refine ql 4 (some 30) (bz 22 95) HT_ ?_
          refine qt 5 (some 31) (bz 22 127) HT_ HW_ hHeld ?_
          refine qt 7 (some 33) (bz 22 255) HT_ HW_ hHeld ?_
          refine ql 8 (some 34) (bz 22 511) HT_ ?_
          refine ql 9 (some 35) (bz 22 1023) HT_ ?_
          refine qs 10 (some 36) (bz 22 2047) HT_ rfl rfl (fun K hK => ?_)
          refine goes_ Try.func45 za5 rfl #[.int .i64 ((rd_T83 l0_1 x4_2).f0), .int .i64 0, .int .i64 (wrap64 ((l0_0.length : Int) - 1))] zdy rfl rfl zv ?_
          with_reducible refine (spec_l01In.calls ((rd_T83 l0_1 x4_2).f0) 0 (wrap64 ((l0_0.length : Int) - 1)) true _ A11.out).mono ?_
          rintro e w' ⟨rfl, ⟨nd, rfl⟩⟩
          refine ⟨_, rfl, ?_⟩
          refine hK.out _ _ ⟨qx BK378 0, qx BK378 1, (qw HB hw380_0), (qw HB hw380_1), (qw HB hw382_0), (qw HB hw382_1)⟩ (fun hHeld => ?_)
          clear hK K
          refine qr (some 36) ?_
          refine ql 11 (some 37) (bz 22 4095) HT_ ?_
          refine ql 12 (some 38) (bz 22 8191) HT_ ?_
          refine ql 13 (some 39) (bz 22 16383) HT_ ?_
          refine ql 15 (some 41) (bz 22 49151) HT_ ?_
          refine qt 14 (some 40) (bz 22 65535) HT_ HW_ hHeld ?_
          refine ql 16 (some 42) (bz 22 131071) HT_ ?_
          refine ql 17 (some 43) (bz 22 262143) HT_ ?_
          refine qt 18 (some 44) (bz 22 524287) HT_ HW_ hHeld ?_
          refine ql 19 (some 45) (bz 22 1048575) HT_ ?_
          refine ql 20 (some 46) (bz 22 2097151) HT_ ?_
          refine ql 21 (some 47) (bz 22 4194303) HT_ ?_
          refine qu HT_ ?_
          try go_wp2
          go_roundg k2
          case measure => have := HK1.out; have := HK2.out; omega
          case rel => exact ⟨(wrap64 (x4_2 + 1)), zd, H', ⟨zcm⟩, ⟨zde⟩, ⟨zax⟩⟩
end Go.Proofs.Yteokilffbcbllaa.VFnBest
