-- Written by a program of this repo (wip/myprint.py), over the kit's print; functions that the print does not take stand in it by hand-proved contracts.
import Derived.Test.YteokilffbcbllaaVFnBestx0
namespace Go.Proofs.Yteokilffbcbllaa.VFnBest
open Go.RowKit Go.Proofs.YteokilffbcbllaaW.PrintWords Go.Proofs.YteokilffbcbllaaW.PrintLast Go.Proofs.YteokilffbcbllaaW.PrintMore
attribute [local go_sem] max2_int min2_int max_two min_two max_three min_three max_four min_four   -- for this text's walks alone
attribute [local go_sem high] str_leq str_gtr str_geq str_lss
set_option linter.unusedVariables false
set_option linter.unusedSimpArgs false

/-! ### spec_l01Var: function 47 -/
def spec_l01Var.l0 : Nat → Int → List Int → Option (ByteArray)
  | 0, _, _ => none
  | k + 1, x0, x3 => if x0 > 127 then (if x3.length < 140737488355328 then (spec_l01Var.l0 k (wrap64 (Int.tdiv x0 128)) (x3 ++ [(wrap64 ((Int.tmod x0 128) + 128)) % 256])) else (none)) else (if x3.length < 140737488355328 then (some (strOfNums (x3 ++ [(x0) % 256]))) else (none))
def spec_l01Var.f (k : Nat) (a0 : Int) : Option (ByteArray) := spec_l01Var.l0 k a0 (([] : List Int))
theorem spec_l01Var.mono_l : ∀ k, (∀ y0 y1, LeO (spec_l01Var.l0 k y0 y1) (spec_l01Var.l0 (k + 1) y0 y1))
  | 0 => fun _ _ r h => by simp [spec_l01Var.l0] at h
  | k + 1 => by
    have ih0 := spec_l01Var.mono_l k
    · intro y0 y1
      unfold spec_l01Var.l0
      exact qv
theorem spec_l01Var.mono : ∀ a0 k, LeO (spec_l01Var.f k a0) (spec_l01Var.f (k + 1) a0) := by
  intro a0 k
  have ih0 := spec_l01Var.mono_l k
  unfold spec_l01Var.f
  exact qv
set_option maxHeartbeats 8000000 in
set_option maxRecDepth 100000 in
theorem spec_l01Var.calls (k : Nat) (a0 : Int) (r : ByteArray) (w : World) (h : spec_l01Var.f k a0 = some r) :
    Calls Try.prog 47 #[.int .i64 a0] w fun e w' => e = .returned (.string r) ∧ Below w.heap.size w w' := by
  have HB := Aside0.mk (Below.refl w.heap.size w)
  have H : (spec_l01Var.l0 k a0 (([] : List Int))) = some r := h
  clear h
  obtain ⟨y102, hy102⟩ : ∃ y_ : List Int, y_ = (([] : List Int)) := ⟨_, rfl⟩
  replace H : (spec_l01Var.l0 k a0 y102) = some r := by first | (rw [hy102]; with_reducible exact H) | (have H2_ := (Option.bind_some _ _).symm.trans H; rw [hy102]; with_reducible exact H2_) | (have H2_ := (Option.bind_some _ _).symm.trans H; with_reducible exact H2_) | with_reducible exact H | (rw [hy102]; exact H) | exact H
  have Ny102 := Aside0.mk hy102
  clear hy102
  have H' := Aside0.mk H
  clear H
  go_enter Try.func47, Try.ntmps47
  go_wp2_with (first | ((with_reducible refine gate_dst (N := 4) rfl ?_); refine Kd.R_lit (Kd.int .u8) _ 5 ?hg (N := 4) ?hd (xs := ([] : List Int)) (inner := []) (ok := fun _ => True) (okp := fun _ => True) ?hr ?hp (fun _ hk => hk) trivial (Below.refl _ _) (Nat.le_refl _) zdw ?_; (case hd => rfl); (case hg => rfl); (case hr => first | (go_simp; done) | (go_simp; rfl)); (case hp => exact (Reps.none _ _)); intro v103 w2 ho3 hb hg_ hnew_; clear hg_ hnew_; (first | rw [← Ny102.out] at ho3 | (simp only [Int.reduceToNat] at ho3; rw [← Ny102.out] at ho3)); have HO104 := Aside0.mk (Kd.R_lower ho3 (below_size za)); replace HB := Aside0.mk (below_step za hb); clear hb ho3))
  go_loopg [0, 3] k (fun kq v0 v3 w' => ∃ (x0_1 : Int) (x3_1 : List Int), v0 = .int .i64 x0_1 ∧ Aside0 (spec_l01Var.l0 kq x0_1 x3_1 = some r) ∧ Aside0 (kq ≤ k) ∧ Aside0 (Kd.R (Kd.int .u8) 5 w' w.heap.size (fun _ => True) v3 x3_1) ∧ Aside0 (Below w.heap.size w w'))
  case atStart => exact ⟨(a0), (y102), zd, H', ⟨Nat.le_refl _⟩, ⟨by (with_reducible repeat (first | apply Kd.R_alloc | apply Kd.R_drewN | apply Kd.R_drew)); exact HO104.out⟩, ⟨za⟩⟩
  case round =>
    clear H'
    try clear HB
    obtain ⟨x0_1, x3_1, rfl, HA, HK1, HO_3, HB⟩ := hrel
    cases gk with
    | zero => exact absurd HA.out (by simp [spec_l01Var.l0])
    | succ k1 =>
      have H := HA.out
      clear HA
      simp only [spec_l01Var.l0] at H
      by_cases c4 : x0_1 > 127
      case neg =>
        rw [if_neg c4] at H
        have c4b0 : decide (127 < x0_1) = false := decide_eq_false c4
        clear c4
        by_cases c7 : x3_1.length < 140737488355328
        case neg => exact qn c7 H
        rw [if_pos c7] at H
        have LMc7 := Aside0.mk c7
        clear c7
        obtain ⟨y108, hy108⟩ : ∃ y_ : List Int, y_ = (x3_1 ++ [(x0_1) % 256]) := ⟨_, rfl⟩
        replace H : (some (strOfNums y108)) = some r := by first | (rw [hy108]; with_reducible exact H) | (have H2_ := (Option.bind_some _ _).symm.trans H; rw [hy108]; with_reducible exact H2_) | (have H2_ := (Option.bind_some _ _).symm.trans H; with_reducible exact H2_) | with_reducible exact H | (rw [hy108]; exact H) | exact H
        have Ny108 := Aside0.mk hy108
        clear hy108
        obtain rfl := Option.some.inj H
        go_wp2_with (first | ((with_reducible refine gate_builtin (b := .append) (xs := #[.tmp 16, .tmp 19]) rfl ?_); at_builtin; refine Kd.R_append (Kd.int .u8) (w0 := w) w.heap.size rfl (.tmp 16) (.tmp 19) 43 5 (.int .u8 0) 1 rfl Try.underlying43 info5 rfl zbf zd4 u3 x3_1 ((x0_1) % 256) [.int .u8 ((x0_1) % 256)] (fun _ => True) (fun _ => False) rfl rfl ?aP (fun _ hk => hk.elim) ?aF ?aO ?aB ?aS ?aL ?_; (case aP => exact rfl); (case aB => exact za); (case aF => exact (fun _ _ => trivial)); (case aO => exact zaa); (case aS => exact (below_size za)); (case aL => have := LMc7.out; omega); intro v109 w8 ho hb hg hat; rw [← Ny108.out] at ho; replace HB := Aside0.mk (hb); have HO110 := Aside0.mk (ho); clear HO_3; clear ho hb hg hat; have hcv9 := own_string (P := Try.prog) Try.underlying43 Try.underlying5 Try.underlying9 (Kd.own_of_R HO110.out)))
        go_ret
        exact ⟨zc, za⟩
      rw [if_pos c4] at H
      have c4b0 : decide (127 < x0_1) = true := decide_eq_true c4
      clear c4
      by_cases c5 : x3_1.length < 140737488355328
      case neg => exact qn c5 H
      rw [if_pos c5] at H
      have LMc5 := Aside0.mk c5
      clear c5
      obtain ⟨y105, hy105⟩ : ∃ y_ : List Int, y_ = (x3_1 ++ [(wrap64 ((Int.tmod x0_1 128) + 128)) % 256]) := ⟨_, rfl⟩
      replace H : (spec_l01Var.l0 k1 (wrap64 (Int.tdiv x0_1 128)) y105) = some r := by first | (rw [hy105]; with_reducible exact H) | (have H2_ := (Option.bind_some _ _).symm.trans H; rw [hy105]; with_reducible exact H2_) | (have H2_ := (Option.bind_some _ _).symm.trans H; with_reducible exact H2_) | with_reducible exact H | (rw [hy105]; exact H) | exact H
      have Ny105 := Aside0.mk hy105
      clear hy105
      have H' := Aside0.mk H
      clear H
      go_wp2_with (first | ((with_reducible refine gate_builtin (b := .append) (xs := #[.tmp 7, .tmp 12]) rfl ?_); at_builtin; refine Kd.R_append (Kd.int .u8) (w0 := w) w.heap.size rfl (.tmp 7) (.tmp 12) 43 5 (.int .u8 0) 1 rfl Try.underlying43 info5 rfl zbf zd4 u3 x3_1 ((wrap64 ((Int.tmod x0_1 128) + 128)) % 256) [.int .u8 ((wrap64 ((Int.tmod x0_1 128) + 128)) % 256)] (fun _ => True) (fun _ => False) rfl rfl ?aP (fun _ hk => hk.elim) ?aF ?aO ?aB ?aS ?aL ?_; (case aP => exact rfl); (case aB => exact za); (case aF => exact (fun _ _ => trivial)); (case aO => exact zaa); (case aS => exact (below_size za)); (case aL => have := LMc5.out; omega); intro v106 w6 ho hb hg hat; rw [← Ny105.out] at ho; replace HB := Aside0.mk (hb); have HO107 := Aside0.mk (ho); clear HO_3; clear ho hb hg hat))
      go_roundg k1
      case measure => have := HK1.out; omega
      case rel => exact ⟨(wrap64 (Int.tdiv x0_1 128)), (y105), zd, H', ⟨zd3⟩, ⟨by (with_reducible repeat (first | apply Kd.R_alloc | apply Kd.R_drewN | apply Kd.R_drew)); exact HO107.out⟩, ⟨za⟩⟩
/-! ### spec_l02Four: function 55 -/
def spec_l02Four.f (a0 : Int) : Option (ByteArray) := some (strOfNums (([(a0 / 16777216) % 256, (a0 / 65536) % 256, (a0 / 256) % 256, (a0) % 256] : List Int)))
set_option maxHeartbeats 8000000 in
set_option maxRecDepth 100000 in
theorem spec_l02Four.calls (a0 : Int) (r : ByteArray) (w : World) (h : spec_l02Four.f a0 = some r) :
    Calls Try.prog 55 #[.int .u32 a0] w fun e w' => e = .returned (.string r) ∧ Below w.heap.size w w' := by
  have HB := Aside0.mk (Below.refl w.heap.size w)
  unfold spec_l02Four.f at h
  have H := h
  clear h
  obtain ⟨y111, hy111⟩ : ∃ y_ : List Int, y_ = (([(a0 / 16777216) % 256, (a0 / 65536) % 256, (a0 / 256) % 256, (a0) % 256] : List Int)) := ⟨_, rfl⟩
  replace H : (some (strOfNums y111)) = some r := by first | (rw [hy111]; with_reducible exact H) | (have H2_ := (Option.bind_some _ _).symm.trans H; rw [hy111]; with_reducible exact H2_) | (have H2_ := (Option.bind_some _ _).symm.trans H; with_reducible exact H2_) | with_reducible exact H | (rw [hy111]; exact H) | exact H
  have Ny111 := Aside0.mk hy111
  clear hy111
  obtain rfl := Option.some.inj H
  go_enter Try.func55, Try.ntmps55
  go_wp2_with (first | ((with_reducible refine gate_dst (N := 14) rfl ?_); refine Kd.R_lit (Kd.int .u8) _ 5 ?hg (N := 14) ?hd (xs := ([(a0 / 16777216) % 256, (a0 / 65536) % 256, (a0 / 256) % 256, (a0) % 256] : List Int)) (inner := [.int .u8 ((a0 / 16777216) % 256), .int .u8 ((a0 / 65536) % 256), .int .u8 ((a0 / 256) % 256), .int .u8 ((a0) % 256)]) (ok := fun _ => True) (okp := fun _ => True) ?hr ?hp (fun _ hk => hk) trivial (Below.refl _ _) (Nat.le_refl _) zdw ?_; (case hd => rfl); (case hg => rfl); (case hr => first | (go_simp; done) | (go_simp; rfl)); (case hp => exact (Reps.one (show Kd.M (Kd.int .u8) _ _ _ ((a0 / 16777216) % 256) [.int .u8 ((a0 / 16777216) % 256)] from rfl) (Reps.one (show Kd.M (Kd.int .u8) _ _ _ ((a0 / 65536) % 256) [.int .u8 ((a0 / 65536) % 256)] from rfl) (Reps.one (show Kd.M (Kd.int .u8) _ _ _ ((a0 / 256) % 256) [.int .u8 ((a0 / 256) % 256)] from rfl) (Reps.one (show Kd.M (Kd.int .u8) _ _ _ ((a0) % 256) [.int .u8 ((a0) % 256)] from rfl) (Reps.none _ _)))))); intro v112 w2 ho3 hb hg_ hnew_; clear hg_ hnew_; (first | rw [← Ny111.out] at ho3 | (simp only [Int.reduceToNat] at ho3; rw [← Ny111.out] at ho3)); have HO113 := Aside0.mk (Kd.R_lower ho3 (below_size za)); replace HB := Aside0.mk (below_step za hb); clear hb ho3; have hcv4 := own_string (P := Try.prog) Try.underlying43 Try.underlying5 Try.underlying9 (Kd.own_of_R HO113.out)))
  go_ret
  exact ⟨zc, za⟩

/-! ### spec_SumMore: function 75 -/
mutual
def spec_SumMore.l0 : Nat → Int → ByteArray → Int → Option (Int)
  | 0, _, _, _ => none
  | k + 1, x0, x1, x5 => if x5 < (x1.size : Int) then (if 0 ≤ x5 then (spec_SumMore.l1 k (Go.bits .xor .u32 x0 ((bt x1 x5) % 4294967296)) x1 x5 0) else (none)) else (some x0)
def spec_SumMore.l1 : Nat → Int → ByteArray → Int → Int → Option (Int)
  | 0, _, _, _, _ => none
  | k + 1, x0, x1, x5, x6 => if x6 < 8 then (if (Int.tmod x0 2) = 1 then (spec_SumMore.l1 k (Go.bits .xor .u32 ((Int.tdiv x0 2) % 4294967296) 3558460437) x1 x5 (wrap64 (x6 + 1))) else (spec_SumMore.l1 k ((Int.tdiv x0 2) % 4294967296) x1 x5 (wrap64 (x6 + 1)))) else (spec_SumMore.l0 k x0 x1 (wrap64 (x5 + 1)))
end
def spec_SumMore.f (k : Nat) (a0 : Int) (a1 : ByteArray) : Option (Int) := spec_SumMore.l0 k a0 a1 0
theorem spec_SumMore.mono_l : ∀ k, (∀ y0 y1 y2, LeO (spec_SumMore.l0 k y0 y1 y2) (spec_SumMore.l0 (k + 1) y0 y1 y2)) ∧ (∀ y0 y1 y2 y3, LeO (spec_SumMore.l1 k y0 y1 y2 y3) (spec_SumMore.l1 (k + 1) y0 y1 y2 y3))
  | 0 => ⟨fun _ _ _ r h => by simp [spec_SumMore.l0] at h, fun _ _ _ _ r h => by simp [spec_SumMore.l1] at h⟩
  | k + 1 => by
    obtain ⟨ih0, ih1⟩ := spec_SumMore.mono_l k
    refine ⟨?_, ?_⟩
    · intro y0 y1 y2
      unfold spec_SumMore.l0
      exact qv
    · intro y0 y1 y2 y3
      unfold spec_SumMore.l1
      exact qv
theorem spec_SumMore.mono : ∀ a0 a1 k, LeO (spec_SumMore.f k a0 a1) (spec_SumMore.f (k + 1) a0 a1) := by
  intro a0 a1 k
  obtain ⟨ih0, ih1⟩ := spec_SumMore.mono_l k
  unfold spec_SumMore.f
  exact qv
set_option maxHeartbeats 8000000 in
set_option maxRecDepth 100000 in
theorem spec_SumMore.calls (k : Nat) (a0 : Int) (a1 : ByteArray) (r : Int) (w : World) (h : spec_SumMore.f k a0 a1 = some r) :
    Calls Try.prog 75 #[.int .u32 a0, .string a1] w fun e w' => e = .returned (.int .u32 r) ∧ Drawn0 w w' := by
  have H : (spec_SumMore.l0 k a0 a1 0) = some r := h
  clear h
  have H' := Aside0.mk H
  clear H
  go_enter Try.func75, Try.ntmps75
  go_wp2
  go_loopg [0, 5] k (fun kq v0 v5 w' => ∃ (x0_1 : Int) (x5_1 : Int), v0 = .int .u32 x0_1 ∧ v5 = .int .i64 x5_1 ∧ Aside0 (spec_SumMore.l0 kq x0_1 a1 x5_1 = some r) ∧ Aside0 (kq ≤ k) ∧ Drawn0 w w')
  case atStart => exact ⟨(a0), (0), zd, zd, H', ⟨Nat.le_refl _⟩, z5⟩
  case round =>
    clear H'
    obtain ⟨x0_1, x5_1, rfl, rfl, HA, HK1, ⟨m1, rfl⟩⟩ := hrel
    cases gk with
    | zero => exact absurd HA.out (by simp [spec_SumMore.l0])
    | succ k1 =>
      have H := HA.out
      clear HA
      simp only [spec_SumMore.l0] at H
      by_cases c3 : x5_1 < (a1.size : Int)
      case neg =>
        rw [if_neg c3] at H
        have c3b0 := decide_eq_false c3
        clear c3
        obtain rfl := Option.some.inj H
        go_wp2
        go_ret
        exact ⟨zd, z5⟩

      rw [if_pos c3] at H
      have c3b0 := decide_eq_true c3
      clear c3
      by_cases c4 : 0 ≤ x5_1
      case neg => exact qn c4 H
      rw [if_pos c4] at H
      have c4b0 := decide_eq_true c4
      clear c4
      have H' := Aside0.mk H
      clear H
      have p5 : 0 ≤ (x5_1 : Int) := of_decide_eq_true zb
      have q5 : x5_1 < (a1.size : Int) := of_decide_eq_true zb
      have hx5 := bt_at a1 x5_1
      replace p5 := eq_true p5
      replace q5 := eq_true q5
      go_wp2
      go_loopg [0, 6] k1 (fun kq v0 v6 w' => ∃ (x0_2 : Int) (x6_2 : Int), v0 = .int .u32 x0_2 ∧ v6 = .int .i64 x6_2 ∧ Aside0 (spec_SumMore.l1 kq x0_2 a1 x5_1 x6_2 = some r) ∧ Aside0 (kq ≤ k1) ∧ Drawn0 w w')
      case atStart => exact ⟨(Go.bits .xor .u32 x0_1 ((bt a1 x5_1) % 4294967296)), (0), zd, zd, H', ⟨Nat.le_refl _⟩, z5⟩
      case round =>
        clear H'
        (try clear c3); (try clear c3b0); (try clear c4); (try clear c4b0); (try clear p5); (try clear q5); (try clear hx5); (try clear p5); (try clear q5)
        obtain ⟨x0_2, x6_2, rfl, rfl, HA, HK2, ⟨m2, rfl⟩⟩ := hrel
        cases gk with
        | zero => exact absurd HA.out (by simp [spec_SumMore.l1])
        | succ k2 =>
          have H := HA.out
          clear HA
          simp only [spec_SumMore.l1] at H
          by_cases c6 : x6_2 < 8
          case neg =>
            rw [if_neg c6] at H
            have c6b0 := decide_eq_false c6
            clear c6
            have H' := Aside0.mk H
            clear H
            go_wp2
            go_roundg k2
            case measure => have := HK1.out; have := HK2.out; omega
            case rel => exact ⟨(x0_2), (wrap64 (x5_1 + 1)), zd, zd, H', ⟨zcm⟩, z5⟩
          rw [if_pos c6] at H
          have c6b0 := decide_eq_true c6
          clear c6
          by_cases c7 : (Int.tmod x0_2 2) = 1
          case neg =>
            rw [if_neg c7] at H
            have c7b0 : ((Int.tmod x0_2 2) == 1) = false := beq_eq_false_iff_ne.mpr c7
            have c7b1 : ((Int.tmod x0_2 2) != 1) = true := bne_iff_ne.mpr c7
            have H' := Aside0.mk H
            clear H
            go_wp2
            go_roundg k2
            case measure => have := HK1.out; have := HK2.out; omega
            case rel => exact ⟨((Int.tdiv x0_2 2) % 4294967296), (wrap64 (x6_2 + 1)), zd, zd, H', ⟨zcm⟩, z5⟩
          rw [if_pos c7] at H
          have c7b0 : ((Int.tmod x0_2 2) == 1) = true := beq_iff_eq.mpr c7
          have c7b1 : ((Int.tmod x0_2 2) != 1) = false := bne_eq_false_iff_eq.mpr c7
          clear c7
          have H' := Aside0.mk H
          clear H
          go_wp2
          go_roundg k2
          case measure => have := HK1.out; have := HK2.out; omega
          case rel => exact ⟨(Go.bits .xor .u32 ((Int.tdiv x0_2 2) % 4294967296) 3558460437), (wrap64 (x6_2 + 1)), zd, zd, H', ⟨zcm⟩, z5⟩
/-! ### spec_SumOf: function 56 -/
def spec_SumOf.f (k : Nat) (a0 : ByteArray) : Option (Int) := (spec_SumMore.f k 4294967295 a0).bind fun t114 => (some t114)
theorem spec_SumOf.mono : ∀ a0 k, LeO (spec_SumOf.f k a0) (spec_SumOf.f (k + 1) a0) := by
  intro a0 k
  unfold spec_SumOf.f
  exact qv
set_option maxHeartbeats 8000000 in
set_option maxRecDepth 100000 in
theorem spec_SumOf.calls (k : Nat) (a0 : ByteArray) (r : Int) (w : World) (h : spec_SumOf.f k a0 = some r) :
    Calls Try.prog 56 #[.string a0] w fun e w' => e = .returned (.int .u32 r) ∧ Drawn0 w w' := by
  have H : ((spec_SumMore.f k 4294967295 a0).bind fun t114 => (some t114)) = some r := h
  clear h
  replace H := qi H
  obtain ⟨t114, A2, H⟩ := H
  obtain rfl := Option.some.inj H
  go_enter Try.func56, Try.ntmps56
  go_wp2_with (first | ((with_reducible refine gate_callee (f := 75) rfl ?_); refine qG (some 4) Try.func75 #[.int .u32 4294967295, .string a0] ?_; (with_reducible refine (spec_SumMore.calls k 4294967295 a0 t114 _ A2.out).mono ?_); rintro e w' ⟨rfl, ⟨nd, rfl⟩⟩; refine ⟨_, rfl, ?_⟩))
  go_ret
  exact ⟨zd, z5⟩

/-! ### spec_Sealed: function 48 -/
def spec_Sealed.f (k : Nat) (a0 : ByteArray) : Option (ByteArray × Bool) := if (a0.size : Int) > 20000 then (some ((⟨#[]⟩ : ByteArray), false)) else ((spec_SumOf.f k a0).bind fun t115 => ((spec_l02Four.f t115).bind fun t116 => (if a0.size + t116.size ≤ 9223372036854775807 then (some (a0 ++ t116, true)) else (none))))
theorem spec_Sealed.mono : ∀ a0 k, LeO (spec_Sealed.f k a0) (spec_Sealed.f (k + 1) a0) := by
  intro a0 k
  unfold spec_Sealed.f
  exact qv
set_option maxHeartbeats 8000000 in
set_option maxRecDepth 100000 in
theorem spec_Sealed.calls (k : Nat) (a0 : ByteArray) (r1 : ByteArray) (r2 : Bool) (w : World) (h : spec_Sealed.f k a0 = some (r1, r2)) :
    Calls Try.prog 48 #[.string a0] w fun e w' => e = .returned (.tuple #[.string r1, .bool r2]) ∧ Below w.heap.size w w' := by
  have HB := Aside0.mk (Below.refl w.heap.size w)
  unfold spec_Sealed.f at h
  have H := h
  clear h
  by_cases c2 : (a0.size : Int) > 20000
  case pos =>
    rw [if_pos c2] at H
    have c2b0 : decide (20000 < (a0.size : Int)) = true := decide_eq_true c2
    have c2b1 : decide (20000 < a0.size) = true := decide_eq_true zd4
    clear c2
    simp only [Option.some.injEq, Prod.mk.injEq] at H
    obtain ⟨rfl, rfl⟩ := H
    go_enter Try.func48, Try.ntmps48
    go_wp2
    go_ret2
    exact ⟨zc, za⟩
  rw [if_neg c2] at H
  have c2b0 : decide (20000 < (a0.size : Int)) = false := decide_eq_false c2
  have c2b1 : decide (20000 < a0.size) = false := decide_eq_false zd4
  clear c2
  replace H := qi H
  obtain ⟨t115, A3, H⟩ := H
  replace H := qi H
  obtain ⟨t116, A4, H⟩ := H
  by_cases c5 : a0.size + t116.size ≤ 9223372036854775807
  case neg => exact qn c5 H
  rw [if_pos c5] at H
  have c5b0 := eq_true c5
  have c5b1 := decide_eq_true c5
  try have c5b2 := eq_false (Nat.not_lt.2 c5)
  simp only [Option.some.injEq, Prod.mk.injEq] at H
  obtain ⟨rfl, rfl⟩ := H
  go_enter Try.func48, Try.ntmps48
  go_wp2_with (first | ((with_reducible refine gate_callee (f := 56) rfl ?_); refine qG (some 9) Try.func56 #[.string a0] ?_; (with_reducible refine (spec_SumOf.calls k a0 t115 _ A3.out).mono ?_); rintro e w' ⟨rfl, ⟨nd, rfl⟩⟩; refine ⟨_, rfl, ?_⟩) | ((with_reducible refine gate_callee (f := 55) rfl ?_); refine qG (some 10) Try.func55 #[.int .u32 t115] ?_; (with_reducible refine (spec_l02Four.calls t115 t116 _ A4.out).mono ?_); rintro e w6 ⟨rfl, hb⟩; refine ⟨_, rfl, ?_⟩; replace HB := Aside0.mk (below_step za hb); try clear hb))
  go_ret2
  exact ⟨zc, za⟩
end Go.Proofs.Yteokilffbcbllaa.VFnBest
