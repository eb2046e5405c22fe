-- Written by a program of this repo (wip/myprint.py), over the kit's print; functions that the print does not take stand in it by hand-proved contracts.
import Derived.Test.YteokilffbcbllaaVFnBestx0
import Derived.Test.YteokilffbcbllaaVFnBestx9
import Derived.Test.YteokilffbcbllaaVFnBestx12
namespace Go.Proofs.Yteokilffbcbllaa.VFnBest
open Go.RowKit Go.Proofs.YteokilffbcbllaaW.PrintWords Go.Proofs.YteokilffbcbllaaW.PrintLast Go.Proofs.YteokilffbcbllaaW.PrintMore
attribute [local go_sem] max2_int min2_int max_two min_two max_three min_three max_four min_four   -- for this text's walks alone
attribute [local go_sem high] str_leq str_gtr str_geq str_lss
set_option linter.unusedVariables false
set_option linter.unusedSimpArgs false

/-! ### impl_varText: function 62 -/
def impl_varText.l0 : Nat → Int → List Int → Option (ByteArray)
  | 0, _, _ => none
  | k + 1, x0, x3 => if x0 > 127 then (if x3.length < 140737488355328 then (impl_varText.l0 k (x0 / 128) (x3 ++ [(Go.bits .or .i64 (Go.bits .and .i64 x0 127) 128) % 256])) else (none)) else (if x3.length < 140737488355328 then (some (strOfNums (x3 ++ [(x0) % 256]))) else (none))
def impl_varText.f (k : Nat) (a0 : Int) : Option (ByteArray) := impl_varText.l0 k a0 (([] : List Int))
theorem impl_varText.mono_l : ∀ k, (∀ y0 y1, LeO (impl_varText.l0 k y0 y1) (impl_varText.l0 (k + 1) y0 y1))
  | 0 => fun _ _ r h => by simp [impl_varText.l0] at h
  | k + 1 => by
    have ih0 := impl_varText.mono_l k
    · intro y0 y1
      unfold impl_varText.l0
      exact qv
theorem impl_varText.mono : ∀ a0 k, LeO (impl_varText.f k a0) (impl_varText.f (k + 1) a0) := by
  intro a0 k
  have ih0 := impl_varText.mono_l k
  unfold impl_varText.f
  exact qv
set_option maxHeartbeats 8000000 in
set_option maxRecDepth 100000 in
theorem impl_varText.calls (k : Nat) (a0 : Int) (r : ByteArray) (w : World) (h : impl_varText.f k a0 = some r) :
    Calls Try.prog 62 #[.int .i64 a0] w fun e w' => e = .returned (.string r) ∧ Below w.heap.size w w' := by
  have HB := Aside0.mk (Below.refl w.heap.size w)
  have H : (impl_varText.l0 k a0 (([] : List Int))) = some r := h
  clear h
  obtain ⟨y228, hy228⟩ : ∃ y_ : List Int, y_ = (([] : List Int)) := ⟨_, rfl⟩
  replace H : (impl_varText.l0 k a0 y228) = some r := by first | (rw [hy228]; with_reducible exact H) | (have H2_ := (Option.bind_some _ _).symm.trans H; rw [hy228]; with_reducible exact H2_) | (have H2_ := (Option.bind_some _ _).symm.trans H; with_reducible exact H2_) | with_reducible exact H | (rw [hy228]; exact H) | exact H
  have Ny228 := Aside0.mk hy228
  clear hy228
  have H' := Aside0.mk H
  clear H
  go_enter Try.func62, Try.ntmps62
  go_wp2_with (first | ((with_reducible refine gate_dst (N := 4) rfl ?_); refine Kd.R_lit (Kd.int .u8) _ 5 ?hg (N := 4) ?hd (xs := ([] : List Int)) (inner := []) (ok := fun _ => True) (okp := fun _ => True) ?hr ?hp (fun _ hk => hk) trivial (Below.refl _ _) (Nat.le_refl _) zdw ?_; (case hd => rfl); (case hg => rfl); (case hr => first | (go_simp; done) | (go_simp; rfl)); (case hp => exact (Reps.none _ _)); intro v229 w2 ho3 hb hg_ hnew_; clear hg_ hnew_; (first | rw [← Ny228.out] at ho3 | (simp only [Int.reduceToNat] at ho3; rw [← Ny228.out] at ho3)); have HO230 := Aside0.mk (Kd.R_lower ho3 (below_size za)); replace HB := Aside0.mk (below_step za hb); clear hb ho3))
  go_loopg [0, 3] k (fun kq v0 v3 w' => ∃ (x0_1 : Int) (x3_1 : List Int), v0 = .int .i64 x0_1 ∧ Aside0 (impl_varText.l0 kq x0_1 x3_1 = some r) ∧ Aside0 (kq ≤ k) ∧ Aside0 (Kd.R (Kd.int .u8) 5 w' w.heap.size (fun _ => True) v3 x3_1) ∧ Aside0 (Below w.heap.size w w'))
  case atStart => exact ⟨(a0), (y228), zd, H', ⟨Nat.le_refl _⟩, ⟨by (with_reducible repeat (first | apply Kd.R_alloc | apply Kd.R_drewN | apply Kd.R_drew)); exact HO230.out⟩, ⟨za⟩⟩
  case round =>
    clear H'
    try clear HB
    obtain ⟨x0_1, x3_1, rfl, HA, HK1, HO_3, HB⟩ := hrel
    cases gk with
    | zero => exact absurd HA.out (by simp [impl_varText.l0])
    | succ k1 =>
      have H := HA.out
      clear HA
      simp only [impl_varText.l0] at H
      by_cases c4 : x0_1 > 127
      case neg =>
        rw [if_neg c4] at H
        have c4b0 : decide (127 < x0_1) = false := decide_eq_false c4
        clear c4
        by_cases c7 : x3_1.length < 140737488355328
        case neg => exact qn c7 H
        rw [if_pos c7] at H
        have LMc7 := Aside0.mk c7
        clear c7
        obtain ⟨y234, hy234⟩ : ∃ y_ : List Int, y_ = (x3_1 ++ [(x0_1) % 256]) := ⟨_, rfl⟩
        replace H : (some (strOfNums y234)) = some r := by first | (rw [hy234]; with_reducible exact H) | (have H2_ := (Option.bind_some _ _).symm.trans H; rw [hy234]; with_reducible exact H2_) | (have H2_ := (Option.bind_some _ _).symm.trans H; with_reducible exact H2_) | with_reducible exact H | (rw [hy234]; exact H) | exact H
        have Ny234 := Aside0.mk hy234
        clear hy234
        obtain rfl := Option.some.inj H
        go_wp2_with (first | ((with_reducible refine gate_builtin (b := .append) (xs := #[.tmp 16, .tmp 19]) rfl ?_); at_builtin; refine Kd.R_append (Kd.int .u8) (w0 := w) w.heap.size rfl (.tmp 16) (.tmp 19) 43 5 (.int .u8 0) 1 rfl Try.underlying43 info5 rfl zbf zd4 u3 x3_1 ((x0_1) % 256) [.int .u8 ((x0_1) % 256)] (fun _ => True) (fun _ => False) rfl rfl ?aP (fun _ hk => hk.elim) ?aF ?aO ?aB ?aS ?aL ?_; (case aP => exact rfl); (case aB => exact za); (case aF => exact (fun _ _ => trivial)); (case aO => exact zaa); (case aS => exact (below_size za)); (case aL => have := LMc7.out; omega); intro v235 w8 ho hb hg hat; rw [← Ny234.out] at ho; replace HB := Aside0.mk (hb); have HO236 := Aside0.mk (ho); clear HO_3; clear ho hb hg hat; have hcv9 := own_string (P := Try.prog) Try.underlying43 Try.underlying5 Try.underlying9 (Kd.own_of_R HO236.out)))
        go_ret
        exact ⟨zc, za⟩
      rw [if_pos c4] at H
      have c4b0 : decide (127 < x0_1) = true := decide_eq_true c4
      clear c4
      by_cases c5 : x3_1.length < 140737488355328
      case neg => exact qn c5 H
      rw [if_pos c5] at H
      have LMc5 := Aside0.mk c5
      clear c5
      obtain ⟨y231, hy231⟩ : ∃ y_ : List Int, y_ = (x3_1 ++ [(Go.bits .or .i64 (Go.bits .and .i64 x0_1 127) 128) % 256]) := ⟨_, rfl⟩
      replace H : (impl_varText.l0 k1 (x0_1 / 128) y231) = some r := by first | (rw [hy231]; with_reducible exact H) | (have H2_ := (Option.bind_some _ _).symm.trans H; rw [hy231]; with_reducible exact H2_) | (have H2_ := (Option.bind_some _ _).symm.trans H; with_reducible exact H2_) | with_reducible exact H | (rw [hy231]; exact H) | exact H
      have Ny231 := Aside0.mk hy231
      clear hy231
      have H' := Aside0.mk H
      clear H
      go_wp2_with (first | ((with_reducible refine gate_builtin (b := .append) (xs := #[.tmp 7, .tmp 12]) rfl ?_); at_builtin; refine Kd.R_append (Kd.int .u8) (w0 := w) w.heap.size rfl (.tmp 7) (.tmp 12) 43 5 (.int .u8 0) 1 rfl Try.underlying43 info5 rfl zbf zd4 u3 x3_1 ((Go.bits .or .i64 (Go.bits .and .i64 x0_1 127) 128) % 256) [.int .u8 ((Go.bits .or .i64 (Go.bits .and .i64 x0_1 127) 128) % 256)] (fun _ => True) (fun _ => False) rfl rfl ?aP (fun _ hk => hk.elim) ?aF ?aO ?aB ?aS ?aL ?_; (case aP => exact rfl); (case aB => exact za); (case aF => exact (fun _ _ => trivial)); (case aO => exact zaa); (case aS => exact (below_size za)); (case aL => have := LMc5.out; omega); intro v232 w6 ho hb hg hat; rw [← Ny231.out] at ho; replace HB := Aside0.mk (hb); have HO233 := Aside0.mk (ho); clear HO_3; clear ho hb hg hat))
      go_roundg k1
      case measure => have := HK1.out; omega
      case rel => exact ⟨(x0_1 / 128), (y231), zd, H', ⟨zd3⟩, ⟨by (with_reducible repeat (first | apply Kd.R_alloc | apply Kd.R_drewN | apply Kd.R_drew)); exact HO233.out⟩, ⟨za⟩⟩
/-! ### impl_MetaText: function 29 -/
mutual
def impl_MetaText.l0 : Nat → ByteArray → List (S60) → Int → Int → Option (ByteArray × Bool)
  | 0, _, _, _, _ => none
  | k + 1, x4, x29, x30, x31 => if x31 < x30 then (if 0 ≤ x31 then (if x31 < (x29.length : Int) then ((impl_varText.f k ((rd_T60 x29 x31).f0)).bind fun t245 => ((impl_varText.f k (((rd_T60 x29 x31).f1).length : Int)).bind fun t246 => (if t245.size + t246.size ≤ 9223372036854775807 then (if x4.size + (t245 ++ t246).size ≤ 9223372036854775807 then (impl_MetaText.l1 k (x4 ++ (t245 ++ t246)) x29 x30 x31 ((rd_T60 x29 x31).f1) (((rd_T60 x29 x31).f1).length : Int) 0) else (none)) else (none)))) else (none)) else (none)) else ((impl_seal.f k x4).bind fun t249 => (if x4.size + t249.size ≤ 9223372036854775807 then (if ((x4 ++ t249).size : Int) > 240 then (some ((⟨#[]⟩ : ByteArray), false)) else (some (x4 ++ t249, true))) else (none)))
def impl_MetaText.l1 : Nat → ByteArray → List (S60) → Int → Int → List Int → Int → Int → Option (ByteArray × Bool)
  | 0, _, _, _, _, _, _, _ => none
  | k + 1, x4, x29, x30, x31, x46, x47, x48 => if x48 < x47 then (if 0 ≤ x48 then (if x48 < (x46.length : Int) then ((impl_varText.f k (rd x46 x48)).bind fun t248 => (if x4.size + t248.size ≤ 9223372036854775807 then (impl_MetaText.l1 k (x4 ++ t248) x29 x30 x31 x46 x47 (wrap64 (x48 + 1))) else (none))) else (none)) else (none)) else (impl_MetaText.l0 k x4 x29 x30 (wrap64 (x31 + 1)))
end
def impl_MetaText.f (k : Nat) (a0_0 : Int) (a0_1 : Int) (a0_2 : Int) (l0_3 : List (S60)) : Option (ByteArray × Bool) := (impl_MetaOk.f k a0_0 a0_1 a0_2 l0_3).bind fun t238 => (if t238 = true then ((impl_varText.f k a0_0).bind fun t239 => ((impl_varText.f k a0_1).bind fun t240 => (if t239.size + t240.size ≤ 9223372036854775807 then ((impl_varText.f k a0_2).bind fun t241 => (if (t239 ++ t240).size + t241.size ≤ 9223372036854775807 then ((impl_varText.f k (l0_3.length : Int)).bind fun t242 => (if ((t239 ++ t240) ++ t241).size + t242.size ≤ 9223372036854775807 then (impl_MetaText.l0 k (((t239 ++ t240) ++ t241) ++ t242) l0_3 (l0_3.length : Int) 0) else (none))) else (none))) else (none)))) else (some ((⟨#[]⟩ : ByteArray), false)))
theorem impl_MetaText.mono_l : ∀ k, (∀ y0 y1 y2 y3, LeO (impl_MetaText.l0 k y0 y1 y2 y3) (impl_MetaText.l0 (k + 1) y0 y1 y2 y3)) ∧ (∀ y0 y1 y2 y3 y4 y5 y6, LeO (impl_MetaText.l1 k y0 y1 y2 y3 y4 y5 y6) (impl_MetaText.l1 (k + 1) y0 y1 y2 y3 y4 y5 y6))
  | 0 => ⟨fun _ _ _ _ r h => by simp [impl_MetaText.l0] at h, fun _ _ _ _ _ _ _ r h => by simp [impl_MetaText.l1] at h⟩
  | k + 1 => by
    obtain ⟨ih0, ih1⟩ := impl_MetaText.mono_l k
    refine ⟨?_, ?_⟩
    · intro y0 y1 y2 y3
      unfold impl_MetaText.l0
      exact qv
    · intro y0 y1 y2 y3 y4 y5 y6
      unfold impl_MetaText.l1
      exact qv
theorem impl_MetaText.mono : ∀ a0 a1 a2 a3 k, LeO (impl_MetaText.f k a0 a1 a2 a3) (impl_MetaText.f (k + 1) a0 a1 a2 a3) := by
  intro a0 a1 a2 a3 k
  obtain ⟨ih0, ih1⟩ := impl_MetaText.mono_l k
  unfold impl_MetaText.f
  exact qv
def impl_MetaText.T3 : Bool × List (List Nat × List Nat) := (true, [([], []), ([0], [0]), ([1], [1]), ([], []), ([3], [3]), ([4, 2], [4]), ([2, 5], [2, 5]), ([], []), ([7], [7]), ([8, 5], [8]), ([6, 9], [6, 9]), ([], []), ([11], [11]), ([12], [12]), ([13, 9], [13]), ([10, 14], [10, 14]), ([15, 14, 0, 1, 2, 3, 4, 5, 6, 7, 8, 9, 10, 11, 12, 13, 14, 15], [15])])
def impl_MetaText.B3 : List Nat := [0, 1, 3, 0, 8, 31, 63, 0, 128, 447, 1023, 0, 2048, 6144, 15295, 32767, 65535]
theorem impl_MetaText.tab3 : rtab .any (opsOf Try.f29 3) = impl_MetaText.T3 := by kernel_rfl
theorem impl_MetaText.bits3 : waitsOk impl_MetaText.T3.2 impl_MetaText.B3 = true := by kernel_rfl
def impl_MetaText.T7 : Bool × List (List Nat × List Nat) := (true, [([], []), ([], []), ([1], [1]), ([2], [2]), ([], []), ([4], [4]), ([5], [5]), ([6, 3], [6]), ([3, 7], [3, 7]), ([0, 8], [0, 8]), ([9, 7, 0, 1, 2, 3, 4, 5, 6, 7, 8, 9], [0, 9])])
def impl_MetaText.B7 : List Nat := [0, 0, 2, 6, 0, 16, 48, 126, 254, 511, 1023]
theorem impl_MetaText.tab7 : rtab .any (opsOf Try.f29 7) = impl_MetaText.T7 := by kernel_rfl
theorem impl_MetaText.bits7 : waitsOk impl_MetaText.T7.2 impl_MetaText.B7 = true := by kernel_rfl
set_option maxHeartbeats 8000000 in
set_option maxRecDepth 100000 in
theorem impl_MetaText.calls (k : Nat) (a0_0 : Int) (a0_1 : Int) (a0_2 : Int) (A0_3 : Option Addr) (c0_3 : Nat) (l0_3 : List (S60)) (r1 : ByteArray) (r2 : Bool) (w : World) (hr0_3 : Kd.C k60 w A0_3 l0_3.length l0_3) (hc0_3 : l0_3.length ≤ c0_3) (h : impl_MetaText.f k a0_0 a0_1 a0_2 l0_3 = some (r1, r2)) :
    Calls Try.prog 29 #[.agg #[.int .i64 a0_0, .int .i64 a0_1, .int .i64 a0_2, .slice A0_3 l0_3.length c0_3]] w fun e w' => e = .returned (.tuple #[.string r1, .bool r2]) ∧ Below w.heap.size w w' := by
  have hu24 := Try.underlying24
  have hu60 := Try.underlying60
  have HR0_3 := Aside0.mk hr0_3
  have HC0_3 := Aside0.mk hc0_3
  clear hr0_3 hc0_3
  have HB := Aside0.mk (Below.refl w.heap.size w)
  unfold impl_MetaText.f at h
  have H := h
  clear h
  replace H := qi H
  obtain ⟨t238, A2, H⟩ := H
  by_cases c3 : t238 = true
  case neg =>
    replace c3 := Bool.eq_false_iff.mpr c3
    subst c3
    rw [if_neg (qj)] at H
    simp only [Option.some.injEq, Prod.mk.injEq] at H
    obtain ⟨rfl, rfl⟩ := H
    go_enter Try.func29, Try.ntmps29
    go_wp2_with (first | ((with_reducible refine gate_dst (N := 1) rfl ?_); refine qB 1 #[.int .i64 a0_0, .int .i64 a0_1, .int .i64 a0_2, .slice A0_3 l0_3.length c0_3] 24 ?_; intro gb237 hg w46 hbox hb; have BK237 := Aside0.mk (hbox); have GW237 := Aside0.mk ((zef : w.heap.size ≤ gb237)); have GE237 := GW237; replace HB := Aside0.mk (below_step za hb); clear hb hbox hg; obtain ⟨_, _, _, _, _, _, _, _⟩ := qk4 BK237.out) | ((with_reducible refine gate_callee (f := 61) rfl ?_); refine qG (some 10) Try.func61 #[.agg #[.int .i64 a0_0, .int .i64 a0_1, .int .i64 a0_2, .slice A0_3 l0_3.length c0_3]] ?_; (with_reducible refine (impl_MetaOk.calls k a0_0 a0_1 a0_2 _ _ l0_3 false _ ?side1 ?side2 A2.out).mono ?_); (case side1 => exact zbe); (case side2 => exact HC0_3.out); rintro e w48 ⟨rfl, hb⟩; refine ⟨_, rfl, ?_⟩; replace HB := Aside0.mk (below_step z9 hb); try clear hb))
    go_ret2
    exact ⟨zc, z9⟩

  subst c3
  rw [if_pos rfl] at H
  replace H := qi H
  obtain ⟨t239, A4, H⟩ := H
  replace H := qi H
  obtain ⟨t240, A5, H⟩ := H
  by_cases c6 : t239.size + t240.size ≤ 9223372036854775807
  case neg => exact qn c6 H
  rw [if_pos c6] at H
  have c6b0 := eq_true c6
  have c6b1 := decide_eq_true c6
  try have c6b2 := eq_false (Nat.not_lt.2 c6)
  replace H := qi H
  obtain ⟨t241, A7, H⟩ := H
  by_cases c8 : (t239 ++ t240).size + t241.size ≤ 9223372036854775807
  case neg => exact qn c8 H
  rw [if_pos c8] at H
  have c8b0 := eq_true c8
  have c8b1 := decide_eq_true c8
  try have c8b2 := eq_false (Nat.not_lt.2 c8)
  try have c8b3 := c8b2
  try simp only [ByteArray.size_append] at c8b3
  replace H := qi H
  obtain ⟨t242, A9, H⟩ := H
  by_cases c10 : ((t239 ++ t240) ++ t241).size + t242.size ≤ 9223372036854775807
  case neg => exact qn c10 H
  rw [if_pos c10] at H
  have c10b0 := eq_true c10
  have c10b1 := decide_eq_true c10
  try have c10b2 := eq_false (Nat.not_lt.2 c10)
  try have c10b3 := c10b2
  try simp only [ByteArray.size_append] at c10b3
  have H' := Aside0.mk H
  clear H
  go_enter Try.func29, Try.ntmps29
  try go_wp2_with (first | ((with_reducible refine gate_dst (N := 1) rfl ?_); refine qB 1 #[.int .i64 a0_0, .int .i64 a0_1, .int .i64 a0_2, .slice A0_3 l0_3.length c0_3] 24 ?_; intro gb237 hg w11 hbox hb; have BK237 := Aside0.mk (hbox); have GW237 := Aside0.mk ((zef : w.heap.size ≤ gb237)); have GE237 := GW237; replace HB := Aside0.mk (below_step za hb); clear hb hbox hg; obtain ⟨hcz12_0, hcz12_1, hcz12_2, hcz12_3, hfz12_0, hfz12_1, hfz12_2, hfz12_3⟩ := qk4 BK237.out) | ((with_reducible refine gate_callee (f := 61) rfl ?_); refine qG (some 10) Try.func61 #[.agg #[.int .i64 a0_0, .int .i64 a0_1, .int .i64 a0_2, .slice A0_3 l0_3.length c0_3]] ?_; (with_reducible refine (impl_MetaOk.calls k a0_0 a0_1 a0_2 _ _ l0_3 true _ ?side1 ?side2 A2.out).mono ?_); (case side1 => exact zbe); (case side2 => exact HC0_3.out); rintro e w13 ⟨rfl, hb⟩; refine ⟨_, rfl, ?_⟩; replace BK237 := Aside0.mk (bB BK237.out hb); replace HB := Aside0.mk (below_step z9 hb); try clear hb))
  replace BK237 := Aside0.mk (blk_drew BK237.out)
  replace HB := Aside0.mk (below_drew1 HB.out)
  refine start_ (n := 17) (S := fun w' => w'.cell? ⟨gb237, 0, none⟩ = some (.int .i64 a0_0) ∧ w'.cell? ⟨gb237, 1, none⟩ = some (.int .i64 a0_1) ∧ w'.cell? ⟨gb237, 2, none⟩ = some (.int .i64 a0_2) ∧ w'.cell? ⟨gb237, 3, none⟩ = some (.slice A0_3 l0_3.length c0_3)) (ds := []) (bz 17 0) za5 rfl rfl ⟨qx BK237 0, qx BK237 1, qx BK237 2, qx BK237 3⟩ (fun hHeld => ?_); refine with_tabW impl_MetaText.tab3 impl_MetaText.bits3 (fun HT_ HW_ => ?_)
  generalize w13.drew = w14 at BK237 HB hHeld ⊢
  refine ql 0 (some 12) (bz 17 1) HT_ ?_
  refine ql 3 (some 15) (bz 17 9) HT_ ?_
  refine ql 7 (some 19) (bz 17 137) HT_ ?_
  refine ql 11 (some 23) (bz 17 2185) HT_ ?_
  refine qt 1 (some 13) (bz 17 2187) HT_ HW_ hHeld ?_
  refine qt 4 (some 16) (bz 17 2203) HT_ HW_ hHeld ?_
  refine qt 8 (some 20) (bz 17 2459) HT_ HW_ hHeld ?_
  refine qt 12 (some 24) (bz 17 6555) HT_ HW_ hHeld ?_
  refine ql 13 (some 25) (bz 17 14747) HT_ ?_
  refine qs 2 (some 14) (bz 17 14751) HT_ rfl rfl (fun K hK => ?_)
  refine goes_ Try.func62 za5 rfl #[.int .i64 a0_0] zdy rfl rfl zv ?_
  with_reducible refine (impl_varText.calls k a0_0 t239 _ A4.out).mono ?_
  rintro e w15 ⟨rfl, hb⟩
  refine ⟨_, rfl, ?_⟩
  replace BK237 := Aside0.mk (bB BK237.out hb)
  replace HB := Aside0.mk (below_step z9 hb)
  try clear hb
  refine hK.out _ _ ⟨qx BK237 0, qx BK237 1, qx BK237 2, qx BK237 3⟩ (fun hHeld => ?_)
  clear hK K
  refine qr (some 14) ?_
  refine qs 5 (some 17) (bz 17 14783) HT_ rfl rfl (fun K hK => ?_)
  refine goes_ Try.func62 za5 rfl #[.int .i64 a0_1] zdy rfl rfl zv ?_
  with_reducible refine (impl_varText.calls k a0_1 t240 _ A5.out).mono ?_
  rintro e w16 ⟨rfl, hb⟩
  refine ⟨_, rfl, ?_⟩
  replace BK237 := Aside0.mk (bB BK237.out hb)
  replace HB := Aside0.mk (below_step z9 hb)
  try clear hb
  refine hK.out _ _ ⟨qx BK237 0, qx BK237 1, qx BK237 2, qx BK237 3⟩ (fun hHeld => ?_)
  clear hK K
  refine qr (some 17) ?_
  refine ql 6 (some 18) (bz 17 14847) HT_ ?_
  refine qs 9 (some 21) (bz 17 15359) HT_ rfl rfl (fun K hK => ?_)
  refine goes_ Try.func62 za5 rfl #[.int .i64 a0_2] zdy rfl rfl zv ?_
  with_reducible refine (impl_varText.calls k a0_2 t241 _ A7.out).mono ?_
  rintro e w17 ⟨rfl, hb⟩
  refine ⟨_, rfl, ?_⟩
  replace BK237 := Aside0.mk (bB BK237.out hb)
  replace HB := Aside0.mk (below_step z9 hb)
  try clear hb
  refine hK.out _ _ ⟨qx BK237 0, qx BK237 1, qx BK237 2, qx BK237 3⟩ (fun hHeld => ?_)
  clear hK K
  refine qr (some 21) ?_
  refine ql 10 (some 22) (bz 17 16383) HT_ ?_
  refine qs 14 (some 26) (bz 17 32767) HT_ rfl rfl (fun K hK => ?_)
  refine goes_ Try.func62 za5 rfl #[.int .i64 (l0_3.length : Int)] zdy rfl rfl zv ?_
  with_reducible refine (impl_varText.calls k (l0_3.length : Int) t242 _ A9.out).mono ?_
  rintro e w18 ⟨rfl, hb⟩
  refine ⟨_, rfl, ?_⟩
  replace BK237 := Aside0.mk (bB BK237.out hb)
  replace HB := Aside0.mk (below_step z9 hb)
  try clear hb
  refine hK.out _ _ ⟨qx BK237 0, qx BK237 1, qx BK237 2, qx BK237 3⟩ (fun hHeld => ?_)
  clear hK K
  refine qr (some 26) ?_
  refine ql 15 (some 27) (bz 17 65535) HT_ ?_
  refine ql 16 (some 4) (bz 17 131071) HT_ ?_
  refine qu HT_ ?_
  obtain ⟨hcz19_0, hcz19_1, hcz19_2, hcz19_3, hfz19_0, hfz19_1, hfz19_2, hfz19_3⟩ := qk4 BK237.out
  try go_wp2
  go_loopg [4, 31] k (fun kq v4 v31 w' => ∃ (x4_1 : ByteArray) (x31_1 : Int), v4 = .string x4_1 ∧ v31 = .int .i64 x31_1 ∧ Aside0 (impl_MetaText.l0 kq x4_1 l0_3 (l0_3.length : Int) x31_1 = some (r1, r2)) ∧ Aside0 (kq ≤ k) ∧ Aside0 (w'.heap[gb237]? = some (.cells #[.int .i64 a0_0, .int .i64 a0_1, .int .i64 a0_2, (.slice A0_3 l0_3.length c0_3)] 24 (0, 0))) ∧ Aside0 (Below w.heap.size w w'))
  case atStart => exact ⟨(((t239 ++ t240) ++ t241) ++ t242), (0), zd, zd, H', ⟨Nat.le_refl _⟩, ⟨zdd⟩, ⟨z9⟩⟩
  case round =>
    clear H'
    (try clear c3); (try clear c6); (try clear c6b0); (try clear c6b1); (try clear c6b2); (try clear c8); (try clear c8b0); (try clear c8b1); (try clear c8b2); (try clear c10); (try clear c10b0); (try clear c10b1); (try clear c10b2); (try clear hcz12_0 hcz12_1 hcz12_2 hcz12_3 hfz12_0 hfz12_1 hfz12_2 hfz12_3); (try clear hcz19_0 hcz19_1 hcz19_2 hcz19_3 hfz19_0 hfz19_1 hfz19_2 hfz19_3)
    try clear BK237 HB
    obtain ⟨x4_1, x31_1, rfl, rfl, HA, HK1, BK237, HB⟩ := hrel
    cases gk with
    | zero => exact absurd HA.out (by simp [impl_MetaText.l0])
    | succ k1 =>
      have H := HA.out
      clear HA
      simp only [impl_MetaText.l0] at H
      by_cases c20 : x31_1 < (l0_3.length : Int)
      case neg =>
        rw [if_neg c20] at H
        have c20b0 := decide_eq_false c20
        clear c20
        replace H := qi H
        obtain ⟨t249, A41, H⟩ := H
        by_cases c42 : x4_1.size + t249.size ≤ 9223372036854775807
        case neg => exact qn c42 H
        rw [if_pos c42] at H
        have c42b0 := eq_true c42
        have c42b1 := decide_eq_true c42
        try have c42b2 := eq_false (Nat.not_lt.2 c42)
        by_cases c43 : ((x4_1 ++ t249).size : Int) > 240
        case pos =>
          rw [if_pos c43] at H
          have c43b0 : decide (240 < ((x4_1 ++ t249).size : Int)) = true := decide_eq_true c43
          have c43b1 : decide (240 < (x4_1 ++ t249).size) = true := decide_eq_true zd4
          have c43b4 : decide (240 < x4_1.size + t249.size) = true := by rw [ByteArray.size_append] at c43b1; exact c43b1
          have c43b5 : decide (240 < (x4_1.size : Int) + (t249.size : Int)) = true := decide_eq_true (by have h_ := of_decide_eq_true c43b4; omega)
          clear c43
          simp only [Option.some.injEq, Prod.mk.injEq] at H
          obtain ⟨rfl, rfl⟩ := H
          go_wp2_with (first | ((with_reducible refine gate_callee (f := 59) rfl ?_); refine qG (some 60) Try.func59 #[.string x4_1] ?_; (with_reducible refine (impl_seal.calls k1 x4_1 t249 _ A41.out).mono ?_); rintro e w44 ⟨rfl, hb⟩; refine ⟨_, rfl, ?_⟩; replace BK237 := Aside0.mk (bB BK237.out hb); replace HB := Aside0.mk (below_step z9 hb); try clear hb))
          go_ret2
          exact ⟨zc, z9⟩
        rw [if_neg c43] at H
        have c43b0 : decide (240 < ((x4_1 ++ t249).size : Int)) = false := decide_eq_false c43
        have c43b1 : decide (240 < (x4_1 ++ t249).size) = false := decide_eq_false zd4
        have c43b4 : decide (240 < x4_1.size + t249.size) = false := by rw [ByteArray.size_append] at c43b1; exact c43b1
        have c43b5 : decide (240 < (x4_1.size : Int) + (t249.size : Int)) = false := decide_eq_false (by have h_ := of_decide_eq_false c43b4; omega)
        clear c43
        simp only [Option.some.injEq, Prod.mk.injEq] at H
        obtain ⟨rfl, rfl⟩ := H
        go_wp2_with (first | ((with_reducible refine gate_callee (f := 59) rfl ?_); refine qG (some 60) Try.func59 #[.string x4_1] ?_; (with_reducible refine (impl_seal.calls k1 x4_1 t249 _ A41.out).mono ?_); rintro e w45 ⟨rfl, hb⟩; refine ⟨_, rfl, ?_⟩; replace BK237 := Aside0.mk (bB BK237.out hb); replace HB := Aside0.mk (below_step z9 hb); try clear hb))
        go_ret2
        exact ⟨zc, z9⟩
      rw [if_pos c20] at H
      have c20b0 := decide_eq_true c20
      clear c20
      by_cases c21 : 0 ≤ x31_1
      case neg => exact qn c21 H
      rw [if_pos c21] at H
      have c21b0 := decide_eq_true c21
      clear c21
      by_cases c22 : x31_1 < (l0_3.length : Int)
      case neg => exact qn c22 H
      rw [if_pos c22] at H
      have c22b0 := decide_eq_true c22
      clear c22
      replace H := qi H
      obtain ⟨t245, A23, H⟩ := H
      replace H := qi H
      obtain ⟨t246, A24, H⟩ := H
      by_cases c25 : t245.size + t246.size ≤ 9223372036854775807
      case neg => exact qn c25 H
      rw [if_pos c25] at H
      have c25b0 := eq_true c25
      have c25b1 := decide_eq_true c25
      try have c25b2 := eq_false (Nat.not_lt.2 c25)
      by_cases c26 : x4_1.size + (t245 ++ t246).size ≤ 9223372036854775807
      case neg => exact qn c26 H
      rw [if_pos c26] at H
      have c26b0 := eq_true c26
      have c26b1 := decide_eq_true c26
      try have c26b2 := eq_false (Nat.not_lt.2 c26)
      try have c26b3 := c26b2
      try simp only [ByteArray.size_append] at c26b3
      have H' := Aside0.mk H
      clear H
      have p243 : 0 ≤ (x31_1 : Int) := of_decide_eq_true zb
      have q243 : x31_1 < (l0_3.length : Int) := of_decide_eq_true zb
      obtain ⟨ad243, A243_1, c243_1, e243, hx243_0, hx243_1, hl243_1, hi243_1⟩ := at_T60 HR0_3.out x31_1 p243 q243
      cases e243
      replace hx243_0 := qw HB hx243_0
      replace hx243_1 := qw HB hx243_1
      have HR243_1 := Aside0.mk hi243_1
      clear hi243_1 hl243_1
      replace p243 := eq_true p243
      replace q243 := eq_true q243
      try go_wp2_with (first | ((with_reducible refine gate_dst (N := 6) rfl ?_); refine qB 6 #[.int .i64 0, .slice none 0 0] 60 ?_; intro gb244 hg w27 hbox hb; have BK244 := Aside0.mk (hbox); have GW244 := Aside0.mk ((by rw [hg]; exact (below_size z9) : w.heap.size ≤ gb244)); have GE244 := GW244; replace HB := Aside0.mk (below_step z9 hb); have NB237_244 := Aside0.mk ((by rw [hg]; exact Nat.ne_of_lt (bL BK237.out) : gb237 ≠ gb244)); have NB244_237 := Aside0.mk NB237_244.out.symm; replace BK237 := Aside0.mk (bB BK237.out hb); clear hb hbox hg; have hnb28 := NB244_237.out; have hnc28 := NB237_244.out; obtain ⟨hcz29_0, hcz29_1, hfz29_0, hfz29_1⟩ := qk2 BK244.out))
      have n0_ : Aside0 (((w27.setCell ⟨gb244, 0, none⟩ (.int .i64 ((rd_T60 l0_3 x31_1).f0))).setCell ⟨gb244, 1, none⟩ (.slice A243_1 ((rd_T60 l0_3 x31_1).f1).length c243_1)).heap[gb237]? = some (.cells #[.int .i64 a0_0, .int .i64 a0_1, .int .i64 a0_2, .slice (some ad243) l0_3.length c0_3] 24 (0, 0))) := ⟨by (with_reducible repeat (first | refine blk_drewN ?_ _ | refine blk_drew ?_ | refine blk_alloc ?_ _)); refine blk_far ?_ NB237_244.out _; (with_reducible repeat (first | refine blk_drewN ?_ _ | refine blk_drew ?_ | refine blk_alloc ?_ _)); refine blk_far ?_ NB237_244.out _; (with_reducible repeat (first | refine blk_drewN ?_ _ | refine blk_drew ?_ | refine blk_alloc ?_ _)); exact BK237.out⟩
      have n1_ : Aside0 (((w27.setCell ⟨gb244, 0, none⟩ (.int .i64 ((rd_T60 l0_3 x31_1).f0))).setCell ⟨gb244, 1, none⟩ (.slice A243_1 ((rd_T60 l0_3 x31_1).f1).length c243_1)).heap[gb244]? = some (.cells #[.int .i64 ((rd_T60 l0_3 x31_1).f0), .slice A243_1 ((rd_T60 l0_3 x31_1).f1).length c243_1] 60 (0, 0))) := ⟨by (with_reducible repeat (first | refine blk_drewN ?_ _ | refine blk_drew ?_ | refine blk_alloc ?_ _)); refine blk_put (cs := #[.int .i64 ((rd_T60 l0_3 x31_1).f0), .slice none 0 0]) ?_ 1 _ rfl; (with_reducible repeat (first | refine blk_drewN ?_ _ | refine blk_drew ?_ | refine blk_alloc ?_ _)); refine blk_put (cs := #[.int .i64 0, .slice none 0 0]) ?_ 0 _ rfl; (with_reducible repeat (first | refine blk_drewN ?_ _ | refine blk_drew ?_ | refine blk_alloc ?_ _)); exact BK244.out⟩
      have n2_ : Aside0 (Below w.heap.size w ((w27.setCell ⟨gb244, 0, none⟩ (.int .i64 ((rd_T60 l0_3 x31_1).f0))).setCell ⟨gb244, 1, none⟩ (.slice A243_1 ((rd_T60 l0_3 x31_1).f1).length c243_1))) := ⟨zbb⟩
      (try clear BK237)
      (try clear BK244)
      (try clear HB)
      generalize ((w27.setCell ⟨gb244, 0, none⟩ (.int .i64 ((rd_T60 l0_3 x31_1).f0))).setCell ⟨gb244, 1, none⟩ (.slice A243_1 ((rd_T60 l0_3 x31_1).f1).length c243_1)) = w30 at n0_ n1_ n2_ ⊢
      have BK237 := n0_
      have BK244 := n1_
      have HB := n2_
      clear n0_ n1_ n2_
      replace BK237 := Aside0.mk (blk_drew BK237.out)
      replace BK244 := Aside0.mk (blk_drew BK244.out)
      replace HB := Aside0.mk (below_drew1 HB.out)
      refine start_ (n := 11) (S := fun w' => w'.cell? ⟨gb244, 0, none⟩ = some (.int .i64 ((rd_T60 l0_3 x31_1).f0)) ∧ w'.cell? ⟨gb244, 1, none⟩ = some (.slice A243_1 ((rd_T60 l0_3 x31_1).f1).length c243_1)) (ds := []) (bz 11 0) za5 rfl rfl ⟨qx BK244 0, qx BK244 1⟩ (fun hHeld => ?_); refine with_tabW impl_MetaText.tab7 impl_MetaText.bits7 (fun HT_ HW_ => ?_)
      generalize w30.drew = w31 at BK237 BK244 HB hHeld ⊢
      refine ql 0 (some 35) (bz 11 1) HT_ ?_
      refine ql 1 (some 36) (bz 11 3) HT_ ?_
      refine ql 4 (some 39) (bz 11 19) HT_ ?_
      refine qt 2 (some 37) (bz 11 23) HT_ HW_ hHeld ?_
      refine qt 5 (some 40) (bz 11 55) HT_ HW_ hHeld ?_
      refine ql 6 (some 41) (bz 11 119) HT_ ?_
      refine qs 3 (some 38) (bz 11 127) HT_ rfl rfl (fun K hK => ?_)
      refine goes_ Try.func62 za5 rfl #[.int .i64 ((rd_T60 l0_3 x31_1).f0)] zdy rfl rfl zv ?_
      with_reducible refine (impl_varText.calls k1 ((rd_T60 l0_3 x31_1).f0) t245 _ A23.out).mono ?_
      rintro e w32 ⟨rfl, hb⟩
      refine ⟨_, rfl, ?_⟩
      replace BK237 := Aside0.mk (bB BK237.out hb)
      replace BK244 := Aside0.mk (bB BK244.out hb)
      replace HB := Aside0.mk (below_step zbb hb)
      try clear hb
      refine hK.out _ _ ⟨qx BK244 0, qx BK244 1⟩ (fun hHeld => ?_)
      clear hK K
      refine qr (some 38) ?_
      refine qs 7 (some 42) (bz 11 255) HT_ rfl rfl (fun K hK => ?_)
      refine goes_ Try.func62 za5 rfl #[.int .i64 (((rd_T60 l0_3 x31_1).f1).length : Int)] zdy rfl rfl zv ?_
      with_reducible refine (impl_varText.calls k1 (((rd_T60 l0_3 x31_1).f1).length : Int) t246 _ A24.out).mono ?_
      rintro e w33 ⟨rfl, hb⟩
      refine ⟨_, rfl, ?_⟩
      replace BK237 := Aside0.mk (bB BK237.out hb)
      replace BK244 := Aside0.mk (bB BK244.out hb)
      replace HB := Aside0.mk (below_step zbb hb)
      try clear hb
      refine hK.out _ _ ⟨qx BK244 0, qx BK244 1⟩ (fun hHeld => ?_)
      clear hK K
      refine qr (some 42) ?_
      refine ql 8 (some 43) (bz 11 511) HT_ ?_
      refine ql 9 (some 44) (bz 11 1023) HT_ ?_
      refine ql 10 (some 4) (bz 11 2047) HT_ ?_
      refine qu HT_ ?_
      obtain ⟨hcz34_0, hcz34_1, hfz34_0, hfz34_1⟩ := qk2 BK244.out
      try go_wp2
      go_loopg [4, 48] k1 (fun kq v4 v48 w' => ∃ (x4_2 : ByteArray) (x48_2 : Int), v4 = .string x4_2 ∧ v48 = .int .i64 x48_2 ∧ Aside0 (impl_MetaText.l1 kq x4_2 l0_3 (l0_3.length : Int) x31_1 ((rd_T60 l0_3 x31_1).f1) (((rd_T60 l0_3 x31_1).f1).length : Int) x48_2 = some (r1, r2)) ∧ Aside0 (kq ≤ k1) ∧ Aside0 (w'.heap[gb237]? = some (.cells #[.int .i64 a0_0, .int .i64 a0_1, .int .i64 a0_2, (.slice (some ad243) l0_3.length c0_3)] 24 (0, 0))) ∧ Aside0 (w'.heap[gb244]? = some (.cells #[.int .i64 ((rd_T60 l0_3 x31_1).f0), (.slice A243_1 ((rd_T60 l0_3 x31_1).f1).length c243_1)] 60 (0, 0))) ∧ Aside0 (Below w.heap.size w w'))
      case atStart => exact ⟨(x4_1 ++ (t245 ++ t246)), (0), zd, zd, H', ⟨Nat.le_refl _⟩, ⟨zdd⟩, ⟨by (with_reducible repeat (first | refine blk_drewN ?_ _ | refine blk_drew ?_ | refine blk_alloc ?_ _)); exact BK244.out⟩, ⟨zbb⟩⟩
      case round =>
        clear H'
        (try clear c3); (try clear c6); (try clear c6b0); (try clear c6b1); (try clear c6b2); (try clear c8); (try clear c8b0); (try clear c8b1); (try clear c8b2); (try clear c10); (try clear c10b0); (try clear c10b1); (try clear c10b2); (try clear c20); (try clear c20b0); (try clear c21); (try clear c21b0); (try clear c22); (try clear c22b0); (try clear c25); (try clear c25b0); (try clear c25b1); (try clear c25b2); (try clear c26); (try clear c26b0); (try clear c26b1); (try clear c26b2); (try clear hcz12_0 hcz12_1 hcz12_2 hcz12_3 hfz12_0 hfz12_1 hfz12_2 hfz12_3); (try clear hcz19_0 hcz19_1 hcz19_2 hcz19_3 hfz19_0 hfz19_1 hfz19_2 hfz19_3); (try clear hcz29_0 hcz29_1 hfz29_0 hfz29_1); (try clear hcz34_0 hcz34_1 hfz34_0 hfz34_1); (try clear hx243_0); (try clear hx243_1); (try clear p243); (try clear q243)
        try clear BK237 BK244 HB
        obtain ⟨x4_2, x48_2, rfl, rfl, HA, HK2, BK237, BK244, HB⟩ := hrel
        cases gk with
        | zero => exact absurd HA.out (by simp [impl_MetaText.l1])
        | succ k2 =>
          have H := HA.out
          clear HA
          simp only [impl_MetaText.l1] at H
          by_cases c35 : x48_2 < (((rd_T60 l0_3 x31_1).f1).length : Int)
          case neg =>
            rw [if_neg c35] at H
            have c35b0 := decide_eq_false c35
            clear c35
            have H' := Aside0.mk H
            clear H
            go_wp2
            go_roundg k2
            case measure => have := HK1.out; have := HK2.out; omega
            case rel => exact ⟨(x4_2), (wrap64 (x31_1 + 1)), zd, zd, H', ⟨zcm⟩, ⟨zdd⟩, ⟨zbb⟩⟩
          rw [if_pos c35] at H
          have c35b0 := decide_eq_true c35
          clear c35
          by_cases c36 : 0 ≤ x48_2
          case neg => exact qn c36 H
          rw [if_pos c36] at H
          have c36b0 := decide_eq_true c36
          clear c36
          by_cases c37 : x48_2 < (((rd_T60 l0_3 x31_1).f1).length : Int)
          case neg => exact qn c37 H
          rw [if_pos c37] at H
          have c37b0 := decide_eq_true c37
          clear c37
          replace H := qi H
          obtain ⟨t248, A38, H⟩ := H
          by_cases c39 : x4_2.size + t248.size ≤ 9223372036854775807
          case neg => exact qn c39 H
          rw [if_pos c39] at H
          have c39b0 := eq_true c39
          have c39b1 := decide_eq_true c39
          try have c39b2 := eq_false (Nat.not_lt.2 c39)
          have H' := Aside0.mk H
          clear H
          have p247 : 0 ≤ (x48_2 : Int) := of_decide_eq_true zb
          have q247 : x48_2 < (((rd_T60 l0_3 x31_1).f1).length : Int) := of_decide_eq_true zb
          obtain ⟨ad247, e247, hx247_0⟩ := Kd.at_int HR243_1.out x48_2 p247 q247
          cases e247
          replace hx247_0 := qw HB hx247_0
          replace p247 := eq_true p247
          replace q247 := eq_true q247
          go_wp2_with (first | ((with_reducible refine gate_callee (f := 62) rfl ?_); refine qG (some 54) Try.func62 #[.int .i64 (rd ((rd_T60 l0_3 x31_1).f1) x48_2)] ?_; (with_reducible refine (impl_varText.calls k2 (rd ((rd_T60 l0_3 x31_1).f1) x48_2) t248 _ A38.out).mono ?_); rintro e w40 ⟨rfl, hb⟩; refine ⟨_, rfl, ?_⟩; replace BK237 := Aside0.mk (bB BK237.out hb); replace BK244 := Aside0.mk (bB BK244.out hb); replace HB := Aside0.mk (below_step zbb hb); try clear hb))
          go_roundg k2
          case measure => have := HK1.out; have := HK2.out; omega
          case rel => exact ⟨(x4_2 ++ t248), (wrap64 (x48_2 + 1)), zd, zd, H', ⟨zcm⟩, ⟨zdd⟩, ⟨by (with_reducible repeat (first | refine blk_drewN ?_ _ | refine blk_drew ?_ | refine blk_alloc ?_ _)); exact BK244.out⟩, ⟨zbb⟩⟩
end Go.Proofs.Yteokilffbcbllaa.VFnBest
