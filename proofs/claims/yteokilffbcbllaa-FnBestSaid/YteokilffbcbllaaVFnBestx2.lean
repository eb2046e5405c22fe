-- Written by a program of this repo (wip/myprint.py), over the kit's print; functions that the print does not take stand in it by hand-proved contracts.
import Derived.Test.YteokilffbcbllaaVFnBestx0
import Derived.Test.YteokilffbcbllaaVFnBestx1
namespace Go.Proofs.Yteokilffbcbllaa.VFnBest
open Go.RowKit Go.Proofs.YteokilffbcbllaaW.PrintWords Go.Proofs.YteokilffbcbllaaW.PrintLast Go.Proofs.YteokilffbcbllaaW.PrintMore
attribute [local go_sem] max2_int min2_int max_two min_two max_three min_three max_four min_four   -- for this text's walks alone
attribute [local go_sem high] str_leq str_gtr str_geq str_lss
set_option linter.unusedVariables false
set_option linter.unusedSimpArgs false

/-! ### spec_MetaOk: function 46 -/
mutual
def spec_MetaOk.j0 : Nat → Bool → Int → Int → Int → List (S60) → Option (Bool)
 | 0, _, _, _, _, _ => none
 | k + 1, x36, x128000, x128001, x128002, x128003 => if x36 = true then (some false) else (spec_MetaOk.l0 k (([x128001] : List Int)) 0 x128000 x128001 x128002 x128003)
def spec_MetaOk.l0 : Nat → List Int → Int → Int → Int → Int → List (S60) → Option (Bool)
 | 0, _, _, _, _, _, _ => none
 | k + 1, x3, x4, x128000, x128001, x128002, x128003 => if x4 < (x128003.length : Int) then (if 0 ≤ x4 then ((spec_l01In.f ((rd_T60 x128003 x4).f0) 1 x128000).bind fun t136 => (if t136 = true then (if x4 > 0 then (if 0 ≤ (wrap64 (x4 - 1)) then (if (wrap64 (x4 - 1)) < (x128003.length : Int) then (if ((rd_T60 x128003 (wrap64 (x4 - 1))).f0) ≥ ((rd_T60 x128003 x4).f0) then (spec_MetaOk.j2 k x3 x4 true x128000 x128001 x128002 x128003 ((rd_T60 x128003 x4).f0) ((rd_T60 x128003 x4).f1)) else ((spec_l01In.f (((rd_T60 x128003 x4).f1).length : Int) 1 40).bind fun t138 => (spec_MetaOk.j2 k x3 x4 (!t138) x128000 x128001 x128002 x128003 ((rd_T60 x128003 x4).f0) ((rd_T60 x128003 x4).f1)))) else (none)) else (none)) else ((spec_l01In.f (((rd_T60 x128003 x4).f1).length : Int) 1 40).bind fun t139 => (spec_MetaOk.j2 k x3 x4 (!t139) x128000 x128001 x128002 x128003 ((rd_T60 x128003 x4).f0) ((rd_T60 x128003 x4).f1)))) else (spec_MetaOk.j2 k x3 x4 true x128000 x128001 x128002 x128003 ((rd_T60 x128003 x4).f0) ((rd_T60 x128003 x4).f1)))) else (none)) else (some true)
def spec_MetaOk.j2 : Nat → List Int → Int → Bool → Int → Int → Int → List (S60) → Int → List Int → Option (Bool)
 | 0, _, _, _, _, _, _, _, _, _ => none
 | k + 1, x3, x4, x80, x128000, x128001, x128002, x128003, x136000, x136001 => if x80 = true then (some false) else (spec_MetaOk.l1 k x3 x4 0 x128000 x128001 x128002 x128003 x136000 x136001)
def spec_MetaOk.l1 : Nat → List Int → Int → Int → Int → Int → Int → List (S60) → Int → List Int → Option (Bool)
 | 0, _, _, _, _, _, _, _, _, _ => none
 | k + 1, x3, x4, x6, x128000, x128001, x128002, x128003, x136000, x136001 => if x6 < (x136001.length : Int) then (if 0 ≤ x6 then ((spec_l01In.f (rd x136001 x6) 2 (wrap64 (x128002 - 1))).bind fun t141 => (if t141 = true then (if x6 > 0 then (if 0 ≤ (wrap64 (x6 - 1)) then (if (wrap64 (x6 - 1)) < (x136001.length : Int) then (if (rd x136001 (wrap64 (x6 - 1))) ≥ (rd x136001 x6) then (spec_MetaOk.j4 k x3 x4 x6 true x128000 x128001 x128002 x128003 x136000 x136001) else ((spec_l06In.f k x3 (rd x136001 x6)).bind fun t145 => (spec_MetaOk.j4 k x3 x4 x6 t145 x128000 x128001 x128002 x128003 x136000 x136001))) else (none)) else (none)) else ((spec_l06In.f k x3 (rd x136001 x6)).bind fun t147 => (spec_MetaOk.j4 k x3 x4 x6 t147 x128000 x128001 x128002 x128003 x136000 x136001))) else (spec_MetaOk.j4 k x3 x4 x6 true x128000 x128001 x128002 x128003 x136000 x136001))) else (none)) else (spec_MetaOk.l0 k x3 (wrap64 (x4 + 1)) x128000 x128001 x128002 x128003)
def spec_MetaOk.j4 : Nat → List Int → Int → Int → Bool → Int → Int → Int → List (S60) → Int → List Int → Option (Bool)
 | 0, _, _, _, _, _, _, _, _, _, _ => none
 | k + 1, x3, x4, x6, x124, x128000, x128001, x128002, x128003, x136000, x136001 => if x124 = true then (some false) else (if 0 ≤ x6 then (if x6 < (x136001.length : Int) then (if x3.length < 17592186044416 then (spec_MetaOk.l1 k (x3 ++ [rd x136001 x6]) x4 (wrap64 (x6 + 1)) x128000 x128001 x128002 x128003 x136000 x136001) else (none)) else (none)) else (none))
end
def spec_MetaOk.f (k : Nat) (a0_0 : Int) (a0_1 : Int) (a0_2 : Int) (l0_3 : List (S60)) : Option (Bool) := (spec_l01In.f a0_0 0 100000).bind fun t128 => (if t128 = true then ((spec_l01In.f a0_2 2 40).bind fun t129 => (if t129 = true then (if a0_1 = 0 then (spec_MetaOk.j0 k (decide ((l0_3.length : Int) > 20)) a0_0 a0_1 a0_2 l0_3) else ((spec_l01In.f a0_1 2 (wrap64 (a0_2 - 1))).bind fun t130 => (if t130 = true then (spec_MetaOk.j0 k (decide ((l0_3.length : Int) > 20)) a0_0 a0_1 a0_2 l0_3) else (spec_MetaOk.j0 k true a0_0 a0_1 a0_2 l0_3)))) else (spec_MetaOk.j0 k true a0_0 a0_1 a0_2 l0_3))) else (spec_MetaOk.j0 k true a0_0 a0_1 a0_2 l0_3))
theorem spec_MetaOk.mono_l : ∀ k, (∀ y0 y1 y2 y3 y4, LeO (spec_MetaOk.j0 k y0 y1 y2 y3 y4) (spec_MetaOk.j0 (k + 1) y0 y1 y2 y3 y4)) ∧ (∀ y0 y1 y2 y3 y4 y5, LeO (spec_MetaOk.l0 k y0 y1 y2 y3 y4 y5) (spec_MetaOk.l0 (k + 1) y0 y1 y2 y3 y4 y5)) ∧ (∀ y0 y1 y2 y3 y4 y5 y6 y7 y8, LeO (spec_MetaOk.j2 k y0 y1 y2 y3 y4 y5 y6 y7 y8) (spec_MetaOk.j2 (k + 1) y0 y1 y2 y3 y4 y5 y6 y7 y8)) ∧ (∀ y0 y1 y2 y3 y4 y5 y6 y7 y8, LeO (spec_MetaOk.l1 k y0 y1 y2 y3 y4 y5 y6 y7 y8) (spec_MetaOk.l1 (k + 1) y0 y1 y2 y3 y4 y5 y6 y7 y8)) ∧ (∀ y0 y1 y2 y3 y4 y5 y6 y7 y8 y9, LeO (spec_MetaOk.j4 k y0 y1 y2 y3 y4 y5 y6 y7 y8 y9) (spec_MetaOk.j4 (k + 1) y0 y1 y2 y3 y4 y5 y6 y7 y8 y9))
 | 0 => ⟨fun _ _ _ _ _ r h => by simp [spec_MetaOk.j0] at h, fun _ _ _ _ _ _ r h => by simp [spec_MetaOk.l0] at h, fun _ _ _ _ _ _ _ _ _ r h => by simp [spec_MetaOk.j2] at h, fun _ _ _ _ _ _ _ _ _ r h => by simp [spec_MetaOk.l1] at h, fun _ _ _ _ _ _ _ _ _ _ r h => by simp [spec_MetaOk.j4] at h⟩
 | k + 1 => by
  obtain ⟨ih0, ih1, ih2, ih3, ih4⟩ := spec_MetaOk.mono_l k
  refine ⟨?_, ?_, ?_, ?_, ?_⟩
  ·intro y0 y1 y2 y3 y4
   unfold spec_MetaOk.j0
   exact qv
  ·intro y0 y1 y2 y3 y4 y5
   unfold spec_MetaOk.l0
   exact qv
  ·intro y0 y1 y2 y3 y4 y5 y6 y7 y8
   unfold spec_MetaOk.j2
   exact qv
  ·intro y0 y1 y2 y3 y4 y5 y6 y7 y8
   unfold spec_MetaOk.l1
   exact qv
  ·intro y0 y1 y2 y3 y4 y5 y6 y7 y8 y9
   unfold spec_MetaOk.j4
   exact qv
theorem spec_MetaOk.mono : ∀ a0 a1 a2 a3 k, LeO (spec_MetaOk.f k a0 a1 a2 a3) (spec_MetaOk.f (k + 1) a0 a1 a2 a3) := by
 intro a0 a1 a2 a3 k
 obtain ⟨ih0, ih1, ih2, ih3, ih4⟩ := spec_MetaOk.mono_l k
 unfold spec_MetaOk.f
 exact qv
def spec_MetaOk.T8 : Bool × List (List Nat × List Nat) := (true, [([], []), ([0], [0]), ([], []), ([2], [2]), ([1, 3], [1, 3]), ([4], [4]), ([5, 4], [5]), ([6], [6]), ([7, 6], [6, 7]), ([8, 6, 6], [6, 8]), ([9], [9]), ([10, 9], [9, 10]), ([9], [9]), ([12, 9], [9, 12]), ([11, 13, 9], [9, 11, 13]), ([14, 9], [9, 14]), ([15, 9], [9, 15]), ([9], [9]), ([17, 9], [9, 17]), ([16, 18, 9], [9, 16, 18]), ([9, 19, 6], [6, 9, 19]), ([6, 20], [6, 20]), ([21, 9], [21]), ([22], [22]), ([23, 22], [22, 23]), ([24, 22], [22, 24]), ([25, 22, 22], [22, 25]), ([26, 22], [22, 26]), ([22, 27], [22, 27])])
def spec_MetaOk.B8 : List Nat := [0, 1, 0, 4, 15, 31, 63, 127, 255, 511, 1023, 2047, 1023, 5119, 16383, 32767, 65535, 1023, 132095, 524287, 1048575, 2097151, 4194303, 8388607, 16777215, 33554431, 67108863, 134217727, 268435455]
theorem spec_MetaOk.tab8 : rtab .any (opsOf Try.f46 8) = spec_MetaOk.T8 := by kernel_rfl
theorem spec_MetaOk.bits8 : waitsOk spec_MetaOk.T8.2 spec_MetaOk.B8 = true := by kernel_rfl
def spec_MetaOk.T13 : Bool × List (List Nat × List Nat) := (true, [([], []), ([0], [0]), ([], []), ([1, 2], [1, 2]), ([3], [3]), ([], []), ([5], [5]), ([6], [6]), ([4, 7], [4, 7]), ([8], [8]), ([9, 8], [9]), ([10], [10]), ([11, 10], [10, 11]), ([12, 10, 10], [10, 12]), ([13], [13]), ([14, 13], [13, 14]), ([13], [13]), ([16, 13], [13, 16]), ([15, 17, 13], [13, 15, 17]), ([18, 13], [13, 18]), ([13], [13]), ([20, 13], [13, 20]), ([13], [13]), ([21, 22, 13], [13, 21, 22]), ([23, 13], [13, 23]), ([19, 24, 13], [13, 19, 24]), ([13, 25, 10], [10, 13, 25]), ([10, 26], [10, 26]), ([27, 13], [27]), ([28], [28]), ([28], [28]), ([30, 28], [28, 30]), ([28], [28]), ([31, 32, 28], [28, 31, 32]), ([33, 28], [28, 33]), ([29, 34, 28, 28], [28, 29, 34]), ([28, 35], [28, 35])])
def spec_MetaOk.B13 : List Nat := [0, 1, 0, 7, 15, 0, 32, 96, 255, 511, 1023, 2047, 4095, 8191, 16383, 32767, 16383, 81919, 262143, 524287, 16383, 1064959, 16383, 7356415, 15745023, 33554431, 67108863, 134217727, 268435455, 536870911, 536870911, 1610612735, 536870911, 8053063679, 16642998271, 34359738367, 68719476735]
theorem spec_MetaOk.tab13 : rtab .any (opsOf Try.f46 13) = spec_MetaOk.T13 := by kernel_rfl
theorem spec_MetaOk.bits13 : waitsOk spec_MetaOk.T13.2 spec_MetaOk.B13 = true := by kernel_rfl
set_option maxHeartbeats 8000000 in
set_option maxRecDepth 100000 in
theorem spec_MetaOk.calls (k : Nat) (a0_0 : Int) (a0_1 : Int) (a0_2 : Int) (A0_3 : Option Addr) (c0_3 : Nat) (l0_3 : List (S60)) (r : Bool) (w : World) (hr0_3 : Kd.C k60 w A0_3 l0_3.length l0_3) (hc0_3 : l0_3.length ≤ c0_3) (h : spec_MetaOk.f k a0_0 a0_1 a0_2 l0_3 = some r) :
  Calls Try.prog 46 #[.agg #[.int .i64 a0_0, .int .i64 a0_1, .int .i64 a0_2, .slice A0_3 l0_3.length c0_3]] w fun e w' => e = .returned (.bool r) ∧ Below w.heap.size w w' := by
 have hu24 := Try.underlying24
 have hu60 := Try.underlying60
 have HR0_3 := Aside0.mk hr0_3
 clear hr0_3 hc0_3
 have HB := Aside0.mk (Below.refl w.heap.size w)
 unfold spec_MetaOk.f at h
 have H := h
 clear h
 have HC2 := Aside0.mk H
 clear H
 go_enter Try.func46, Try.ntmps46
 go_upto_region 1 with (first | ((with_reducible refine gate_dst (N := 1) rfl ?_); (try (refine gate_guard zdy ?_; dsimp only)); refine qB 1 #[.int .i64 a0_0, .int .i64 a0_1, .int .i64 a0_2, .slice A0_3 l0_3.length c0_3] 24 ?_; intro gb127 hg w3 hbox hb; have BK127 := Aside0.mk (hbox); have GW127 := Aside0.mk ((zef : w.heap.size ≤ gb127)); have GE127 := GW127; replace HB := Aside0.mk (below_step za hb); clear hb hbox hg))
 (try simp only [Act.put, qa, qb, qc])
 go_cut [36] (fun v36 wc => ∃ (kq : Nat) (x36_1 : Bool), v36 = .bool x36_1 ∧ Aside0 (spec_MetaOk.j0 kq x36_1 a0_0 a0_1 a0_2 l0_3 = some r) ∧ Aside0 (kq ≤ k) ∧ Aside0 (wc.heap[gb127]? = some (.cells #[.int .i64 a0_0, .int .i64 a0_1, .int .i64 a0_2, (.slice A0_3 l0_3.length c0_3)] 24 (0, 0))) ∧ Aside0 (Below w.heap.size w wc))
 case first =>
  have H := HC2.out
  clear HC2
  replace H := qi H
  obtain ⟨t128, A4, H⟩ := H
  by_cases c5 : t128 = true
  case neg =>
   replace c5 := Bool.eq_false_iff.mpr c5
   subst c5
   rw [if_neg (qj)] at H
   have H' := Aside0.mk H
   clear H
   obtain ⟨hcz15_0, hcz15_1, hcz15_2, hcz15_3, hfz15_0, hfz15_1, hfz15_2, hfz15_3⟩ := qk4 BK127.out
   go_wp2_with (first | ((with_reducible refine gate_callee (f := 45) rfl ?_); refine qG (some 9) Try.func45 #[.int .i64 a0_0, .int .i64 0, .int .i64 100000] ?_; (with_reducible refine (spec_l01In.calls a0_0 0 100000 false _ A4.out).mono ?_); rintro e w' ⟨rfl, ⟨nd, rfl⟩⟩; refine ⟨_, rfl, ?_⟩))
   go_meet
   case rel => exact ⟨_, (true), zd, H', ⟨zda⟩, ⟨zaw⟩, ⟨zah⟩⟩
  subst c5
  rw [if_pos rfl] at H
  replace H := qi H
  obtain ⟨t129, A6, H⟩ := H
  by_cases c7 : t129 = true
  case neg =>
   replace c7 := Bool.eq_false_iff.mpr c7
   subst c7
   rw [if_neg (qj)] at H
   have H' := Aside0.mk H
   clear H
   obtain ⟨hcz14_0, hcz14_1, hcz14_2, hcz14_3, hfz14_0, hfz14_1, hfz14_2, hfz14_3⟩ := qk4 BK127.out
   go_wp2_with (first | ((with_reducible refine gate_callee (f := 45) rfl ?_); refine qG (some 9) Try.func45 #[.int .i64 a0_0, .int .i64 0, .int .i64 100000] ?_; (with_reducible refine (spec_l01In.calls a0_0 0 100000 true _ A4.out).mono ?_); rintro e w' ⟨rfl, ⟨nd, rfl⟩⟩; refine ⟨_, rfl, ?_⟩) | (go_at_call 45; (with_reducible refine (spec_l01In.calls a0_2 2 40 false _ A6.out).mono ?_); rintro e w' ⟨rfl, ⟨nd, rfl⟩⟩))
   go_meet
   case rel => exact ⟨_, (true), zd, H', ⟨zda⟩, ⟨zaw⟩, ⟨zah⟩⟩
  subst c7
  rw [if_pos rfl] at H
  by_cases c8 : a0_1 = 0
  case pos =>
   rw [if_pos c8] at H
   have c8b0 : (a0_1 == 0) = true := beq_iff_eq.mpr c8
   have c8b1 : (a0_1 != 0) = false := bne_eq_false_iff_eq.mpr c8
   clear c8
   (first | rw [c8b0] | (simp only [i64_w, i32_w]; rw [c8b0]) | skip)
   have H' := Aside0.mk H
   clear H
   obtain ⟨hcz9_0, hcz9_1, hcz9_2, hcz9_3, hfz9_0, hfz9_1, hfz9_2, hfz9_3⟩ := qk4 BK127.out
   go_wp2_with (first | ((with_reducible refine gate_callee (f := 45) rfl ?_); refine qG (some 9) Try.func45 #[.int .i64 a0_0, .int .i64 0, .int .i64 100000] ?_; (with_reducible refine (spec_l01In.calls a0_0 0 100000 true _ A4.out).mono ?_); rintro e w' ⟨rfl, ⟨nd, rfl⟩⟩; refine ⟨_, rfl, ?_⟩) | (go_at_call 45; (with_reducible refine (spec_l01In.calls a0_2 2 40 true _ A6.out).mono ?_); rintro e w' ⟨rfl, ⟨nd, rfl⟩⟩))
   go_meet
   case rel => exact ⟨_, (decide ((l0_3.length : Int) > 20)), zd, H', ⟨zda⟩, ⟨zaw⟩, ⟨zah⟩⟩
  rw [if_neg c8] at H
  have c8b0 : (a0_1 == 0) = false := beq_eq_false_iff_ne.mpr c8
  have c8b1 : (a0_1 != 0) = true := bne_iff_ne.mpr c8
  (first | rw [c8b0] | (simp only [i64_w, i32_w]; rw [c8b0]) | skip)
  replace H := qi H
  obtain ⟨t130, A10, H⟩ := H
  by_cases c11 : t130 = true
  case pos =>
   subst c11
   rw [if_pos rfl] at H
   have H' := Aside0.mk H
   clear H
   obtain ⟨hcz12_0, hcz12_1, hcz12_2, hcz12_3, hfz12_0, hfz12_1, hfz12_2, hfz12_3⟩ := qk4 BK127.out
   go_wp2_with (first | ((with_reducible refine gate_callee (f := 45) rfl ?_); refine qG (some 9) Try.func45 #[.int .i64 a0_0, .int .i64 0, .int .i64 100000] ?_; (with_reducible refine (spec_l01In.calls a0_0 0 100000 true _ A4.out).mono ?_); rintro e w' ⟨rfl, ⟨nd, rfl⟩⟩; refine ⟨_, rfl, ?_⟩) | (go_at_call 45; (with_reducible refine (spec_l01In.calls a0_2 2 40 true _ A6.out).mono ?_); rintro e w' ⟨rfl, ⟨nd, rfl⟩⟩) | (go_at_call 45; (with_reducible refine (spec_l01In.calls a0_1 2 (wrap64 (a0_2 - 1)) true _ A10.out).mono ?_); rintro e w' ⟨rfl, ⟨nd, rfl⟩⟩))
   go_meet
   case rel => exact ⟨_, (decide ((l0_3.length : Int) > 20)), zd, H', ⟨zda⟩, ⟨zaw⟩, ⟨zah⟩⟩
  replace c11 := Bool.eq_false_iff.mpr c11
  subst c11
  rw [if_neg (qj)] at H
  have H' := Aside0.mk H
  clear H
  obtain ⟨hcz13_0, hcz13_1, hcz13_2, hcz13_3, hfz13_0, hfz13_1, hfz13_2, hfz13_3⟩ := qk4 BK127.out
  go_wp2_with (first | ((with_reducible refine gate_callee (f := 45) rfl ?_); refine qG (some 9) Try.func45 #[.int .i64 a0_0, .int .i64 0, .int .i64 100000] ?_; (with_reducible refine (spec_l01In.calls a0_0 0 100000 true _ A4.out).mono ?_); rintro e w' ⟨rfl, ⟨nd, rfl⟩⟩; refine ⟨_, rfl, ?_⟩) | (go_at_call 45; (with_reducible refine (spec_l01In.calls a0_2 2 40 true _ A6.out).mono ?_); rintro e w' ⟨rfl, ⟨nd, rfl⟩⟩) | (go_at_call 45; (with_reducible refine (spec_l01In.calls a0_1 2 (wrap64 (a0_2 - 1)) false _ A10.out).mono ?_); rintro e w' ⟨rfl, ⟨nd, rfl⟩⟩))
  go_meet
  case rel => exact ⟨_, (true), zd, H', ⟨zda⟩, ⟨zaw⟩, ⟨zah⟩⟩
 case rest =>
  clear HC2
  (try clear c5); (try clear c7); (try clear c8); (try clear c8b0); (try clear c8b1); (try clear c11); (try clear hcz12_0 hcz12_1 hcz12_2 hcz12_3 hfz12_0 hfz12_1 hfz12_2 hfz12_3); (try clear hcz13_0 hcz13_1 hcz13_2 hcz13_3 hfz13_0 hfz13_1 hfz13_2 hfz13_3); (try clear hcz14_0 hcz14_1 hcz14_2 hcz14_3 hfz14_0 hfz14_1 hfz14_2 hfz14_3); (try clear hcz15_0 hcz15_1 hcz15_2 hcz15_3 hfz15_0 hfz15_1 hfz15_2 hfz15_3); (try clear hcz9_0 hcz9_1 hcz9_2 hcz9_3 hfz9_0 hfz9_1 hfz9_2 hfz9_3)
  obtain ⟨kq, x36_1, rfl, HA, HJ1, BK127, HB⟩ := hcut
  cases kq with
  | zero => exact absurd HA.out (by simp [spec_MetaOk.j0])
  | succ kj1 =>
   have H := HA.out
   clear HA
   simp only [spec_MetaOk.j0] at H
   by_cases c16 : x36_1 = true
   case pos => subst c16; rw [if_pos rfl] at H; obtain rfl := Option.some.inj H; go_wp2; go_ret; exact ⟨zc, zah⟩
   replace c16 := Bool.eq_false_iff.mpr c16
   subst c16
   rw [if_neg (qj)] at H
   obtain ⟨y131, hy131⟩ : ∃ y_ : List Int, y_ = (([a0_1] : List Int)) := ⟨_, rfl⟩
   replace H : (spec_MetaOk.l0 kj1 y131 0 a0_0 a0_1 a0_2 l0_3) = some r := by first | (rw [hy131]; with_reducible exact H) | (have H2_ := (Option.bind_some _ _).symm.trans H; rw [hy131]; with_reducible exact H2_) | (have H2_ := (Option.bind_some _ _).symm.trans H; with_reducible exact H2_) | with_reducible exact H | (rw [hy131]; exact H) | exact H
   have Ny131 := Aside0.mk hy131
   clear hy131
   have H' := Aside0.mk H
   clear H
   obtain ⟨hcz17_0, hcz17_1, hcz17_2, hcz17_3, hfz17_0, hfz17_1, hfz17_2, hfz17_3⟩ := qk4 BK127.out
   go_wp2_with (first | ((with_reducible refine gate_dst (N := 39) rfl ?_); (try (refine gate_guard zdy ?_; dsimp only)); refine Kd.R_lit (Kd.int .i64) _ 3 ?hg (N := 39) ?hd (xs := ([a0_1] : List Int)) (inner := [.int .i64 a0_1]) (ok := fun _ => True) (okp := fun _ => True) ?hr ?hp (fun _ hk => hk) trivial (Below.refl _ _) (Nat.le_refl _) zdw ?_; (case hd => rfl); (case hg => rfl); (case hr => first | (go_simp; done) | (go_simp; rfl)); (case hp => exact (Reps.one (show Kd.M (Kd.int .i64) _ _ _ a0_1 [.int .i64 a0_1] from rfl) (Reps.none _ _))); intro v132 w18 ho19 hb hg_ hnew_; clear hg_ hnew_; (first | rw [← Ny131.out] at ho19 | (simp only [Int.reduceToNat] at ho19; rw [← Ny131.out] at ho19)); have HO133 := Aside0.mk (Kd.R_lower ho19 (below_size zah)); replace BK127 := Aside0.mk (bB BK127.out hb); replace HB := Aside0.mk (below_step zah hb); clear hb ho19))
   go_loopg [3, 4] kj1 (fun kq v3 v4 w' => ∃ (x3_2 : List Int) (x4_2 : Int), v4 = .int .i64 x4_2 ∧ Aside0 (spec_MetaOk.l0 kq x3_2 x4_2 a0_0 a0_1 a0_2 l0_3 = some r) ∧ Aside0 (kq ≤ kj1) ∧ Aside0 (Kd.R (Kd.int .i64) 3 w' w.heap.size (fun _ => True) v3 x3_2) ∧ Aside0 (w'.heap[gb127]? = some (.cells #[.int .i64 a0_0, .int .i64 a0_1, .int .i64 a0_2, (.slice A0_3 l0_3.length c0_3)] 24 (0, 0))) ∧ Aside0 (Below w.heap.size w w'))
   case atStart => exact ⟨(y131), (0), zd, H', ⟨Nat.le_refl _⟩, ⟨by (with_reducible repeat (first | apply Kd.R_alloc | apply Kd.R_drewN | apply Kd.R_drew)); exact HO133.out⟩, ⟨zaw⟩, ⟨zah⟩⟩
   case round =>
    clear H'
    (try clear c5); (try clear c7); (try clear c8); (try clear c8b0); (try clear c8b1); (try clear c11); (try clear c16); (try clear hcz12_0 hcz12_1 hcz12_2 hcz12_3 hfz12_0 hfz12_1 hfz12_2 hfz12_3); (try clear hcz13_0 hcz13_1 hcz13_2 hcz13_3 hfz13_0 hfz13_1 hfz13_2 hfz13_3); (try clear hcz14_0 hcz14_1 hcz14_2 hcz14_3 hfz14_0 hfz14_1 hfz14_2 hfz14_3); (try clear hcz15_0 hcz15_1 hcz15_2 hcz15_3 hfz15_0 hfz15_1 hfz15_2 hfz15_3); (try clear hcz17_0 hcz17_1 hcz17_2 hcz17_3 hfz17_0 hfz17_1 hfz17_2 hfz17_3); (try clear hcz9_0 hcz9_1 hcz9_2 hcz9_3 hfz9_0 hfz9_1 hfz9_2 hfz9_3)
    try clear BK127 HB
    obtain ⟨x3_2, x4_2, rfl, HA, HK2, HO_3, BK127, HB⟩ := hrel
    cases gk with
    | zero => exact absurd HA.out (by simp [spec_MetaOk.l0])
    | succ k2 =>
     have H := HA.out
     clear HA
     simp only [spec_MetaOk.l0] at H
     by_cases c20 : x4_2 < (l0_3.length : Int)
     case neg =>
      rw [if_neg c20] at H
      have c20b0 := decide_eq_false c20
      clear c20
      obtain rfl := Option.some.inj H
      obtain ⟨_, _, _, _, _, _, _, _⟩ := qk4 BK127.out
      go_wp2
      go_ret
      exact ⟨zc, zah⟩


     rw [if_pos c20] at H
     have c20b0 := decide_eq_true c20
     clear c20
     by_cases c21 : 0 ≤ x4_2
     case neg => exact qn c21 H
     rw [if_pos c21] at H
     have c21b0 := decide_eq_true c21
     clear c21
     have HC22 := Aside0.mk H
     clear H
     obtain ⟨_, _, _, _, _, _, _, _⟩ := qk4 BK127.out
     have p134 : 0 ≤ (x4_2 : Int) := of_decide_eq_true zb
     have q134 : x4_2 < (l0_3.length : Int) := of_decide_eq_true zb
     obtain ⟨ad134, A134_1, c134_1, e134, hx134_0, hx134_1, hl134_1, hi134_1⟩ := at_T60 HR0_3.out x4_2 p134 q134
     cases e134
     replace hx134_0 := qw HB hx134_0
     replace hx134_1 := qw HB hx134_1
     have HR134_1 := Aside0.mk hi134_1
     clear hi134_1 hl134_1
     replace p134 := eq_true p134
     replace q134 := eq_true q134
     go_upto_region 8 with (first | ((with_reducible refine gate_dst (N := 5) rfl ?_); (try (refine gate_guard zdy ?_; dsimp only)); refine qB 5 #[.int .i64 0, .slice none 0 0] 60 ?_; intro gb135 hg w24 hbox hb; replace HO_3 := Aside0.mk (Kd.R_below zaa hb); have BK135 := Aside0.mk (hbox); have GW135 := Aside0.mk ((by rw [hg]; exact (below_size zah) : w.heap.size ≤ gb135)); have GE135 := GW135; replace HB := Aside0.mk (below_step zah hb); have NB127_135 := Aside0.mk ((by rw [hg]; exact Nat.ne_of_lt (bL BK127.out) : gb127 ≠ gb135)); have NB135_127 := Aside0.mk NB127_135.out.symm; replace BK127 := Aside0.mk (bB BK127.out hb); clear hb hbox hg; have hnb25 := NB135_127.out; have hnc25 := NB127_135.out; obtain ⟨_, _, _, _⟩ := qk2 BK135.out))
     (try simp only [Act.put, qa, qb, qc])
     go_cut [80] (fun v80 wc => ∃ (kq : Nat) (x80_21 : Bool), v80 = .bool x80_21 ∧ Aside0 (spec_MetaOk.j2 kq x3_2 x4_2 x80_21 a0_0 a0_1 a0_2 l0_3 ((rd_T60 l0_3 x4_2).f0) ((rd_T60 l0_3 x4_2).f1) = some r) ∧ Aside0 (kq ≤ k2) ∧ Aside0 (Kd.R (Kd.int .i64) 3 wc w.heap.size (fun _ => True) u3 x3_2) ∧ Aside0 (wc.heap[gb127]? = some (.cells #[.int .i64 a0_0, .int .i64 a0_1, .int .i64 a0_2, (.slice (some ad134) l0_3.length c0_3)] 24 (0, 0))) ∧ Aside0 (wc.heap[gb135]? = some (.cells #[.int .i64 ((rd_T60 l0_3 x4_2).f0), (.slice A134_1 ((rd_T60 l0_3 x4_2).f1).length c134_1)] 60 (0, 0))) ∧ Aside0 (Below w.heap.size w wc))
     case first =>
      have H := HC22.out
      clear HC22
      replace H := qi H
      obtain ⟨t136, A27, H⟩ := H
      by_cases c28 : t136 = true
      case neg =>
       replace c28 := Bool.eq_false_iff.mpr c28
       subst c28
       rw [if_neg (qj)] at H
       have H' := Aside0.mk H
       clear H
       have hnb45 := NB135_127.out
       have hnc45 := NB127_135.out
       obtain ⟨_, _, _, _⟩ := qk2 BK135.out
       obtain ⟨_, _, _, _, _, _, _, _⟩ := qk4 BK127.out
       go_wp2_with (first | (go_at_call 45; (with_reducible refine (spec_l01In.calls ((rd_T60 l0_3 x4_2).f0) 1 a0_0 false _ A27.out).mono ?_); rintro e w' ⟨rfl, ⟨nd, rfl⟩⟩; (try first | exact ⟨rfl, _, World.drewN_drewN _ _ _⟩ | exact ⟨rfl, _, Eq.trans (World.drewN_drewN _ _ _) (congrArg (World.drewN _) (Nat.add_assoc _ _ _))⟩)))
       repeat (go_quiet (first | (go_at_call 45; (with_reducible refine (spec_l01In.calls ((rd_T60 l0_3 x4_2).f0) 1 a0_0 false _ A27.out).mono ?_); rintro e w' ⟨rfl, ⟨nd, rfl⟩⟩; (try first | exact ⟨rfl, _, World.drewN_drewN _ _ _⟩ | exact ⟨rfl, _, Eq.trans (World.drewN_drewN _ _ _) (congrArg (World.drewN _) (Nat.add_assoc _ _ _))⟩))); try go_wp2_with (first | (go_at_call 45; (with_reducible refine (spec_l01In.calls ((rd_T60 l0_3 x4_2).f0) 1 a0_0 false _ A27.out).mono ?_); rintro e w' ⟨rfl, ⟨nd, rfl⟩⟩; (try first | exact ⟨rfl, _, World.drewN_drewN _ _ _⟩ | exact ⟨rfl, _, Eq.trans (World.drewN_drewN _ _ _) (congrArg (World.drewN _) (Nat.add_assoc _ _ _))⟩))))
       go_meet
       case rel => exact ⟨_, (true), zd, H', ⟨zdb⟩, ⟨Kd.R_mono (rK HO_3.out BK135.out) (fun _ _ => trivial)⟩, ⟨zau⟩, ⟨zaj⟩, ⟨zz⟩⟩
      subst c28
      rw [if_pos rfl] at H
      by_cases c29 : x4_2 > 0
      case neg =>
       rw [if_neg c29] at H
       have c29b0 : decide (0 < x4_2) = false := decide_eq_false c29
       clear c29
       (first | rw [c29b0] | (simp only [i64_w, i32_w]; rw [c29b0]) | skip)
       replace H := qi H
       obtain ⟨t139, A41, H⟩ := H
       have H' := Aside0.mk H
       clear H
       have hnb42 := NB135_127.out
       have hnc42 := NB127_135.out
       obtain ⟨_, _, _, _⟩ := qk2 BK135.out
       obtain ⟨_, _, _, _, _, _, _, _⟩ := qk4 BK127.out
       go_wp2_with (first | (go_at_call 45; (with_reducible refine (spec_l01In.calls ((rd_T60 l0_3 x4_2).f0) 1 a0_0 true _ A27.out).mono ?_); rintro e w' ⟨rfl, ⟨nd, rfl⟩⟩; (try first | exact ⟨rfl, _, World.drewN_drewN _ _ _⟩ | exact ⟨rfl, _, Eq.trans (World.drewN_drewN _ _ _) (congrArg (World.drewN _) (Nat.add_assoc _ _ _))⟩)) | (go_at_call 45; (with_reducible refine (spec_l01In.calls (((rd_T60 l0_3 x4_2).f1).length : Int) 1 40 t139 _ A41.out).mono ?_); rintro e w' ⟨rfl, ⟨nd, rfl⟩⟩; (try first | exact ⟨rfl, _, World.drewN_drewN _ _ _⟩ | exact ⟨rfl, _, Eq.trans (World.drewN_drewN _ _ _) (congrArg (World.drewN _) (Nat.add_assoc _ _ _))⟩)))
       repeat (go_quiet (first | (go_at_call 45; (with_reducible refine (spec_l01In.calls ((rd_T60 l0_3 x4_2).f0) 1 a0_0 true _ A27.out).mono ?_); rintro e w' ⟨rfl, ⟨nd, rfl⟩⟩; (try first | exact ⟨rfl, _, World.drewN_drewN _ _ _⟩ | exact ⟨rfl, _, Eq.trans (World.drewN_drewN _ _ _) (congrArg (World.drewN _) (Nat.add_assoc _ _ _))⟩)) | (go_at_call 45; (with_reducible refine (spec_l01In.calls (((rd_T60 l0_3 x4_2).f1).length : Int) 1 40 t139 _ A41.out).mono ?_); rintro e w' ⟨rfl, ⟨nd, rfl⟩⟩; (try first | exact ⟨rfl, _, World.drewN_drewN _ _ _⟩ | exact ⟨rfl, _, Eq.trans (World.drewN_drewN _ _ _) (congrArg (World.drewN _) (Nat.add_assoc _ _ _))⟩))); try go_wp2_with (first | (go_at_call 45; (with_reducible refine (spec_l01In.calls ((rd_T60 l0_3 x4_2).f0) 1 a0_0 true _ A27.out).mono ?_); rintro e w' ⟨rfl, ⟨nd, rfl⟩⟩; (try first | exact ⟨rfl, _, World.drewN_drewN _ _ _⟩ | exact ⟨rfl, _, Eq.trans (World.drewN_drewN _ _ _) (congrArg (World.drewN _) (Nat.add_assoc _ _ _))⟩)) | (go_at_call 45; (with_reducible refine (spec_l01In.calls (((rd_T60 l0_3 x4_2).f1).length : Int) 1 40 t139 _ A41.out).mono ?_); rintro e w' ⟨rfl, ⟨nd, rfl⟩⟩; (try first | exact ⟨rfl, _, World.drewN_drewN _ _ _⟩ | exact ⟨rfl, _, Eq.trans (World.drewN_drewN _ _ _) (congrArg (World.drewN _) (Nat.add_assoc _ _ _))⟩))))
       go_meet
       case rel => exact ⟨_, (!t139), zd, H', ⟨zdb⟩, ⟨Kd.R_mono (rK HO_3.out BK135.out) (fun _ _ => trivial)⟩, ⟨zau⟩, ⟨zaj⟩, ⟨zz⟩⟩
      rw [if_pos c29] at H
      have c29b0 : decide (0 < x4_2) = true := decide_eq_true c29
      clear c29
      (first | rw [c29b0] | (simp only [i64_w, i32_w]; rw [c29b0]) | skip)
      obtain ⟨ji30, hji30⟩ : ∃ j_ : Int, (wrap64 (x4_2 - 1)) = j_ := ⟨_, rfl⟩
      replace H : (if 0 ≤ (ji30) then (if (ji30) < (l0_3.length : Int) then (if ((rd_T60 l0_3 (ji30)).f0) ≥ ((rd_T60 l0_3 x4_2).f0) then (spec_MetaOk.j2 k2 x3_2 x4_2 true a0_0 a0_1 a0_2 l0_3 ((rd_T60 l0_3 x4_2).f0) ((rd_T60 l0_3 x4_2).f1)) else ((spec_l01In.f (((rd_T60 l0_3 x4_2).f1).length : Int) 1 40).bind fun t138 => (spec_MetaOk.j2 k2 x3_2 x4_2 (!t138) a0_0 a0_1 a0_2 l0_3 ((rd_T60 l0_3 x4_2).f0) ((rd_T60 l0_3 x4_2).f1)))) else (none)) else (none)) = some r := by first | (rw [hji30] at H; exact H) | (simp only [hji30] at H ⊢; exact H)
      (try rw [hji30] at A27)
      have hji30w : (IntKind.i64.wrap (x4_2 - 1)) = ji30 := (i64_w _).trans hji30
      by_cases c31 : 0 ≤ (ji30)
      case neg => exact qn c31 H
      rw [if_pos c31] at H
      have c31b0 := decide_eq_true c31
      clear c31
      by_cases c32 : (ji30) < (l0_3.length : Int)
      case neg => exact qn c32 H
      rw [if_pos c32] at H
      have c32b0 := decide_eq_true c32
      clear c32
      by_cases c33 : ((rd_T60 l0_3 (ji30)).f0) ≥ ((rd_T60 l0_3 x4_2).f0)
      case pos =>
       rw [if_pos c33] at H
       have c33b0 : decide (((rd_T60 l0_3 x4_2).f0) ≤ ((rd_T60 l0_3 (ji30)).f0)) = true := decide_eq_true c33
       clear c33
       have H' := Aside0.mk H
       clear H
       have hnb34 := NB135_127.out
       have hnc34 := NB127_135.out
       obtain ⟨_, _, _, _⟩ := qk2 BK135.out
       obtain ⟨_, _, _, _, _, _, _, _⟩ := qk4 BK127.out
       go_wp2_with (first | (go_at_call 45; (with_reducible refine (spec_l01In.calls ((rd_T60 l0_3 x4_2).f0) 1 a0_0 true _ A27.out).mono ?_); rintro e w' ⟨rfl, ⟨nd, rfl⟩⟩; (try first | exact ⟨rfl, _, World.drewN_drewN _ _ _⟩ | exact ⟨rfl, _, Eq.trans (World.drewN_drewN _ _ _) (congrArg (World.drewN _) (Nat.add_assoc _ _ _))⟩); have p137 : 0 ≤ ((ji30) : Int) := of_decide_eq_true zb; have q137 : (ji30) < (l0_3.length : Int) := of_decide_eq_true zb; obtain ⟨ad137, A137_1, c137_1, e137, hx137_0, hx137_1, hl137_1, hi137_1⟩ := at_T60 HR0_3.out (ji30) p137 q137; obtain rfl : ad134 = ad137 := (by injection e137); have hn137_0 : ad134.block ≠ gb135 := Nat.ne_of_lt (Nat.lt_of_lt_of_le zbq GW135.out); have hn137_1 : ad134.block ≠ gb135 := Nat.ne_of_lt (Nat.lt_of_lt_of_le zbq GW135.out); replace hx137_0 := qw HB hx137_0; replace hx137_1 := qw HB hx137_1; clear hi137_1 hl137_1; replace hx137_0 := (cell_far (p := ⟨gb135, 0, none⟩) za2 (.int .i64 ((rd_T60 l0_3 x4_2).f0))).trans hx137_0; replace hx137_1 := (cell_far (p := ⟨gb135, 0, none⟩) za2 (.int .i64 ((rd_T60 l0_3 x4_2).f0))).trans hx137_1; replace hx137_0 := (cell_far (p := ⟨gb135, 1, none⟩) za3 (.slice A134_1 ((rd_T60 l0_3 x4_2).f1).length c134_1)).trans hx137_0; replace hx137_1 := (cell_far (p := ⟨gb135, 1, none⟩) za3 (.slice A134_1 ((rd_T60 l0_3 x4_2).f1).length c134_1)).trans hx137_1; (try have hy137_0 := fun (n_ : Nat) => (show ((((w24.drewN n_).setCell ⟨gb135, 0, none⟩ (.int .i64 ((rd_T60 l0_3 x4_2).f0))).setCell ⟨gb135, 1, none⟩ (.slice A134_1 ((rd_T60 l0_3 x4_2).f1).length c134_1))).cell? _ = some _ from hx137_0)); (try have hy137_1 := fun (n_ : Nat) => (show ((((w24.drewN n_).setCell ⟨gb135, 0, none⟩ (.int .i64 ((rd_T60 l0_3 x4_2).f0))).setCell ⟨gb135, 1, none⟩ (.slice A134_1 ((rd_T60 l0_3 x4_2).f1).length c134_1))).cell? _ = some _ from hx137_1)); clear hn137_0; clear hn137_1; replace p137 := eq_true p137; replace q137 := eq_true q137))
       repeat (go_quiet (first | (go_at_call 45; (with_reducible refine (spec_l01In.calls ((rd_T60 l0_3 x4_2).f0) 1 a0_0 true _ A27.out).mono ?_); rintro e w' ⟨rfl, ⟨nd, rfl⟩⟩; (try first | exact ⟨rfl, _, World.drewN_drewN _ _ _⟩ | exact ⟨rfl, _, Eq.trans (World.drewN_drewN _ _ _) (congrArg (World.drewN _) (Nat.add_assoc _ _ _))⟩); have p137 : 0 ≤ ((ji30) : Int) := of_decide_eq_true zb; have q137 : (ji30) < (l0_3.length : Int) := of_decide_eq_true zb; obtain ⟨ad137, A137_1, c137_1, e137, hx137_0, hx137_1, hl137_1, hi137_1⟩ := at_T60 HR0_3.out (ji30) p137 q137; obtain rfl : ad134 = ad137 := (by injection e137); have hn137_0 : ad134.block ≠ gb135 := Nat.ne_of_lt (Nat.lt_of_lt_of_le zbq GW135.out); have hn137_1 : ad134.block ≠ gb135 := Nat.ne_of_lt (Nat.lt_of_lt_of_le zbq GW135.out); replace hx137_0 := qw HB hx137_0; replace hx137_1 := qw HB hx137_1; clear hi137_1 hl137_1; replace hx137_0 := (cell_far (p := ⟨gb135, 0, none⟩) za2 (.int .i64 ((rd_T60 l0_3 x4_2).f0))).trans hx137_0; replace hx137_1 := (cell_far (p := ⟨gb135, 0, none⟩) za2 (.int .i64 ((rd_T60 l0_3 x4_2).f0))).trans hx137_1; replace hx137_0 := (cell_far (p := ⟨gb135, 1, none⟩) za3 (.slice A134_1 ((rd_T60 l0_3 x4_2).f1).length c134_1)).trans hx137_0; replace hx137_1 := (cell_far (p := ⟨gb135, 1, none⟩) za3 (.slice A134_1 ((rd_T60 l0_3 x4_2).f1).length c134_1)).trans hx137_1; (try have hy137_0 := fun (n_ : Nat) => (show ((((w24.drewN n_).setCell ⟨gb135, 0, none⟩ (.int .i64 ((rd_T60 l0_3 x4_2).f0))).setCell ⟨gb135, 1, none⟩ (.slice A134_1 ((rd_T60 l0_3 x4_2).f1).length c134_1))).cell? _ = some _ from hx137_0)); (try have hy137_1 := fun (n_ : Nat) => (show ((((w24.drewN n_).setCell ⟨gb135, 0, none⟩ (.int .i64 ((rd_T60 l0_3 x4_2).f0))).setCell ⟨gb135, 1, none⟩ (.slice A134_1 ((rd_T60 l0_3 x4_2).f1).length c134_1))).cell? _ = some _ from hx137_1)); clear hn137_0; clear hn137_1; replace p137 := eq_true p137; replace q137 := eq_true q137)); try go_wp2_with (first | (go_at_call 45; (with_reducible refine (spec_l01In.calls ((rd_T60 l0_3 x4_2).f0) 1 a0_0 true _ A27.out).mono ?_); rintro e w' ⟨rfl, ⟨nd, rfl⟩⟩; (try first | exact ⟨rfl, _, World.drewN_drewN _ _ _⟩ | exact ⟨rfl, _, Eq.trans (World.drewN_drewN _ _ _) (congrArg (World.drewN _) (Nat.add_assoc _ _ _))⟩); have p137 : 0 ≤ ((ji30) : Int) := of_decide_eq_true zb; have q137 : (ji30) < (l0_3.length : Int) := of_decide_eq_true zb; obtain ⟨ad137, A137_1, c137_1, e137, hx137_0, hx137_1, hl137_1, hi137_1⟩ := at_T60 HR0_3.out (ji30) p137 q137; obtain rfl : ad134 = ad137 := (by injection e137); have hn137_0 : ad134.block ≠ gb135 := Nat.ne_of_lt (Nat.lt_of_lt_of_le zbq GW135.out); have hn137_1 : ad134.block ≠ gb135 := Nat.ne_of_lt (Nat.lt_of_lt_of_le zbq GW135.out); replace hx137_0 := qw HB hx137_0; replace hx137_1 := qw HB hx137_1; clear hi137_1 hl137_1; replace hx137_0 := (cell_far (p := ⟨gb135, 0, none⟩) za2 (.int .i64 ((rd_T60 l0_3 x4_2).f0))).trans hx137_0; replace hx137_1 := (cell_far (p := ⟨gb135, 0, none⟩) za2 (.int .i64 ((rd_T60 l0_3 x4_2).f0))).trans hx137_1; replace hx137_0 := (cell_far (p := ⟨gb135, 1, none⟩) za3 (.slice A134_1 ((rd_T60 l0_3 x4_2).f1).length c134_1)).trans hx137_0; replace hx137_1 := (cell_far (p := ⟨gb135, 1, none⟩) za3 (.slice A134_1 ((rd_T60 l0_3 x4_2).f1).length c134_1)).trans hx137_1; (try have hy137_0 := fun (n_ : Nat) => (show ((((w24.drewN n_).setCell ⟨gb135, 0, none⟩ (.int .i64 ((rd_T60 l0_3 x4_2).f0))).setCell ⟨gb135, 1, none⟩ (.slice A134_1 ((rd_T60 l0_3 x4_2).f1).length c134_1))).cell? _ = some _ from hx137_0)); (try have hy137_1 := fun (n_ : Nat) => (show ((((w24.drewN n_).setCell ⟨gb135, 0, none⟩ (.int .i64 ((rd_T60 l0_3 x4_2).f0))).setCell ⟨gb135, 1, none⟩ (.slice A134_1 ((rd_T60 l0_3 x4_2).f1).length c134_1))).cell? _ = some _ from hx137_1)); clear hn137_0; clear hn137_1; replace p137 := eq_true p137; replace q137 := eq_true q137)))
       go_meet
       case rel => exact ⟨_, (true), zd, H', ⟨zdb⟩, ⟨Kd.R_mono (rK HO_3.out BK135.out) (fun _ _ => trivial)⟩, ⟨zau⟩, ⟨zaj⟩, ⟨zz⟩⟩
      rw [if_neg c33] at H
      have c33b0 : decide (((rd_T60 l0_3 x4_2).f0) ≤ ((rd_T60 l0_3 (ji30)).f0)) = false := decide_eq_false c33
      clear c33
      replace H := qi H
      obtain ⟨t138, A37, H⟩ := H
      have H' := Aside0.mk H
      clear H
      have hnb38 := NB135_127.out
      have hnc38 := NB127_135.out
      obtain ⟨_, _, _, _⟩ := qk2 BK135.out
      obtain ⟨_, _, _, _, _, _, _, _⟩ := qk4 BK127.out
      go_wp2_with (first | (go_at_call 45; (with_reducible refine (spec_l01In.calls ((rd_T60 l0_3 x4_2).f0) 1 a0_0 true _ A27.out).mono ?_); rintro e w' ⟨rfl, ⟨nd, rfl⟩⟩; (try first | exact ⟨rfl, _, World.drewN_drewN _ _ _⟩ | exact ⟨rfl, _, Eq.trans (World.drewN_drewN _ _ _) (congrArg (World.drewN _) (Nat.add_assoc _ _ _))⟩); have p137 : 0 ≤ ((ji30) : Int) := of_decide_eq_true zb; have q137 : (ji30) < (l0_3.length : Int) := of_decide_eq_true zb; obtain ⟨ad137, A137_1, c137_1, e137, hx137_0, hx137_1, hl137_1, hi137_1⟩ := at_T60 HR0_3.out (ji30) p137 q137; obtain rfl : ad134 = ad137 := (by injection e137); have hn137_0 : ad134.block ≠ gb135 := Nat.ne_of_lt (Nat.lt_of_lt_of_le zbq GW135.out); have hn137_1 : ad134.block ≠ gb135 := Nat.ne_of_lt (Nat.lt_of_lt_of_le zbq GW135.out); replace hx137_0 := qw HB hx137_0; replace hx137_1 := qw HB hx137_1; clear hi137_1 hl137_1; replace hx137_0 := (cell_far (p := ⟨gb135, 0, none⟩) za2 (.int .i64 ((rd_T60 l0_3 x4_2).f0))).trans hx137_0; replace hx137_1 := (cell_far (p := ⟨gb135, 0, none⟩) za2 (.int .i64 ((rd_T60 l0_3 x4_2).f0))).trans hx137_1; replace hx137_0 := (cell_far (p := ⟨gb135, 1, none⟩) za3 (.slice A134_1 ((rd_T60 l0_3 x4_2).f1).length c134_1)).trans hx137_0; replace hx137_1 := (cell_far (p := ⟨gb135, 1, none⟩) za3 (.slice A134_1 ((rd_T60 l0_3 x4_2).f1).length c134_1)).trans hx137_1; (try have hy137_0 := fun (n_ : Nat) => (show ((((w24.drewN n_).setCell ⟨gb135, 0, none⟩ (.int .i64 ((rd_T60 l0_3 x4_2).f0))).setCell ⟨gb135, 1, none⟩ (.slice A134_1 ((rd_T60 l0_3 x4_2).f1).length c134_1))).cell? _ = some _ from hx137_0)); (try have hy137_1 := fun (n_ : Nat) => (show ((((w24.drewN n_).setCell ⟨gb135, 0, none⟩ (.int .i64 ((rd_T60 l0_3 x4_2).f0))).setCell ⟨gb135, 1, none⟩ (.slice A134_1 ((rd_T60 l0_3 x4_2).f1).length c134_1))).cell? _ = some _ from hx137_1)); clear hn137_0; clear hn137_1; replace p137 := eq_true p137; replace q137 := eq_true q137) | (go_at_call 45; (with_reducible refine (spec_l01In.calls (((rd_T60 l0_3 x4_2).f1).length : Int) 1 40 t138 _ A37.out).mono ?_); rintro e w' ⟨rfl, ⟨nd, rfl⟩⟩; (try first | exact ⟨rfl, _, World.drewN_drewN _ _ _⟩ | exact ⟨rfl, _, Eq.trans (World.drewN_drewN _ _ _) (congrArg (World.drewN _) (Nat.add_assoc _ _ _))⟩)))
      repeat (go_quiet (first | (go_at_call 45; (with_reducible refine (spec_l01In.calls ((rd_T60 l0_3 x4_2).f0) 1 a0_0 true _ A27.out).mono ?_); rintro e w' ⟨rfl, ⟨nd, rfl⟩⟩; (try first | exact ⟨rfl, _, World.drewN_drewN _ _ _⟩ | exact ⟨rfl, _, Eq.trans (World.drewN_drewN _ _ _) (congrArg (World.drewN _) (Nat.add_assoc _ _ _))⟩); have p137 : 0 ≤ ((ji30) : Int) := of_decide_eq_true zb; have q137 : (ji30) < (l0_3.length : Int) := of_decide_eq_true zb; obtain ⟨ad137, A137_1, c137_1, e137, hx137_0, hx137_1, hl137_1, hi137_1⟩ := at_T60 HR0_3.out (ji30) p137 q137; obtain rfl : ad134 = ad137 := (by injection e137); have hn137_0 : ad134.block ≠ gb135 := Nat.ne_of_lt (Nat.lt_of_lt_of_le zbq GW135.out); have hn137_1 : ad134.block ≠ gb135 := Nat.ne_of_lt (Nat.lt_of_lt_of_le zbq GW135.out); replace hx137_0 := qw HB hx137_0; replace hx137_1 := qw HB hx137_1; clear hi137_1 hl137_1; replace hx137_0 := (cell_far (p := ⟨gb135, 0, none⟩) za2 (.int .i64 ((rd_T60 l0_3 x4_2).f0))).trans hx137_0; replace hx137_1 := (cell_far (p := ⟨gb135, 0, none⟩) za2 (.int .i64 ((rd_T60 l0_3 x4_2).f0))).trans hx137_1; replace hx137_0 := (cell_far (p := ⟨gb135, 1, none⟩) za3 (.slice A134_1 ((rd_T60 l0_3 x4_2).f1).length c134_1)).trans hx137_0; replace hx137_1 := (cell_far (p := ⟨gb135, 1, none⟩) za3 (.slice A134_1 ((rd_T60 l0_3 x4_2).f1).length c134_1)).trans hx137_1; (try have hy137_0 := fun (n_ : Nat) => (show ((((w24.drewN n_).setCell ⟨gb135, 0, none⟩ (.int .i64 ((rd_T60 l0_3 x4_2).f0))).setCell ⟨gb135, 1, none⟩ (.slice A134_1 ((rd_T60 l0_3 x4_2).f1).length c134_1))).cell? _ = some _ from hx137_0)); (try have hy137_1 := fun (n_ : Nat) => (show ((((w24.drewN n_).setCell ⟨gb135, 0, none⟩ (.int .i64 ((rd_T60 l0_3 x4_2).f0))).setCell ⟨gb135, 1, none⟩ (.slice A134_1 ((rd_T60 l0_3 x4_2).f1).length c134_1))).cell? _ = some _ from hx137_1)); clear hn137_0; clear hn137_1; replace p137 := eq_true p137; replace q137 := eq_true q137) | (go_at_call 45; (with_reducible refine (spec_l01In.calls (((rd_T60 l0_3 x4_2).f1).length : Int) 1 40 t138 _ A37.out).mono ?_); rintro e w' ⟨rfl, ⟨nd, rfl⟩⟩; (try first | exact ⟨rfl, _, World.drewN_drewN _ _ _⟩ | exact ⟨rfl, _, Eq.trans (World.drewN_drewN _ _ _) (congrArg (World.drewN _) (Nat.add_assoc _ _ _))⟩))); try go_wp2_with (first | (go_at_call 45; (with_reducible refine (spec_l01In.calls ((rd_T60 l0_3 x4_2).f0) 1 a0_0 true _ A27.out).mono ?_); rintro e w' ⟨rfl, ⟨nd, rfl⟩⟩; (try first | exact ⟨rfl, _, World.drewN_drewN _ _ _⟩ | exact ⟨rfl, _, Eq.trans (World.drewN_drewN _ _ _) (congrArg (World.drewN _) (Nat.add_assoc _ _ _))⟩); have p137 : 0 ≤ ((ji30) : Int) := of_decide_eq_true zb; have q137 : (ji30) < (l0_3.length : Int) := of_decide_eq_true zb; obtain ⟨ad137, A137_1, c137_1, e137, hx137_0, hx137_1, hl137_1, hi137_1⟩ := at_T60 HR0_3.out (ji30) p137 q137; obtain rfl : ad134 = ad137 := (by injection e137); have hn137_0 : ad134.block ≠ gb135 := Nat.ne_of_lt (Nat.lt_of_lt_of_le zbq GW135.out); have hn137_1 : ad134.block ≠ gb135 := Nat.ne_of_lt (Nat.lt_of_lt_of_le zbq GW135.out); replace hx137_0 := qw HB hx137_0; replace hx137_1 := qw HB hx137_1; clear hi137_1 hl137_1; replace hx137_0 := (cell_far (p := ⟨gb135, 0, none⟩) za2 (.int .i64 ((rd_T60 l0_3 x4_2).f0))).trans hx137_0; replace hx137_1 := (cell_far (p := ⟨gb135, 0, none⟩) za2 (.int .i64 ((rd_T60 l0_3 x4_2).f0))).trans hx137_1; replace hx137_0 := (cell_far (p := ⟨gb135, 1, none⟩) za3 (.slice A134_1 ((rd_T60 l0_3 x4_2).f1).length c134_1)).trans hx137_0; replace hx137_1 := (cell_far (p := ⟨gb135, 1, none⟩) za3 (.slice A134_1 ((rd_T60 l0_3 x4_2).f1).length c134_1)).trans hx137_1; (try have hy137_0 := fun (n_ : Nat) => (show ((((w24.drewN n_).setCell ⟨gb135, 0, none⟩ (.int .i64 ((rd_T60 l0_3 x4_2).f0))).setCell ⟨gb135, 1, none⟩ (.slice A134_1 ((rd_T60 l0_3 x4_2).f1).length c134_1))).cell? _ = some _ from hx137_0)); (try have hy137_1 := fun (n_ : Nat) => (show ((((w24.drewN n_).setCell ⟨gb135, 0, none⟩ (.int .i64 ((rd_T60 l0_3 x4_2).f0))).setCell ⟨gb135, 1, none⟩ (.slice A134_1 ((rd_T60 l0_3 x4_2).f1).length c134_1))).cell? _ = some _ from hx137_1)); clear hn137_0; clear hn137_1; replace p137 := eq_true p137; replace q137 := eq_true q137) | (go_at_call 45; (with_reducible refine (spec_l01In.calls (((rd_T60 l0_3 x4_2).f1).length : Int) 1 40 t138 _ A37.out).mono ?_); rintro e w' ⟨rfl, ⟨nd, rfl⟩⟩; (try first | exact ⟨rfl, _, World.drewN_drewN _ _ _⟩ | exact ⟨rfl, _, Eq.trans (World.drewN_drewN _ _ _) (congrArg (World.drewN _) (Nat.add_assoc _ _ _))⟩))))
      go_meet
      case rel => exact ⟨_, (!t138), zd, H', ⟨zdb⟩, ⟨Kd.R_mono (rK HO_3.out BK135.out) (fun _ _ => trivial)⟩, ⟨zau⟩, ⟨zaj⟩, ⟨zz⟩⟩
     case rest =>
      clear HC22
      (try clear c28); (try clear c29); (try clear c29b0); (try clear c31); (try clear c32)
      obtain ⟨kq, x80_21, rfl, HA, HJ21, HO_3, BK127, BK135, HB⟩ := hcut
      cases kq with
      | zero => exact absurd HA.out (by simp [spec_MetaOk.j2])
      | succ kj21 =>
       have H := HA.out
       clear HA
       simp only [spec_MetaOk.j2] at H
       by_cases c44 : x80_21 = true
       case pos => subst c44; rw [if_pos rfl] at H; obtain rfl := Option.some.inj H; go_wp2; go_ret; exact ⟨zc, zz⟩
       replace c44 := Bool.eq_false_iff.mpr c44
       subst c44
       rw [if_neg (qj)] at H
       have H' := Aside0.mk H
       clear H
       go_wp2
       go_loopg [3, 6] kj21 (fun kq v3 v6 w' => ∃ (x3_4 : List Int) (x6_4 : Int), v6 = .int .i64 x6_4 ∧ Aside0 (spec_MetaOk.l1 kq x3_4 x4_2 x6_4 a0_0 a0_1 a0_2 l0_3 ((rd_T60 l0_3 x4_2).f0) ((rd_T60 l0_3 x4_2).f1) = some r) ∧ Aside0 (kq ≤ kj21) ∧ Aside0 (Kd.R (Kd.int .i64) 3 w' w.heap.size (fun _ => True) v3 x3_4) ∧ Aside0 (w'.heap[gb127]? = some (.cells #[.int .i64 a0_0, .int .i64 a0_1, .int .i64 a0_2, (.slice (some ad134) l0_3.length c0_3)] 24 (0, 0))) ∧ Aside0 (w'.heap[gb135]? = some (.cells #[.int .i64 ((rd_T60 l0_3 x4_2).f0), (.slice A134_1 ((rd_T60 l0_3 x4_2).f1).length c134_1)] 60 (0, 0))) ∧ Aside0 (Below w.heap.size w w'))
       case atStart => exact ⟨(x3_2), (0), zd, H', ⟨Nat.le_refl _⟩, ⟨zaa⟩, ⟨zaw⟩, ⟨zcg⟩, ⟨zz⟩⟩
       case round =>
        clear H'
        (try clear c28); (try clear c29); (try clear c29b0); (try clear c31); (try clear c32); (try clear c44)
        try clear HO_3 BK127 BK135 HB
        obtain ⟨x3_4, x6_4, rfl, HA, HK4, HO_3, BK127, BK135, HB⟩ := hrel
        cases gk with
        | zero => exact absurd HA.out (by simp [spec_MetaOk.l1])
        | succ k4 =>
         have H := HA.out
         clear HA
         simp only [spec_MetaOk.l1] at H
         by_cases c45 : x6_4 < (((rd_T60 l0_3 x4_2).f1).length : Int)
         case neg =>
          rw [if_neg c45] at H
          have c45b0 := decide_eq_false c45
          clear c45
          have H' := Aside0.mk H
          clear H
          have hnb72 := NB135_127.out
          have hnc72 := NB127_135.out
          obtain ⟨_, _, _, _⟩ := qk2 BK135.out
          go_wp2
          go_roundg k4
          case measure => have := HJ1.out; have := HK2.out; have := HJ21.out; have := HK4.out; omega
          case rel => exact ⟨(x3_4), (wrap64 (x4_2 + 1)), zd, H', ⟨by have := HJ1.out; have := HK2.out; have := HJ21.out; have := HK4.out; omega⟩, ⟨zaa⟩, ⟨zaw⟩, ⟨zz⟩⟩
         rw [if_pos c45] at H
         have c45b0 := decide_eq_true c45
         clear c45
         have HC46 := Aside0.mk H
         clear H
         have hnb47 := NB135_127.out
         have hnc47 := NB127_135.out
         obtain ⟨_, _, _, _⟩ := qk2 BK135.out
         go_upto_region 13 with (fail)
         go_cut [124] (fun v124 wc => ∃ (kq : Nat) (x124_45 : Bool), v124 = .bool x124_45 ∧ Aside0 (spec_MetaOk.j4 kq x3_4 x4_2 x6_4 x124_45 a0_0 a0_1 a0_2 l0_3 ((rd_T60 l0_3 x4_2).f0) ((rd_T60 l0_3 x4_2).f1) = some r) ∧ Aside0 (kq ≤ k4) ∧ Aside0 (Kd.R (Kd.int .i64) 3 wc w.heap.size (fun _ => True) u3 x3_4) ∧ Aside0 (wc.heap[gb127]? = some (.cells #[.int .i64 a0_0, .int .i64 a0_1, .int .i64 a0_2, (.slice (some ad134) l0_3.length c0_3)] 24 (0, 0))) ∧ Aside0 (wc.heap[gb135]? = some (.cells #[.int .i64 ((rd_T60 l0_3 x4_2).f0), (.slice A134_1 ((rd_T60 l0_3 x4_2).f1).length c134_1)] 60 (0, 0))) ∧ Aside0 (Below w.heap.size w wc))
         case first =>
          have H := HC46.out
          clear HC46
          by_cases c49 : 0 ≤ x6_4
          case neg => exact qn c49 H
          rw [if_pos c49] at H
          have c49b0 := decide_eq_true c49
          clear c49
          (first | rw [c49b0] | (simp only [i64_w, i32_w]; rw [c49b0]) | skip)
          replace H := qi H
          obtain ⟨t141, A50, H⟩ := H
          by_cases c51 : t141 = true
          case neg =>
           replace c51 := Bool.eq_false_iff.mpr c51
           subst c51
           rw [if_neg (qj)] at H
           have H' := Aside0.mk H
           clear H
           try go_wp2
           replace HO_3 := Aside0.mk (Kd.R_drew HO_3.out)
           replace BK127 := Aside0.mk (blk_drew BK127.out)
           replace BK135 := Aside0.mk (blk_drew BK135.out)
           replace HB := Aside0.mk (below_drew1 HB.out)
           have p140 : 0 ≤ (x6_4 : Int) := of_decide_eq_true zb
           have q140 : x6_4 < (((rd_T60 l0_3 x4_2).f1).length : Int) := of_decide_eq_true zb
           obtain ⟨ad140, e140, hx140_0⟩ := Kd.at_int HR134_1.out x6_4 p140 q140
           have hw140_0 := hx140_0
           cases e140
           replace hx140_0 := qw HB hx140_0
           replace p140 := eq_true p140
           replace q140 := eq_true q140
           refine start_ (n := 37) (S := fun w' => w'.cell? ⟨gb135, 0, none⟩ = some (.int .i64 ((rd_T60 l0_3 x4_2).f0)) ∧ w'.cell? ⟨gb135, 1, none⟩ = some (.slice (some ad140) ((rd_T60 l0_3 x4_2).f1).length c134_1) ∧ w'.cell? ⟨gb127, 0, none⟩ = some (.int .i64 a0_0) ∧ w'.cell? ⟨gb127, 1, none⟩ = some (.int .i64 a0_1) ∧ w'.cell? ⟨gb127, 2, none⟩ = some (.int .i64 a0_2) ∧ w'.cell? ⟨gb127, 3, none⟩ = some (.slice (some ad134) l0_3.length c0_3) ∧ w'.cell? (ad140.add (x6_4).toNat) = some (.int .i64 (rd ((rd_T60 l0_3 x4_2).f1) x6_4))) (ds := []) (bz 37 0) za5 rfl rfl ⟨qx BK135 0, qx BK135 1, qx BK127 0, qx BK127 1, qx BK127 2, qx BK127 3, (qw HB hw140_0)⟩ (fun hHeld => ?_); refine with_tabW spec_MetaOk.tab13 spec_MetaOk.bits13 (fun HT_ HW_ => ?_)
           generalize wr.drew = w64 at HO_3 BK127 BK135 HB hx140_0 hHeld ⊢
           refine ql 0 (some 88) (bz 37 1) HT_ ?_
           refine ql 2 (some 90) (bz 37 5) HT_ ?_
           refine ql 5 (some 93) (bz 37 37) HT_ ?_
           refine qt 1 (some 89) (bz 37 39) HT_ HW_ hHeld ?_
           refine ql 3 (some 91) (bz 37 47) HT_ ?_
           refine qt 4 (some 92) (bz 37 63) HT_ HW_ hHeld ?_
           refine qt 6 (some 94) (bz 37 127) HT_ HW_ hHeld ?_
           refine ql 7 (some 95) (bz 37 255) HT_ ?_
           refine qs 8 (some 96) (bz 37 511) HT_ rfl rfl (fun K hK => ?_)
           refine goes_ Try.func45 za5 rfl #[.int .i64 (rd ((rd_T60 l0_3 x4_2).f1) x6_4), .int .i64 2, .int .i64 (wrap64 (a0_2 - 1))] zdy rfl rfl zv ?_
           with_reducible refine (spec_l01In.calls (rd ((rd_T60 l0_3 x4_2).f1) x6_4) 2 (wrap64 (a0_2 - 1)) false _ A50.out).mono ?_
           rintro e w' ⟨rfl, ⟨nd, rfl⟩⟩
           refine ⟨_, rfl, ?_⟩
           refine hK.out _ _ ⟨qx BK135 0, qx BK135 1, qx BK127 0, qx BK127 1, qx BK127 2, qx BK127 3, (qw HB hw140_0)⟩ (fun hHeld => ?_)
           clear hK K
           refine qr (some 96) ?_
           refine ql 9 (some 97) (bz 37 1023) HT_ ?_
           refine ql 10 (some 98) (bz 37 2047) HT_ ?_
           refine qo 11 (some 99) (bz 37 4095) HT_ ?_
           refine qo 12 (some 100) (bz 37 8191) HT_ ?_
           refine qo 13 (some 101) (bz 37 16383) HT_ ?_
           refine qo 14 (some 102) (bz 37 32767) HT_ ?_
           refine qo 15 (some 103) (bz 37 65535) HT_ ?_
           refine qo 16 (some 104) (bz 37 131071) HT_ ?_
           refine qo 17 (some 105) (bz 37 262143) HT_ ?_
           refine qo 18 (some 106) (bz 37 524287) HT_ ?_
           refine qo 19 (some 107) (bz 37 1048575) HT_ ?_
           refine qo 20 (some 108) (bz 37 2097151) HT_ ?_
           refine qo 21 (some 109) (bz 37 4194303) HT_ ?_
           refine qo 22 (some 110) (bz 37 8388607) HT_ ?_
           refine qo 23 (some 111) (bz 37 16777215) HT_ ?_
           refine qo 24 (some 112) (bz 37 33554431) HT_ ?_
           refine qo 25 (some 113) (bz 37 67108863) HT_ ?_
           refine qo 26 (some 114) (bz 37 134217727) HT_ ?_
           refine ql 27 (some 115) (bz 37 268435455) HT_ ?_
           refine ql 28 (some 116) (bz 37 536870911) HT_ ?_
           refine qo 29 (some 117) (bz 37 1073741823) HT_ ?_
           refine qo 30 (some 118) (bz 37 2147483647) HT_ ?_
           refine qo 31 (some 119) (bz 37 4294967295) HT_ ?_
           refine qo 32 (some 120) (bz 37 8589934591) HT_ ?_
           refine qo 33 (some 121) (bz 37 17179869183) HT_ ?_
           refine qo 34 (some 122) (bz 37 34359738367) HT_ ?_
           refine qo 35 (some 123) (bz 37 68719476735) HT_ ?_
           refine ql 36 (some 124) (bz 37 137438953471) HT_ ?_
           refine qu HT_ ?_
           try go_wp2
           go_meet
           case rel => exact ⟨_, (true), zd, H', ⟨zdu⟩, ⟨zaa⟩, ⟨zaw⟩, ⟨zcg⟩, ⟨zz⟩⟩
          subst c51
          rw [if_pos rfl] at H
          by_cases c52 : x6_4 > 0
          case neg =>
           rw [if_neg c52] at H
           have c52b0 : decide (0 < x6_4) = false := decide_eq_false c52
           clear c52
           replace H := qi H
           obtain ⟨t147, A61, H⟩ := H
           have H' := Aside0.mk H
           clear H
           try go_wp2
           replace HO_3 := Aside0.mk (Kd.R_drew HO_3.out)
           replace BK127 := Aside0.mk (blk_drew BK127.out)
           replace BK135 := Aside0.mk (blk_drew BK135.out)
           replace HB := Aside0.mk (below_drew1 HB.out)
           have p140 : 0 ≤ (x6_4 : Int) := of_decide_eq_true zb
           have q140 : x6_4 < (((rd_T60 l0_3 x4_2).f1).length : Int) := of_decide_eq_true zb
           obtain ⟨ad140, e140, hx140_0⟩ := Kd.at_int HR134_1.out x6_4 p140 q140
           have hw140_0 := hx140_0
           cases e140
           replace hx140_0 := qw HB hx140_0
           replace p140 := eq_true p140
           replace q140 := eq_true q140
           have p146 : 0 ≤ (x6_4 : Int) := of_decide_eq_true zb
           have q146 : x6_4 < (((rd_T60 l0_3 x4_2).f1).length : Int) := of_decide_eq_true zb
           obtain ⟨ad146, e146, hx146_0⟩ := Kd.at_int HR134_1.out x6_4 p146 q146
           have hw146_0 := hx146_0
           obtain rfl : ad140 = ad146 := (by injection e146)
           replace hx146_0 := qw HB hx146_0
           replace p146 := eq_true p146
           replace q146 := eq_true q146
           refine start_ (n := 37) (S := fun w' => w'.cell? ⟨gb135, 0, none⟩ = some (.int .i64 ((rd_T60 l0_3 x4_2).f0)) ∧ w'.cell? ⟨gb135, 1, none⟩ = some (.slice (some ad140) ((rd_T60 l0_3 x4_2).f1).length c134_1) ∧ w'.cell? ⟨gb127, 0, none⟩ = some (.int .i64 a0_0) ∧ w'.cell? ⟨gb127, 1, none⟩ = some (.int .i64 a0_1) ∧ w'.cell? ⟨gb127, 2, none⟩ = some (.int .i64 a0_2) ∧ w'.cell? ⟨gb127, 3, none⟩ = some (.slice (some ad134) l0_3.length c0_3) ∧ w'.cell? (ad140.add (x6_4).toNat) = some (.int .i64 (rd ((rd_T60 l0_3 x4_2).f1) x6_4)) ∧ w'.cell? (ad140.add (x6_4).toNat) = some (.int .i64 (rd ((rd_T60 l0_3 x4_2).f1) x6_4))) (ds := []) (bz 37 0) za5 rfl rfl ⟨qx BK135 0, qx BK135 1, qx BK127 0, qx BK127 1, qx BK127 2, qx BK127 3, (qw HB hw140_0), (qw HB hw146_0)⟩ (fun hHeld => ?_); refine with_tabW spec_MetaOk.tab13 spec_MetaOk.bits13 (fun HT_ HW_ => ?_)
           generalize wr.drew = w62 at HO_3 BK127 BK135 HB hx140_0 hx146_0 hHeld ⊢
           refine ql 0 (some 88) (bz 37 1) HT_ ?_
           refine ql 2 (some 90) (bz 37 5) HT_ ?_
           refine ql 5 (some 93) (bz 37 37) HT_ ?_
           refine qt 1 (some 89) (bz 37 39) HT_ HW_ hHeld ?_
           refine ql 3 (some 91) (bz 37 47) HT_ ?_
           refine qt 4 (some 92) (bz 37 63) HT_ HW_ hHeld ?_
           refine qt 6 (some 94) (bz 37 127) HT_ HW_ hHeld ?_
           refine ql 7 (some 95) (bz 37 255) HT_ ?_
           refine qs 8 (some 96) (bz 37 511) HT_ rfl rfl (fun K hK => ?_)
           refine goes_ Try.func45 za5 rfl #[.int .i64 (rd ((rd_T60 l0_3 x4_2).f1) x6_4), .int .i64 2, .int .i64 (wrap64 (a0_2 - 1))] zdy rfl rfl zv ?_
           with_reducible refine (spec_l01In.calls (rd ((rd_T60 l0_3 x4_2).f1) x6_4) 2 (wrap64 (a0_2 - 1)) true _ A50.out).mono ?_
           rintro e w' ⟨rfl, ⟨nd, rfl⟩⟩
           refine ⟨_, rfl, ?_⟩
           obtain ⟨Ao63, co63, eo63⟩ := Kd.R_slice HO_3.out
           (first | subst eo63 | (injection eo63 with f1_ f2_ f3_; have f4_ := f1_.symm; have f5_ := f3_.symm; clear f1_ f2_ f3_; subst f4_; subst f5_))
           refine hK.out _ _ ⟨qx BK135 0, qx BK135 1, qx BK127 0, qx BK127 1, qx BK127 2, qx BK127 3, (qw HB hw140_0), (qw HB hw146_0)⟩ (fun hHeld => ?_)
           clear hK K
           refine qr (some 96) ?_
           refine ql 9 (some 97) (bz 37 1023) HT_ ?_
           refine ql 10 (some 98) (bz 37 2047) HT_ ?_
           refine ql 11 (some 99) (bz 37 4095) HT_ ?_
           refine ql 12 (some 100) (bz 37 8191) HT_ ?_
           refine ql 13 (some 101) (bz 37 16383) HT_ ?_
           refine qo 14 (some 102) (bz 37 32767) HT_ ?_
           refine qo 15 (some 103) (bz 37 65535) HT_ ?_
           refine qo 16 (some 104) (bz 37 131071) HT_ ?_
           refine qo 17 (some 105) (bz 37 262143) HT_ ?_
           refine qo 18 (some 106) (bz 37 524287) HT_ ?_
           refine qo 19 (some 107) (bz 37 1048575) HT_ ?_
           refine qo 20 (some 108) (bz 37 2097151) HT_ ?_
           refine qo 21 (some 109) (bz 37 4194303) HT_ ?_
           refine qo 22 (some 110) (bz 37 8388607) HT_ ?_
           refine qo 23 (some 111) (bz 37 16777215) HT_ ?_
           refine qo 24 (some 112) (bz 37 33554431) HT_ ?_
           refine qo 25 (some 113) (bz 37 67108863) HT_ ?_
           refine ql 26 (some 114) (bz 37 134217727) HT_ ?_
           refine ql 27 (some 115) (bz 37 268435455) HT_ ?_
           refine ql 28 (some 116) (bz 37 536870911) HT_ ?_
           refine ql 29 (some 117) (bz 37 1073741823) HT_ ?_
           refine ql 30 (some 118) (bz 37 2147483647) HT_ ?_
           refine ql 32 (some 120) (bz 37 6442450943) HT_ ?_
           refine qt 31 (some 119) (bz 37 8589934591) HT_ HW_ hHeld ?_
           refine ql 33 (some 121) (bz 37 17179869183) HT_ ?_
           refine qt 34 (some 122) (bz 37 34359738367) HT_ HW_ hHeld ?_
           refine qs 35 (some 123) (bz 37 68719476735) HT_ rfl rfl (fun K hK => ?_)
           refine goes_ Try.func72 za5 rfl #[.slice Ao63 x3_4.length co63, .int .i64 (rd ((rd_T60 l0_3 x4_2).f1) x6_4)] zdy rfl rfl zv ?_
           with_reducible refine (spec_l06In.calls k4 _ _ x3_4 (rd ((rd_T60 l0_3 x4_2).f1) x6_4) t147 _ ?side1 ?side2 A61.out).mono ?_
           (case side1 => exact zck)
           (case side2 => exact (Kd.R_reads' HO_3.out).2.1)
           rintro e w' ⟨rfl, ⟨nd, rfl⟩⟩
           refine ⟨_, rfl, ?_⟩
           refine hK.out _ _ ⟨qx BK135 0, qx BK135 1, qx BK127 0, qx BK127 1, qx BK127 2, qx BK127 3, (qw HB hw140_0), (qw HB hw146_0)⟩ (fun hHeld => ?_)
           clear hK K
           refine qr (some 123) ?_
           refine ql 36 (some 124) (bz 37 137438953471) HT_ ?_
           refine qu HT_ ?_
           try go_wp2
           go_meet
           case rel => exact ⟨_, (t147), zd, H', ⟨zdu⟩, ⟨zaa⟩, ⟨zaw⟩, ⟨zcg⟩, ⟨zz⟩⟩
          rw [if_pos c52] at H
          have c52b0 : decide (0 < x6_4) = true := decide_eq_true c52
          clear c52
          obtain ⟨ji53, hji53⟩ : ∃ j_ : Int, (wrap64 (x6_4 - 1)) = j_ := ⟨_, rfl⟩
          replace H : (if 0 ≤ (ji53) then (if (ji53) < (((rd_T60 l0_3 x4_2).f1).length : Int) then (if (rd ((rd_T60 l0_3 x4_2).f1) (ji53)) ≥ (rd ((rd_T60 l0_3 x4_2).f1) x6_4) then (spec_MetaOk.j4 k4 x3_4 x4_2 x6_4 true a0_0 a0_1 a0_2 l0_3 ((rd_T60 l0_3 x4_2).f0) ((rd_T60 l0_3 x4_2).f1)) else ((spec_l06In.f k4 x3_4 (rd ((rd_T60 l0_3 x4_2).f1) x6_4)).bind fun t145 => (spec_MetaOk.j4 k4 x3_4 x4_2 x6_4 t145 a0_0 a0_1 a0_2 l0_3 ((rd_T60 l0_3 x4_2).f0) ((rd_T60 l0_3 x4_2).f1)))) else (none)) else (none)) = some r := by first | (rw [hji53] at H; exact H) | (simp only [hji53] at H ⊢; exact H)
          (try rw [hji53] at A50)
          have hji53w : (IntKind.i64.wrap (x6_4 - 1)) = ji53 := (i64_w _).trans hji53
          by_cases c54 : 0 ≤ (ji53)
          case neg => exact qn c54 H
          rw [if_pos c54] at H
          have c54b0 := decide_eq_true c54
          clear c54
          by_cases c55 : (ji53) < (((rd_T60 l0_3 x4_2).f1).length : Int)
          case neg => exact qn c55 H
          rw [if_pos c55] at H
          have c55b0 := decide_eq_true c55
          clear c55
          by_cases c56 : (rd ((rd_T60 l0_3 x4_2).f1) (ji53)) ≥ (rd ((rd_T60 l0_3 x4_2).f1) x6_4)
          case pos =>
           rw [if_pos c56] at H
           have c56b0 : decide ((rd ((rd_T60 l0_3 x4_2).f1) x6_4) ≤ (rd ((rd_T60 l0_3 x4_2).f1) (ji53))) = true := decide_eq_true c56
           clear c56
           have H' := Aside0.mk H
           clear H
           try go_wp2
           replace HO_3 := Aside0.mk (Kd.R_drew HO_3.out)
           replace BK127 := Aside0.mk (blk_drew BK127.out)
           replace BK135 := Aside0.mk (blk_drew BK135.out)
           replace HB := Aside0.mk (below_drew1 HB.out)
           have p140 : 0 ≤ (x6_4 : Int) := of_decide_eq_true zb
           have q140 : x6_4 < (((rd_T60 l0_3 x4_2).f1).length : Int) := of_decide_eq_true zb
           obtain ⟨ad140, e140, hx140_0⟩ := Kd.at_int HR134_1.out x6_4 p140 q140
           have hw140_0 := hx140_0
           cases e140
           replace hx140_0 := qw HB hx140_0
           replace p140 := eq_true p140
           replace q140 := eq_true q140
           have p142 : 0 ≤ ((ji53) : Int) := of_decide_eq_true zb
           have q142 : (ji53) < (((rd_T60 l0_3 x4_2).f1).length : Int) := of_decide_eq_true zb
           obtain ⟨ad142, e142, hx142_0⟩ := Kd.at_int HR134_1.out (ji53) p142 q142
           have hw142_0 := hx142_0
           obtain rfl : ad140 = ad142 := (by injection e142)
           replace hx142_0 := qw HB hx142_0
           replace p142 := eq_true p142
           replace q142 := eq_true q142
           have p143 : 0 ≤ (x6_4 : Int) := of_decide_eq_true zb
           have q143 : x6_4 < (((rd_T60 l0_3 x4_2).f1).length : Int) := of_decide_eq_true zb
           obtain ⟨ad143, e143, hx143_0⟩ := Kd.at_int HR134_1.out x6_4 p143 q143
           have hw143_0 := hx143_0
           obtain rfl : ad140 = ad143 := (by injection e143)
           replace hx143_0 := qw HB hx143_0
           replace p143 := eq_true p143
           replace q143 := eq_true q143
           refine start_ (n := 37) (S := fun w' => w'.cell? ⟨gb135, 0, none⟩ = some (.int .i64 ((rd_T60 l0_3 x4_2).f0)) ∧ w'.cell? ⟨gb135, 1, none⟩ = some (.slice (some ad140) ((rd_T60 l0_3 x4_2).f1).length c134_1) ∧ w'.cell? ⟨gb127, 0, none⟩ = some (.int .i64 a0_0) ∧ w'.cell? ⟨gb127, 1, none⟩ = some (.int .i64 a0_1) ∧ w'.cell? ⟨gb127, 2, none⟩ = some (.int .i64 a0_2) ∧ w'.cell? ⟨gb127, 3, none⟩ = some (.slice (some ad134) l0_3.length c0_3) ∧ w'.cell? (ad140.add (x6_4).toNat) = some (.int .i64 (rd ((rd_T60 l0_3 x4_2).f1) x6_4)) ∧ w'.cell? (ad140.add ((ji53)).toNat) = some (.int .i64 (rd ((rd_T60 l0_3 x4_2).f1) (ji53))) ∧ w'.cell? (ad140.add (x6_4).toNat) = some (.int .i64 (rd ((rd_T60 l0_3 x4_2).f1) x6_4))) (ds := []) (bz 37 0) za5 rfl rfl ⟨qx BK135 0, qx BK135 1, qx BK127 0, qx BK127 1, qx BK127 2, qx BK127 3, (qw HB hw140_0), (qw HB hw142_0), (qw HB hw143_0)⟩ (fun hHeld => ?_); refine with_tabW spec_MetaOk.tab13 spec_MetaOk.bits13 (fun HT_ HW_ => ?_)
           generalize wr.drew = w57 at HO_3 BK127 BK135 HB hx140_0 hx142_0 hx143_0 hHeld ⊢
           refine ql 0 (some 88) (bz 37 1) HT_ ?_
           refine ql 2 (some 90) (bz 37 5) HT_ ?_
           refine ql 5 (some 93) (bz 37 37) HT_ ?_
           refine qt 1 (some 89) (bz 37 39) HT_ HW_ hHeld ?_
           refine ql 3 (some 91) (bz 37 47) HT_ ?_
           refine qt 4 (some 92) (bz 37 63) HT_ HW_ hHeld ?_
           refine qt 6 (some 94) (bz 37 127) HT_ HW_ hHeld ?_
           refine ql 7 (some 95) (bz 37 255) HT_ ?_
           refine qs 8 (some 96) (bz 37 511) HT_ rfl rfl (fun K hK => ?_)
           refine goes_ Try.func45 za5 rfl #[.int .i64 (rd ((rd_T60 l0_3 x4_2).f1) x6_4), .int .i64 2, .int .i64 (wrap64 (a0_2 - 1))] zdy rfl rfl zv ?_
           with_reducible refine (spec_l01In.calls (rd ((rd_T60 l0_3 x4_2).f1) x6_4) 2 (wrap64 (a0_2 - 1)) true _ A50.out).mono ?_
           rintro e w' ⟨rfl, ⟨nd, rfl⟩⟩
           refine ⟨_, rfl, ?_⟩
           refine hK.out _ _ ⟨qx BK135 0, qx BK135 1, qx BK127 0, qx BK127 1, qx BK127 2, qx BK127 3, (qw HB hw140_0), (qw HB hw142_0), (qw HB hw143_0)⟩ (fun hHeld => ?_)
           clear hK K
           refine qr (some 96) ?_
           refine ql 9 (some 97) (bz 37 1023) HT_ ?_
           refine ql 10 (some 98) (bz 37 2047) HT_ ?_
           refine ql 11 (some 99) (bz 37 4095) HT_ ?_
           refine ql 12 (some 100) (bz 37 8191) HT_ ?_
           refine ql 13 (some 101) (bz 37 16383) HT_ ?_
           refine ql 14 (some 102) (bz 37 32767) HT_ ?_
           refine ql 16 (some 104) (bz 37 98303) HT_ ?_
           refine ql 17 (some 105) (bz 37 229375) HT_ ?_
           refine ql 20 (some 108) (bz 37 1277951) HT_ ?_
           refine ql 22 (some 110) (bz 37 5472255) HT_ ?_
           refine qt 15 (some 103) (bz 37 5505023) HT_ HW_ hHeld ?_
           refine ql 18 (some 106) (bz 37 5767167) HT_ ?_
           refine qt 19 (some 107) (bz 37 6291455) HT_ HW_ hHeld ?_
           refine qt 21 (some 109) (bz 37 8388607) HT_ HW_ hHeld ?_
           refine ql 23 (some 111) (bz 37 16777215) HT_ ?_
           refine qt 24 (some 112) (bz 37 33554431) HT_ HW_ hHeld ?_
           refine ql 25 (some 113) (bz 37 67108863) HT_ ?_
           refine ql 26 (some 114) (bz 37 134217727) HT_ ?_
           refine ql 27 (some 115) (bz 37 268435455) HT_ ?_
           refine ql 28 (some 116) (bz 37 536870911) HT_ ?_
           refine qo 29 (some 117) (bz 37 1073741823) HT_ ?_
           refine qo 30 (some 118) (bz 37 2147483647) HT_ ?_
           refine qo 31 (some 119) (bz 37 4294967295) HT_ ?_
           refine qo 32 (some 120) (bz 37 8589934591) HT_ ?_
           refine qo 33 (some 121) (bz 37 17179869183) HT_ ?_
           refine qo 34 (some 122) (bz 37 34359738367) HT_ ?_
           refine qo 35 (some 123) (bz 37 68719476735) HT_ ?_
           refine ql 36 (some 124) (bz 37 137438953471) HT_ ?_
           refine qu HT_ ?_
           try go_wp2
           go_meet
           case rel => exact ⟨_, (true), zd, H', ⟨zdu⟩, ⟨zaa⟩, ⟨zaw⟩, ⟨zcg⟩, ⟨zz⟩⟩
          rw [if_neg c56] at H
          have c56b0 : decide ((rd ((rd_T60 l0_3 x4_2).f1) x6_4) ≤ (rd ((rd_T60 l0_3 x4_2).f1) (ji53))) = false := decide_eq_false c56
          clear c56
          replace H := qi H
          obtain ⟨t145, A58, H⟩ := H
          have H' := Aside0.mk H
          clear H
          try go_wp2
          replace HO_3 := Aside0.mk (Kd.R_drew HO_3.out)
          replace BK127 := Aside0.mk (blk_drew BK127.out)
          replace BK135 := Aside0.mk (blk_drew BK135.out)
          replace HB := Aside0.mk (below_drew1 HB.out)
          have p140 : 0 ≤ (x6_4 : Int) := of_decide_eq_true zb
          have q140 : x6_4 < (((rd_T60 l0_3 x4_2).f1).length : Int) := of_decide_eq_true zb
          obtain ⟨ad140, e140, hx140_0⟩ := Kd.at_int HR134_1.out x6_4 p140 q140
          have hw140_0 := hx140_0
          cases e140
          replace hx140_0 := qw HB hx140_0
          replace p140 := eq_true p140
          replace q140 := eq_true q140
          have p142 : 0 ≤ ((ji53) : Int) := of_decide_eq_true zb
          have q142 : (ji53) < (((rd_T60 l0_3 x4_2).f1).length : Int) := of_decide_eq_true zb
          obtain ⟨ad142, e142, hx142_0⟩ := Kd.at_int HR134_1.out (ji53) p142 q142
          have hw142_0 := hx142_0
          obtain rfl : ad140 = ad142 := (by injection e142)
          replace hx142_0 := qw HB hx142_0
          replace p142 := eq_true p142
          replace q142 := eq_true q142
          have p143 : 0 ≤ (x6_4 : Int) := of_decide_eq_true zb
          have q143 : x6_4 < (((rd_T60 l0_3 x4_2).f1).length : Int) := of_decide_eq_true zb
          obtain ⟨ad143, e143, hx143_0⟩ := Kd.at_int HR134_1.out x6_4 p143 q143
          have hw143_0 := hx143_0
          obtain rfl : ad140 = ad143 := (by injection e143)
          replace hx143_0 := qw HB hx143_0
          replace p143 := eq_true p143
          replace q143 := eq_true q143
          have p144 : 0 ≤ (x6_4 : Int) := of_decide_eq_true zb
          have q144 : x6_4 < (((rd_T60 l0_3 x4_2).f1).length : Int) := of_decide_eq_true zb
          obtain ⟨ad144, e144, hx144_0⟩ := Kd.at_int HR134_1.out x6_4 p144 q144
          have hw144_0 := hx144_0
          obtain rfl : ad140 = ad144 := (by injection e144)
          replace hx144_0 := qw HB hx144_0
          replace p144 := eq_true p144
          replace q144 := eq_true q144
          refine start_ (n := 37) (S := fun w' => w'.cell? ⟨gb135, 0, none⟩ = some (.int .i64 ((rd_T60 l0_3 x4_2).f0)) ∧ w'.cell? ⟨gb135, 1, none⟩ = some (.slice (some ad140) ((rd_T60 l0_3 x4_2).f1).length c134_1) ∧ w'.cell? ⟨gb127, 0, none⟩ = some (.int .i64 a0_0) ∧ w'.cell? ⟨gb127, 1, none⟩ = some (.int .i64 a0_1) ∧ w'.cell? ⟨gb127, 2, none⟩ = some (.int .i64 a0_2) ∧ w'.cell? ⟨gb127, 3, none⟩ = some (.slice (some ad134) l0_3.length c0_3) ∧ w'.cell? (ad140.add (x6_4).toNat) = some (.int .i64 (rd ((rd_T60 l0_3 x4_2).f1) x6_4)) ∧ w'.cell? (ad140.add ((ji53)).toNat) = some (.int .i64 (rd ((rd_T60 l0_3 x4_2).f1) (ji53))) ∧ w'.cell? (ad140.add (x6_4).toNat) = some (.int .i64 (rd ((rd_T60 l0_3 x4_2).f1) x6_4)) ∧ w'.cell? (ad140.add (x6_4).toNat) = some (.int .i64 (rd ((rd_T60 l0_3 x4_2).f1) x6_4))) (ds := []) (bz 37 0) za5 rfl rfl ⟨qx BK135 0, qx BK135 1, qx BK127 0, qx BK127 1, qx BK127 2, qx BK127 3, (qw HB hw140_0), (qw HB hw142_0), (qw HB hw143_0), (qw HB hw144_0)⟩ (fun hHeld => ?_); refine with_tabW spec_MetaOk.tab13 spec_MetaOk.bits13 (fun HT_ HW_ => ?_)
          generalize wr.drew = w59 at HO_3 BK127 BK135 HB hx140_0 hx142_0 hx143_0 hx144_0 hHeld ⊢
          refine ql 0 (some 88) (bz 37 1) HT_ ?_
          refine ql 2 (some 90) (bz 37 5) HT_ ?_
          refine ql 5 (some 93) (bz 37 37) HT_ ?_
          refine qt 1 (some 89) (bz 37 39) HT_ HW_ hHeld ?_
          refine ql 3 (some 91) (bz 37 47) HT_ ?_
          refine qt 4 (some 92) (bz 37 63) HT_ HW_ hHeld ?_
          refine qt 6 (some 94) (bz 37 127) HT_ HW_ hHeld ?_
          refine ql 7 (some 95) (bz 37 255) HT_ ?_
          refine qs 8 (some 96) (bz 37 511) HT_ rfl rfl (fun K hK => ?_)
          refine goes_ Try.func45 za5 rfl #[.int .i64 (rd ((rd_T60 l0_3 x4_2).f1) x6_4), .int .i64 2, .int .i64 (wrap64 (a0_2 - 1))] zdy rfl rfl zv ?_
          with_reducible refine (spec_l01In.calls (rd ((rd_T60 l0_3 x4_2).f1) x6_4) 2 (wrap64 (a0_2 - 1)) true _ A50.out).mono ?_
          rintro e w' ⟨rfl, ⟨nd, rfl⟩⟩
          refine ⟨_, rfl, ?_⟩
          obtain ⟨Ao60, co60, eo60⟩ := Kd.R_slice HO_3.out
          (first | subst eo60 | (injection eo60 with f1_ f2_ f3_; have f4_ := f1_.symm; have f5_ := f3_.symm; clear f1_ f2_ f3_; subst f4_; subst f5_))
          refine hK.out _ _ ⟨qx BK135 0, qx BK135 1, qx BK127 0, qx BK127 1, qx BK127 2, qx BK127 3, (qw HB hw140_0), (qw HB hw142_0), (qw HB hw143_0), (qw HB hw144_0)⟩ (fun hHeld => ?_)
          clear hK K
          refine qr (some 96) ?_
          refine ql 9 (some 97) (bz 37 1023) HT_ ?_
          refine ql 10 (some 98) (bz 37 2047) HT_ ?_
          refine ql 11 (some 99) (bz 37 4095) HT_ ?_
          refine ql 12 (some 100) (bz 37 8191) HT_ ?_
          refine ql 13 (some 101) (bz 37 16383) HT_ ?_
          refine ql 14 (some 102) (bz 37 32767) HT_ ?_
          refine ql 16 (some 104) (bz 37 98303) HT_ ?_
          refine ql 17 (some 105) (bz 37 229375) HT_ ?_
          refine ql 20 (some 108) (bz 37 1277951) HT_ ?_
          refine ql 22 (some 110) (bz 37 5472255) HT_ ?_
          refine qt 15 (some 103) (bz 37 5505023) HT_ HW_ hHeld ?_
          refine ql 18 (some 106) (bz 37 5767167) HT_ ?_
          refine qt 19 (some 107) (bz 37 6291455) HT_ HW_ hHeld ?_
          refine qt 21 (some 109) (bz 37 8388607) HT_ HW_ hHeld ?_
          refine ql 23 (some 111) (bz 37 16777215) HT_ ?_
          refine qt 24 (some 112) (bz 37 33554431) HT_ HW_ hHeld ?_
          refine ql 25 (some 113) (bz 37 67108863) HT_ ?_
          refine ql 26 (some 114) (bz 37 134217727) HT_ ?_
          refine ql 27 (some 115) (bz 37 268435455) HT_ ?_
          refine ql 28 (some 116) (bz 37 536870911) HT_ ?_
          refine ql 29 (some 117) (bz 37 1073741823) HT_ ?_
          refine ql 30 (some 118) (bz 37 2147483647) HT_ ?_
          refine ql 32 (some 120) (bz 37 6442450943) HT_ ?_
          refine qt 31 (some 119) (bz 37 8589934591) HT_ HW_ hHeld ?_
          refine ql 33 (some 121) (bz 37 17179869183) HT_ ?_
          refine qt 34 (some 122) (bz 37 34359738367) HT_ HW_ hHeld ?_
          refine qs 35 (some 123) (bz 37 68719476735) HT_ rfl rfl (fun K hK => ?_)
          refine goes_ Try.func72 za5 rfl #[.slice Ao60 x3_4.length co60, .int .i64 (rd ((rd_T60 l0_3 x4_2).f1) x6_4)] zdy rfl rfl zv ?_
          with_reducible refine (spec_l06In.calls k4 _ _ x3_4 (rd ((rd_T60 l0_3 x4_2).f1) x6_4) t145 _ ?side1 ?side2 A58.out).mono ?_
          (case side1 => exact zck)
          (case side2 => exact (Kd.R_reads' HO_3.out).2.1)
          rintro e w' ⟨rfl, ⟨nd, rfl⟩⟩
          refine ⟨_, rfl, ?_⟩
          refine hK.out _ _ ⟨qx BK135 0, qx BK135 1, qx BK127 0, qx BK127 1, qx BK127 2, qx BK127 3, (qw HB hw140_0), (qw HB hw142_0), (qw HB hw143_0), (qw HB hw144_0)⟩ (fun hHeld => ?_)
          clear hK K
          refine qr (some 123) ?_
          refine ql 36 (some 124) (bz 37 137438953471) HT_ ?_
          refine qu HT_ ?_
          try go_wp2
          go_meet
          case rel => exact ⟨_, (t145), zd, H', ⟨zdu⟩, ⟨zaa⟩, ⟨zaw⟩, ⟨zcg⟩, ⟨zz⟩⟩
         case rest =>
          clear HC46
          (try clear c5); (try clear c7); (try clear c45); (try clear c49); (try clear c51); (try clear c52); (try clear c52b0); (try clear c54); (try clear c55); (try clear hx140_0); (try clear hx146_0); (try clear p140); (try clear p146); (try clear q140); (try clear q146)
          obtain ⟨kq, x124_45, rfl, HA, HJ45, HO_3, BK127, BK135, HB⟩ := hcut
          cases kq with
          | zero => exact absurd HA.out (by simp [spec_MetaOk.j4])
          | succ kj45 =>
           have H := HA.out
           clear HA
           simp only [spec_MetaOk.j4] at H
           by_cases c65 : x124_45 = true
           case pos => subst c65; rw [if_pos rfl] at H; obtain rfl := Option.some.inj H; go_wp2; go_ret; exact ⟨zc, zz⟩
           replace c65 := Bool.eq_false_iff.mpr c65
           subst c65
           rw [if_neg (qj)] at H
           by_cases c66 : 0 ≤ x6_4
           case neg => exact qn c66 H
           rw [if_pos c66] at H
           have c66b0 := decide_eq_true c66
           clear c66
           by_cases c67 : x6_4 < (((rd_T60 l0_3 x4_2).f1).length : Int)
           case neg => exact qn c67 H
           rw [if_pos c67] at H
           have c67b0 := decide_eq_true c67
           clear c67
           by_cases c68 : x3_4.length < 17592186044416
           case neg => exact qn c68 H
           rw [if_pos c68] at H
           have LMc68 := Aside0.mk c68
           clear c68
           obtain ⟨y149, hy149⟩ : ∃ y_ : List Int, y_ = (x3_4 ++ [rd ((rd_T60 l0_3 x4_2).f1) x6_4]) := ⟨_, rfl⟩
           replace H : (spec_MetaOk.l1 kj45 y149 x4_2 (wrap64 (x6_4 + 1)) a0_0 a0_1 a0_2 l0_3 ((rd_T60 l0_3 x4_2).f0) ((rd_T60 l0_3 x4_2).f1)) = some r := by first | (rw [hy149]; with_reducible exact H) | (have H2_ := (Option.bind_some _ _).symm.trans H; rw [hy149]; with_reducible exact H2_) | (have H2_ := (Option.bind_some _ _).symm.trans H; with_reducible exact H2_) | with_reducible exact H | (rw [hy149]; exact H) | exact H
           have Ny149 := Aside0.mk hy149
           clear hy149
           have H' := Aside0.mk H
           clear H
           have hnb69 := NB135_127.out
           have hnc69 := NB127_135.out
           obtain ⟨_, _, _, _⟩ := qk2 BK135.out
           have p148 : 0 ≤ (x6_4 : Int) := of_decide_eq_true zb
           have q148 : x6_4 < (((rd_T60 l0_3 x4_2).f1).length : Int) := of_decide_eq_true zb
           obtain ⟨ad148, e148, hx148_0⟩ := Kd.at_int HR134_1.out x6_4 p148 q148
           cases e148
           replace hx148_0 := qw HB hx148_0
           replace p148 := eq_true p148
           replace q148 := eq_true q148
           go_wp2_with (first | ((with_reducible refine gate_builtin (b := .append) (xs := #[.tmp 125, .tmp 131]) rfl ?_); (try (refine gate_guard zdy ?_; dsimp only)); at_builtin; refine Kd.R_append (Kd.int .i64) (w0 := w) w.heap.size rfl (.tmp 125) (.tmp 131) 58 3 (.int .i64 0) 8 rfl Try.underlying58 info3 rfl zbf zd4 u3 x3_4 (rd ((rd_T60 l0_3 x4_2).f1) x6_4) [.int .i64 (rd ((rd_T60 l0_3 x4_2).f1) x6_4)] (fun _ => True) (fun _ => False) rfl rfl ?aP (fun _ hk => hk.elim) ?aF ?aO ?aB ?aS ?aL ?_; (case aP => exact rfl); (case aB => exact zz); (case aF => exact (fun _ _ => trivial)); (case aO => exact zaa); (case aS => exact (below_size zz)); (case aL => have := LMc68.out; omega); intro v150 w71 ho hb hg hat; rw [← Ny149.out] at ho; replace BK127 := Aside0.mk (blk_grown (bP BK127.out) hg (Kd.R_ne HO_3.out BK127.out zbf)); replace BK135 := Aside0.mk (blk_grown (bP BK135.out) hg (Kd.R_ne HO_3.out BK135.out zbf)); replace HB := Aside0.mk (hb); have HO151 := Aside0.mk (ho); clear HO_3; clear ho hb hg hat))
           go_roundg kj45
           case measure => have := HJ1.out; have := HK2.out; have := HJ21.out; have := HK4.out; have := HJ45.out; omega
           case rel => exact ⟨(y149), (wrap64 (x6_4 + 1)), zd, H', ⟨by have := HJ1.out; have := HK2.out; have := HJ21.out; have := HK4.out; have := HJ45.out; omega⟩, ⟨by (with_reducible repeat (first | apply Kd.R_alloc | apply Kd.R_drewN | apply Kd.R_drew)); exact HO151.out⟩, ⟨zaw⟩, ⟨zcg⟩, ⟨zz⟩⟩
end Go.Proofs.Yteokilffbcbllaa.VFnBest
