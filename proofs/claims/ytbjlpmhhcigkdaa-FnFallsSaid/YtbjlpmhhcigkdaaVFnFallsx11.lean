-- Written by a program of this repo (wip/myprint.py), over the kit's print; functions that the print does not take stand in it by hand-proved contracts.
import Derived.Test.YtbjlpmhhcigkdaaVFnFallsx0
import Derived.Test.YtbjlpmhhcigkdaaVFnFallsx2
import Derived.Test.YtbjlpmhhcigkdaaVFnFallsx5
import Derived.Test.YtbjlpmhhcigkdaaVFnFallsx6
import Derived.Test.YtbjlpmhhcigkdaaVFnFallsx7
import Derived.Test.YtbjlpmhhcigkdaaVFnFallsx9
import Derived.Test.YtbjlpmhhcigkdaaVFnFallsx10
namespace Go.Proofs.Ytbjlpmhhcigkdaa.VFnFalls
open Go.RowKit Go.Proofs.YtbjlpmhhcigkdaaW.PrintWords Go.Proofs.YtbjlpmhhcigkdaaW.PrintLast Go.Proofs.YtbjlpmhhcigkdaaW.PrintMore
attribute [local go_sem] max2_int min2_int max_two min_two max_three min_three max_four min_four   -- for this text's walks alone
attribute [local go_sem high] str_leq str_gtr str_geq str_lss
set_option linter.unusedVariables false
set_option linter.unusedSimpArgs false

/-! ### laws_FnFalls: function 9 -/
mutual
def laws_FnFalls.l0 : Nat → List Int → List Bool → Int → Int → List ByteArray → List (S74) → List ByteArray → List (S74) → Option (Bool)
 | 0, _, _, _, _, _, _, _, _ => none
 | k + 1, x0, x4, x5, x7, x408000, x408001, x422000, x422001 => if x7 < (x408000.length : Int) then (if 0 ≤ x7 then (if x7 < (x422000.length : Int) then (laws_FnFalls.l1 k x0 x4 x5 x7 ((rdOf ByteArray.empty x422000 x7).toList == (rdOf ByteArray.empty x408000 x7).toList) 0 x408000 x408001 x422000 x422001) else (none)) else (none)) else ((impl_FallDisk.f k x408000 x408001 (([] : List Bool)) (-1)).bind fun bt432 => ((spec_DrawFallDisk.f k x0).bind fun bt439 => (if (x422001.length : Int) = 0 then (if (x422000.length : Int) = (x408000.length : Int) then ((laws_sameTexts.f k bt432.1 x408000).bind fun t450 => (if t450 = true then ((impl_FallDisk.f k bt439.1 bt439.2.1 bt439.2.2.1 bt439.2.2.2).bind fun bt451 => ((spec_FallDisk.f k bt439.1 bt439.2.1 bt439.2.2.1 bt439.2.2.2).bind fun bt457 => ((laws_sameDisk.f k bt451.1 bt451.2 bt457.1 bt457.2).bind fun t463 => (some t463)))) else (none))) else (none)) else (none))))
def laws_FnFalls.l1 : Nat → List Int → List Bool → Int → Int → Bool → Int → List ByteArray → List (S74) → List ByteArray → List (S74) → Option (Bool)
 | 0, _, _, _, _, _, _, _, _, _, _ => none
 | k + 1, x0, x4, x5, x7, x8, x9, x408000, x408001, x422000, x422001 => if x9 < (x408001.length : Int) then (if 0 ≤ x9 then (if ((rd_T74 x408001 x9).f0) = x7 then (if x9 < (x4.length : Int) then (if rdOf false x4 x9 = true then (if x8 = true then (laws_FnFalls.l1 k x0 x4 x5 x7 true (wrap64 (x9 + 1)) x408000 x408001 x422000 x422001) else (if 0 ≤ x7 then (if x7 < (x422000.length : Int) then (if (rdOf ByteArray.empty x422000 x7).toList = ((rd_T74 x408001 x9).f1).toList then (laws_FnFalls.l1 k x0 x4 x5 x7 true (wrap64 (x9 + 1)) x408000 x408001 x422000 x422001) else (if x9 = x5 then (if 0 ≤ (wrap64 ((((rd_T74 x408001 x9).f1).size : Int) / 2)) then (if (wrap64 ((((rd_T74 x408001 x9).f1).size : Int) / 2)) ≤ (((rd_T74 x408001 x9).f1).size : Int) then (laws_FnFalls.l1 k x0 x4 x5 x7 ((rdOf ByteArray.empty x422000 x7).toList == (((rd_T74 x408001 x9).f1).extract 0 ((wrap64 ((((rd_T74 x408001 x9).f1).size : Int) / 2)) : Int).toNat).toList) (wrap64 (x9 + 1)) x408000 x408001 x422000 x422001) else (none)) else (none)) else (laws_FnFalls.l1 k x0 x4 x5 x7 false (wrap64 (x9 + 1)) x408000 x408001 x422000 x422001))) else (none)) else (none))) else (laws_FnFalls.l1 k x0 x4 x5 x7 x8 (wrap64 (x9 + 1)) x408000 x408001 x422000 x422001)) else (laws_FnFalls.l1 k x0 x4 x5 x7 x8 (wrap64 (x9 + 1)) x408000 x408001 x422000 x422001)) else (laws_FnFalls.l1 k x0 x4 x5 x7 x8 (wrap64 (x9 + 1)) x408000 x408001 x422000 x422001)) else (none)) else (if x8 = true then (laws_FnFalls.l0 k x0 x4 x5 (wrap64 (x7 + 1)) x408000 x408001 x422000 x422001) else (none))
end
def laws_FnFalls.f (k : Nat) (l0 : List Int) : Option (Bool) := (laws_big.f l0).bind fun t400 => (if t400 = true then (some true) else ((spec_DrawDisk.f k l0).bind fun bt401 => ((spec_DrawLeft.f k l0).bind fun t408 => ((spec_DrawPlaces.f k l0).bind fun t411 => (if 0 < (t411.length : Int) then ((impl_FallDisk.f k bt401.1 bt401.2 t408 (wrap64 ((Int.tmod (rd t411 0) 8) - 1))).bind fun bt415 => (laws_FnFalls.l0 k l0 t408 (wrap64 ((Int.tmod (rd t411 0) 8) - 1)) 0 bt401.1 bt401.2 bt415.1 bt415.2)) else (none))))))
theorem laws_FnFalls.mono_l : ∀ k, (∀ y0 y1 y2 y3 y4 y5 y6 y7, LeO (laws_FnFalls.l0 k y0 y1 y2 y3 y4 y5 y6 y7) (laws_FnFalls.l0 (k + 1) y0 y1 y2 y3 y4 y5 y6 y7)) ∧ (∀ y0 y1 y2 y3 y4 y5 y6 y7 y8 y9, LeO (laws_FnFalls.l1 k y0 y1 y2 y3 y4 y5 y6 y7 y8 y9) (laws_FnFalls.l1 (k + 1) y0 y1 y2 y3 y4 y5 y6 y7 y8 y9))
 | 0 => ⟨fun _ _ _ _ _ _ _ _ r h => by simp [laws_FnFalls.l0] at h, fun _ _ _ _ _ _ _ _ _ _ r h => by simp [laws_FnFalls.l1] at h⟩
 | k + 1 => by
  obtain ⟨ih0, ih1⟩ := laws_FnFalls.mono_l k
  refine ⟨?_, ?_⟩
  ·intro y0 y1 y2 y3 y4 y5 y6 y7
   unfold laws_FnFalls.l0
   repeat' first
   | (with_reducible exact ih0 _ _ _ _ _ _ _ _)
   | (with_reducible exact ih1 _ _ _ _ _ _ _ _ _ _)
   | (with_reducible exact impl_FallDisk.mono _ _ _ _ _)
   | (with_reducible exact laws_sameDisk.mono _ _ _ _ _)
   | (with_reducible exact laws_sameTexts.mono _ _ _)
   | (with_reducible exact spec_DrawDisk.mono _ _)
   | (with_reducible exact spec_DrawFallDisk.mono _ _)
   | (with_reducible exact spec_DrawLeft.mono _ _)
   | (with_reducible exact spec_DrawPlaces.mono _ _)
   | (with_reducible exact spec_FallDisk.mono _ _ _ _ _)
   | (with_reducible exact LeO.refl _)
   | (with_reducible exact LeO.none _)
   | (with_reducible refine LeO.ite ?_ ?_)
   | (with_reducible refine LeO.bind ?_ (fun _ => ?_))
   | exact ih0 _ _ _ _ _ _ _ _
   | exact ih1 _ _ _ _ _ _ _ _ _ _
   | exact impl_FallDisk.mono _ _ _ _ _
   | exact laws_sameDisk.mono _ _ _ _ _
   | exact laws_sameTexts.mono _ _ _
   | exact spec_DrawDisk.mono _ _
   | exact spec_DrawFallDisk.mono _ _
   | exact spec_DrawLeft.mono _ _
   | exact spec_DrawPlaces.mono _ _
   | exact spec_FallDisk.mono _ _ _ _ _
   | exact LeO.none _
   | refine LeO.ite ?_ ?_
   | refine LeO.bind ?_ (fun _ => ?_)
  ·intro y0 y1 y2 y3 y4 y5 y6 y7 y8 y9
   unfold laws_FnFalls.l1
   repeat' first
   | (with_reducible exact ih0 _ _ _ _ _ _ _ _)
   | (with_reducible exact ih1 _ _ _ _ _ _ _ _ _ _)
   | (with_reducible exact impl_FallDisk.mono _ _ _ _ _)
   | (with_reducible exact laws_sameDisk.mono _ _ _ _ _)
   | (with_reducible exact laws_sameTexts.mono _ _ _)
   | (with_reducible exact spec_DrawDisk.mono _ _)
   | (with_reducible exact spec_DrawFallDisk.mono _ _)
   | (with_reducible exact spec_DrawLeft.mono _ _)
   | (with_reducible exact spec_DrawPlaces.mono _ _)
   | (with_reducible exact spec_FallDisk.mono _ _ _ _ _)
   | (with_reducible exact LeO.refl _)
   | (with_reducible exact LeO.none _)
   | (with_reducible refine LeO.ite ?_ ?_)
   | (with_reducible refine LeO.bind ?_ (fun _ => ?_))
   | exact ih0 _ _ _ _ _ _ _ _
   | exact ih1 _ _ _ _ _ _ _ _ _ _
   | exact impl_FallDisk.mono _ _ _ _ _
   | exact laws_sameDisk.mono _ _ _ _ _
   | exact laws_sameTexts.mono _ _ _
   | exact spec_DrawDisk.mono _ _
   | exact spec_DrawFallDisk.mono _ _
   | exact spec_DrawLeft.mono _ _
   | exact spec_DrawPlaces.mono _ _
   | exact spec_FallDisk.mono _ _ _ _ _
   | exact LeO.none _
   | refine LeO.ite ?_ ?_
   | refine LeO.bind ?_ (fun _ => ?_)
theorem laws_FnFalls.mono : ∀ a0 k, LeO (laws_FnFalls.f k a0) (laws_FnFalls.f (k + 1) a0) := by
 intro a0 k
 obtain ⟨ih0, ih1⟩ := laws_FnFalls.mono_l k
 unfold laws_FnFalls.f
 repeat' first
   | (with_reducible exact ih0 _ _ _ _ _ _ _ _)
   | (with_reducible exact ih1 _ _ _ _ _ _ _ _ _ _)
   | (with_reducible exact impl_FallDisk.mono _ _ _ _ _)
   | (with_reducible exact laws_sameDisk.mono _ _ _ _ _)
   | (with_reducible exact laws_sameTexts.mono _ _ _)
   | (with_reducible exact spec_DrawDisk.mono _ _)
   | (with_reducible exact spec_DrawFallDisk.mono _ _)
   | (with_reducible exact spec_DrawLeft.mono _ _)
   | (with_reducible exact spec_DrawPlaces.mono _ _)
   | (with_reducible exact spec_FallDisk.mono _ _ _ _ _)
   | (with_reducible exact LeO.refl _)
   | (with_reducible exact LeO.none _)
   | (with_reducible refine LeO.ite ?_ ?_)
   | (with_reducible refine LeO.bind ?_ (fun _ => ?_))
   | exact ih0 _ _ _ _ _ _ _ _
   | exact ih1 _ _ _ _ _ _ _ _ _ _
   | exact impl_FallDisk.mono _ _ _ _ _
   | exact laws_sameDisk.mono _ _ _ _ _
   | exact laws_sameTexts.mono _ _ _
   | exact spec_DrawDisk.mono _ _
   | exact spec_DrawFallDisk.mono _ _
   | exact spec_DrawLeft.mono _ _
   | exact spec_DrawPlaces.mono _ _
   | exact spec_FallDisk.mono _ _ _ _ _
   | exact LeO.none _
   | refine LeO.ite ?_ ?_
   | refine LeO.bind ?_ (fun _ => ?_)
def laws_FnFalls.T10 : Bool × List (List Nat × List Nat) := (true, [([], []), ([0], [0]), ([], []), ([1, 2], [1, 2]), ([3], [3]), ([], []), ([5], [5]), ([], []), ([6, 7], [6, 7]), ([8], [8]), ([4, 9], [4, 9]), ([10, 0, 1, 2, 3, 4, 5, 6, 7, 8, 9, 10], [10])])
def laws_FnFalls.B10 : List Nat := [0, 1, 0, 7, 15, 0, 32, 0, 224, 480, 1023, 2047]
theorem laws_FnFalls.tab10 : rtab .any (opsOf Try.f9 10) = laws_FnFalls.T10 := by kernel_rfl
theorem laws_FnFalls.bits10 : waitsOk laws_FnFalls.T10.2 laws_FnFalls.B10 = true := by kernel_rfl
def laws_FnFalls.T16 : Bool × List (List Nat × List Nat) := (true, [([], []), ([0], [0]), ([1], [1]), ([2, 1], [1, 2]), ([1], [1]), ([3, 4, 1], [1, 3, 4]), ([5, 1], [1, 5]), ([1], [1]), ([6, 7, 1], [1, 6, 7]), ([1, 8], [1, 8]), ([9, 1], [9]), ([10], [10]), ([10], [10]), ([11, 12, 10], [10, 11, 12]), ([13, 10, 10], [10, 13]), ([14], [14]), ([15, 14], [14, 15]), ([14], [14]), ([16, 17, 14], [14, 16, 17]), ([18, 14], [14, 18]), ([14], [14]), ([14], [14]), ([21, 14], [14, 21]), ([22, 14], [14, 22]), ([20, 23, 14], [14, 20, 23]), ([19, 24, 14], [14, 19, 24]), ([14, 25, 10], [10, 14, 25]), ([10, 26], [10, 26]), ([27, 14, 0, 1, 2, 3, 4, 5, 6, 7, 8, 9, 10, 11, 12, 13, 14, 15, 16, 17, 18, 19, 20, 21, 22, 23, 24, 25, 26, 27], [0, 27])])
def laws_FnFalls.B16 : List Nat := [0, 1, 3, 7, 3, 31, 63, 3, 255, 511, 1023, 2047, 2047, 8191, 16383, 32767, 65535, 32767, 262143, 524287, 32767, 32767, 2129919, 6324223, 15761407, 33554431, 67108863, 134217727, 268435455]
theorem laws_FnFalls.tab16 : rtab .any (opsOf Try.f9 16) = laws_FnFalls.T16 := by kernel_rfl
theorem laws_FnFalls.bits16 : waitsOk laws_FnFalls.T16.2 laws_FnFalls.B16 = true := by kernel_rfl
def laws_FnFalls.T21 : Bool × List (List Nat × List Nat) := (true, [([], []), ([0], [0]), ([1], [1]), ([2], [2]), ([3], [3]), ([4], [4]), ([5, 4], [4, 5]), ([6, 4], [4, 6]), ([4], [4]), ([8, 4], [4, 8]), ([9, 4], [4, 9]), ([7, 10, 4], [4, 7, 10]), ([4, 11], [4, 11]), ([12, 4], [12]), ([13], [13]), ([14, 13], [13, 14]), ([13], [13]), ([16, 13], [13, 16]), ([15, 17, 13, 13], [13, 15, 17]), ([13, 18], [13, 18]), ([19, 18], [19]), ([20], [20]), ([20], [20]), ([20], [20]), ([21, 22, 23, 20, 20], [20, 21, 22, 23]), ([20], [20]), ([20], [20]), ([20], [20]), ([25, 26, 27, 24, 20], [20, 25, 26, 27]), ([24, 28, 28, 20], [20, 24, 28]), ([20, 29], [20, 29]), ([30, 29, 0, 1, 2, 3, 4, 5, 6, 7, 8, 9, 10, 11, 12, 13, 14, 15, 16, 17, 18, 19, 20, 21, 22, 23, 24, 25, 26, 27, 28, 29, 30], [30])])
def laws_FnFalls.B21 : List Nat := [0, 1, 3, 7, 15, 31, 63, 127, 31, 287, 799, 2047, 4095, 8191, 16383, 32767, 16383, 81919, 262143, 524287, 1048575, 2097151, 2097151, 2097151, 16777215, 2097151, 2097151, 2097151, 268435455, 536870911, 1073741823, 2147483647]
theorem laws_FnFalls.tab21 : rtab .any (opsOf Try.f9 21) = laws_FnFalls.T21 := by kernel_rfl
theorem laws_FnFalls.bits21 : waitsOk laws_FnFalls.T21.2 laws_FnFalls.B21 = true := by kernel_rfl
set_option maxHeartbeats 8000000 in
set_option maxRecDepth 100000 in
theorem laws_FnFalls.calls (k : Nat) (A0 : Option Addr) (c0 : Nat) (l0 : List Int) (r : Bool) (w : World) (hr0 : Kd.C (Kd.int .u8) w A0 l0.length l0) (hc0 : l0.length ≤ c0) (h : laws_FnFalls.f k l0 = some r) :
  Calls Try.prog 9 #[.slice A0 l0.length c0] w fun e w' => e = .returned (.bool r) ∧ Below w.heap.size w w' := by
 have hu36 := Try.underlying36
 have HR0 := zj hr0
 have HC0 := zj hc0
 clear hr0 hc0
 have HB := zj (Below.refl w.heap.size w)
 have H : ((laws_big.f l0).bind fun t400 => (if t400 = true then (some true) else ((spec_DrawDisk.f k l0).bind fun bt401 => ((spec_DrawLeft.f k l0).bind fun t408 => ((spec_DrawPlaces.f k l0).bind fun t411 => (if 0 < (t411.length : Int) then ((impl_FallDisk.f k bt401.1 bt401.2 t408 (wrap64 ((Int.tmod (rd t411 0) 8) - 1))).bind fun bt415 => (laws_FnFalls.l0 k l0 t408 (wrap64 ((Int.tmod (rd t411 0) 8) - 1)) 0 bt401.1 bt401.2 bt415.1 bt415.2)) else (none))))))) = some r := h
 clear h
 replace H := Option.bind_eq_some_iff.mp H
 obtain ⟨t400, A20, H⟩ := H
 replace H : (if t400 = true then (some true) else ((spec_DrawDisk.f k l0).bind fun bt401 => ((spec_DrawLeft.f k l0).bind fun t408 => ((spec_DrawPlaces.f k l0).bind fun t411 => (if 0 < (t411.length : Int) then ((impl_FallDisk.f k bt401.1 bt401.2 t408 (wrap64 ((Int.tmod (rd t411 0) 8) - 1))).bind fun bt415 => (laws_FnFalls.l0 k l0 t408 (wrap64 ((Int.tmod (rd t411 0) 8) - 1)) 0 bt401.1 bt401.2 bt415.1 bt415.2)) else (none)))))) = some r := H
 have A2 := zj A20
 clear A20
 by_cases c3 : t400 = true
 ·subst c3
  have H1 : (some true) = some r := by rw [if_pos rfl] at H; exact H
  clear H
  have H := H1
  clear H1
  obtain rfl := Option.some.inj H
  go_enter Try.func9, Try.ntmps9
  go_wp2_with (first | ((with_reducible refine gate_callee (f := 18) rfl ?_); refine goesL_ (some 16) rfl rfl Try.func18 (by kernel_rfl) rfl #[.slice A0 l0.length c0] rfl (by (try simp only [List.map_toArray, List.map_cons, List.map_nil]); first | done | rfl | (simp only [List.length_drop, List.length_take]; rfl)) ?_; (with_reducible refine (laws_big.calls _ _ l0 true _ ?side1 ?side2 A2.out).mono ?_); (case side1 => repeat (first | exact HR0.out | (with_reducible refine Kd.C_alloc ?_ _) | (with_reducible refine Kd.C_drewN ?_ _) | (with_reducible refine Kd.C_drew ?_))); (case side2 => exact HC0.out); rintro e w' ⟨rfl, ⟨nd, rfl⟩⟩; refine ⟨_, rfl, ?_⟩))
  go_ret
  exact ⟨by first | rfl | (simp [errW_none, errW_some] <;> rfl) | (simp [*, errW_none, errW_some] <;> rfl), by repeat (first | (with_reducible first | exact HB.out | apply zg | apply zh | apply zi) | exact HB.out)⟩
 ·replace c3 := Bool.eq_false_iff.mpr c3
  subst c3
  have H1 : ((spec_DrawDisk.f k l0).bind fun bt401 => ((spec_DrawLeft.f k l0).bind fun t408 => ((spec_DrawPlaces.f k l0).bind fun t411 => (if 0 < (t411.length : Int) then ((impl_FallDisk.f k bt401.1 bt401.2 t408 (wrap64 ((Int.tmod (rd t411 0) 8) - 1))).bind fun bt415 => (laws_FnFalls.l0 k l0 t408 (wrap64 ((Int.tmod (rd t411 0) 8) - 1)) 0 bt401.1 bt401.2 bt415.1 bt415.2)) else (none))))) = some r := by rw [if_neg (show ¬ (false = true) by decide)] at H; exact H
  clear H
  have H := H1
  clear H1
  replace H := Option.bind_eq_some_iff.mp H
  obtain ⟨⟨t401, t404⟩, A40, H⟩ := H
  replace H : ((spec_DrawLeft.f k l0).bind fun t408 => ((spec_DrawPlaces.f k l0).bind fun t411 => (if 0 < (t411.length : Int) then ((impl_FallDisk.f k t401 t404 t408 (wrap64 ((Int.tmod (rd t411 0) 8) - 1))).bind fun bt415 => (laws_FnFalls.l0 k l0 t408 (wrap64 ((Int.tmod (rd t411 0) 8) - 1)) 0 t401 t404 bt415.1 bt415.2)) else (none)))) = some r := H
  have A4 := zj A40
  clear A40
  replace H := Option.bind_eq_some_iff.mp H
  obtain ⟨t408, A50, H⟩ := H
  replace H : ((spec_DrawPlaces.f k l0).bind fun t411 => (if 0 < (t411.length : Int) then ((impl_FallDisk.f k t401 t404 t408 (wrap64 ((Int.tmod (rd t411 0) 8) - 1))).bind fun bt415 => (laws_FnFalls.l0 k l0 t408 (wrap64 ((Int.tmod (rd t411 0) 8) - 1)) 0 t401 t404 bt415.1 bt415.2)) else (none))) = some r := H
  have A5 := zj A50
  clear A50
  replace H := Option.bind_eq_some_iff.mp H
  obtain ⟨t411, A60, H⟩ := H
  replace H : (if 0 < (t411.length : Int) then ((impl_FallDisk.f k t401 t404 t408 (wrap64 ((Int.tmod (rd t411 0) 8) - 1))).bind fun bt415 => (laws_FnFalls.l0 k l0 t408 (wrap64 ((Int.tmod (rd t411 0) 8) - 1)) 0 t401 t404 bt415.1 bt415.2)) else (none)) = some r := H
  have A6 := zj A60
  clear A60
  by_cases c7 : 0 < (t411.length : Int)
  ·rw [if_pos c7] at H
   have c7b0 : decide (0 < (t411.length : Int)) = true := decide_eq_true c7
   have c7b1 : decide (0 < t411.length) = true := decide_eq_true (by omega)
   clear c7
   replace H := Option.bind_eq_some_iff.mp H
   obtain ⟨⟨t415, t418⟩, A80, H⟩ := H
   replace H : (laws_FnFalls.l0 k l0 t408 (wrap64 ((Int.tmod (rd t411 0) 8) - 1)) 0 t401 t404 t415 t418) = some r := H
   have A8 := zj A80
   clear A80
   have H' := zj H
   clear H
   go_enter Try.func9, Try.ntmps9
   go_wp2_with (first | ((with_reducible refine gate_callee (f := 18) rfl ?_); refine goesL_ (some 16) rfl rfl Try.func18 (by kernel_rfl) rfl #[.slice A0 l0.length c0] rfl (by (try simp only [List.map_toArray, List.map_cons, List.map_nil]); first | done | rfl | (simp only [List.length_drop, List.length_take]; rfl)) ?_; (with_reducible refine (laws_big.calls _ _ l0 false _ ?side1 ?side2 A2.out).mono ?_); (case side1 => repeat (first | exact HR0.out | (with_reducible refine Kd.C_alloc ?_ _) | (with_reducible refine Kd.C_drewN ?_ _) | (with_reducible refine Kd.C_drew ?_))); (case side2 => exact HC0.out); rintro e w' ⟨rfl, ⟨nd, rfl⟩⟩; refine ⟨_, rfl, ?_⟩) | ((with_reducible refine gate_callee (f := 19) rfl ?_); refine goesL_ (some 18) rfl rfl Try.func19 (by kernel_rfl) rfl #[.slice A0 l0.length c0] rfl (by (try simp only [List.map_toArray, List.map_cons, List.map_nil]); first | done | rfl | (simp only [List.length_drop, List.length_take]; rfl)) ?_; (with_reducible refine (spec_DrawDisk.calls k _ _ l0 t401 t404 _ ?side1 ?side2 A4.out).mono ?_); (case side1 => repeat (first | exact HR0.out | (with_reducible refine Kd.C_alloc ?_ _) | (with_reducible refine Kd.C_drewN ?_ _) | (with_reducible refine Kd.C_drew ?_))); (case side2 => exact HC0.out); rintro e w9 ⟨v402, v405, rfl, ho0, ho1, hb⟩; refine ⟨_, rfl, ?_⟩; have n0_ := zj (Kd.R_lower ho0 (zk (by repeat (first | (with_reducible first | exact HB.out | apply zg | apply zh | apply zi) | exact HB.out)))); have n1_ := zj (Kd.R_lower ho1 (zk (by repeat (first | (with_reducible first | exact HB.out | apply zg | apply zh | apply zi) | exact HB.out)))); have n2_ := zj (zl (by repeat (first | (with_reducible first | exact HB.out | apply zg | apply zh | apply zi) | exact HB.out)) hb); clear HB; have HO403 := n0_; have HO406 := n1_; have HB := n2_; clear n0_ n1_ n2_; (try clear hb); (try clear hb2); (try clear hk); (try clear hi); (try clear ho0); (try clear ho1)) | ((with_reducible refine gate_dst (N := 3) rfl ?_); (try (refine gate_guard (by rfl) ?_; dsimp only)); refine box_event ?hg (N := 3) ?hd (cs := #[.slice none 0 0, .slice none 0 0]) (t := 36) ?hr ?_; (case hd => rfl); (case hg => rfl); (case hr => first | (go_simp; done) | (go_simp; rfl)); intro gb407 hg w10 hbox hb; have n0_ := zj (zt (by (with_reducible repeat (first | apply zd | apply ze | apply zf)); exact HO403.out) hb); have n1_ := zj (zt (by (with_reducible repeat (first | apply zd | apply ze | apply zf)); exact HO406.out) hb); have n2_ := zj (zl (by repeat (first | (with_reducible first | exact HB.out | apply zg | apply zh | apply zi) | exact HB.out)) hb); have n3_ := zj (hbox); have n4_ := zj ((by rw [hg]; exact (zk (by repeat (first | (with_reducible first | exact HB.out | apply zg | apply zh | apply zi) | exact HB.out))) : w.heap.size ≤ gb407)); have n5_ := zj ((by rw [hg]; exact (zk (by repeat (first | (with_reducible first | exact HB.out | apply zg | apply zh | apply zi) | exact HB.out))) : w.heap.size ≤ gb407)); clear HO403; clear HO406; clear HB; have HO403 := n0_; have HO406 := n1_; have HB := n2_; have BK407 := n3_; have GW407 := n4_; have GE407 := n5_; clear n0_ n1_ n2_ n3_ n4_ n5_; clear hb hbox hg; obtain ⟨Ao11, co11, eo11⟩ := Kd.R_slice HO403.out; subst eo11; have hcz12_0 : w10.cell? ⟨gb407, 0, none⟩ = some (.slice none 0 0) := (zq BK407.out 0).trans rfl; have hcz12_1 : w10.cell? ⟨gb407, 1, none⟩ = some (.slice none 0 0) := (zq BK407.out 1).trans rfl; have hfz12_0 := zv BK407.out 0; have hfz12_1 := zv BK407.out 1; obtain ⟨Ao13, co13, eo13⟩ := Kd.R_slice HO406.out; subst eo13) | ((with_reducible refine gate_callee (f := 47) rfl ?_); refine goesL_ (some 20) rfl rfl Try.func47 (by kernel_rfl) rfl #[.slice A0 l0.length c0] rfl (by (try simp only [List.map_toArray, List.map_cons, List.map_nil]); first | done | rfl | (simp only [List.length_drop, List.length_take]; rfl)) ?_; (with_reducible refine (spec_DrawLeft.calls k _ _ l0 t408 _ ?side1 ?side2 A5.out).mono ?_); (case side1 => exact Kd.C_below HR0.out (by repeat (first | (with_reducible first | exact HB.out | apply zg | apply zh | apply zi | refine zs ?_ GE407.out) | exact HB.out))); (case side2 => exact HC0.out); rintro e w14 ⟨v409, rfl, ho0, hb⟩; refine ⟨_, rfl, ?_⟩; have n0_ := zj (zt (by (with_reducible repeat (first | apply zd | apply ze | apply zf)); exact (zm (zn (p := ⟨gb407, 1, none⟩) (zn (p := ⟨gb407, 0, none⟩) (zu HO403.out BK407.out (by decide)) (fun _ hk => hk.2) (.slice Ao11 t401.length co11)) (fun _ hk => hk.2) (.slice Ao13 t404.length co13)) (fun _ h_ => h_.1))) hb); have n1_ := zj (zt (by (with_reducible repeat (first | apply zd | apply ze | apply zf)); exact (zm (zn (p := ⟨gb407, 1, none⟩) (zn (p := ⟨gb407, 0, none⟩) (zu HO406.out BK407.out (by decide)) (fun _ hk => hk.2) (.slice Ao11 t401.length co11)) (fun _ hk => hk.2) (.slice Ao13 t404.length co13)) (fun _ h_ => h_.1))) hb); have n2_ := zj (Kd.R_lower ho0 (zk (by repeat (first | (with_reducible first | exact HB.out | apply zg | apply zh | apply zi | refine zs ?_ GE407.out) | exact HB.out)))); have n3_ := zj (zo (g := gb407) (o := .cells #[.slice Ao11 t401.length co11, .slice Ao13 t404.length co13] 36 (0, 0)) (by (with_reducible repeat (first | refine za ?_ _ | refine zb ?_ | refine zc ?_ _)); refine zp (cs := #[.slice Ao11 t401.length co11, .slice none 0 0]) ?_ 1 _ rfl; (with_reducible repeat (first | refine za ?_ _ | refine zb ?_ | refine zc ?_ _)); refine zp (cs := #[.slice none 0 0, .slice none 0 0]) ?_ 0 _ rfl; (with_reducible repeat (first | refine za ?_ _ | refine zb ?_ | refine zc ?_ _)); exact BK407.out) hb); have n4_ := zj (zl (by repeat (first | (with_reducible first | exact HB.out | apply zg | apply zh | apply zi | refine zs ?_ GE407.out) | exact HB.out)) hb); clear HO403; clear HO406; clear BK407; clear HB; have HO403 := n0_; have HO406 := n1_; have HO410 := n2_; have BK407 := n3_; have HB := n4_; clear n0_ n1_ n2_ n3_ n4_; (try clear hb); (try clear hb2); (try clear hk); (try clear hi); (try clear ho0)) | ((with_reducible refine gate_callee (f := 20) rfl ?_); refine goesL_ (some 22) rfl rfl Try.func20 (by kernel_rfl) rfl #[.slice A0 l0.length c0] rfl (by (try simp only [List.map_toArray, List.map_cons, List.map_nil]); first | done | rfl | (simp only [List.length_drop, List.length_take]; rfl)) ?_; (with_reducible refine (spec_DrawPlaces.calls k _ _ l0 t411 _ ?side1 ?side2 A6.out).mono ?_); (case side1 => repeat (first | exact (Kd.C_below HR0.out HB.out) | (with_reducible refine Kd.C_alloc ?_ _) | (with_reducible refine Kd.C_drewN ?_ _) | (with_reducible refine Kd.C_drew ?_))); (case side2 => exact HC0.out); rintro e w15 ⟨v412, rfl, ho0, hb⟩; refine ⟨_, rfl, ?_⟩; have n0_ := zj (zt (by (with_reducible repeat (first | apply zd | apply ze | apply zf)); exact HO403.out) hb); have n1_ := zj (zt (by (with_reducible repeat (first | apply zd | apply ze | apply zf)); exact HO406.out) hb); have n2_ := zj (zt (by (with_reducible repeat (first | apply zd | apply ze | apply zf)); exact HO410.out) hb); have n3_ := zj (Kd.R_lower ho0 (zk (by repeat (first | (with_reducible first | exact HB.out | apply zg | apply zh | apply zi | refine zs ?_ GE407.out) | exact HB.out)))); have n4_ := zj (zo (g := gb407) (o := .cells #[.slice Ao11 t401.length co11, .slice Ao13 t404.length co13] 36 (0, 0)) (by (with_reducible repeat (first | refine za ?_ _ | refine zb ?_ | refine zc ?_ _)); exact BK407.out) hb); have n5_ := zj (zl (by repeat (first | (with_reducible first | exact HB.out | apply zg | apply zh | apply zi | refine zs ?_ GE407.out) | exact HB.out)) hb); clear HO403; clear HO406; clear HO410; clear BK407; clear HB; have HO403 := n0_; have HO406 := n1_; have HO410 := n2_; have HO413 := n3_; have BK407 := n4_; have HB := n5_; clear n0_ n1_ n2_ n3_ n4_ n5_; (try clear hb); (try clear hb2); (try clear hk); (try clear hi); (try clear ho0); obtain ⟨Ao16, co16, eo16⟩ := Kd.R_slice HO413.out; subst eo16; have p414 : 0 ≤ (0 : Int) := (by omega); have q414 : 0 < (t411.length : Int) := of_decide_eq_true (by first | (with_reducible assumption) | assumption); obtain ⟨ad414, e414, hx414_0⟩ := Kd.at_int (Kd.R_reads' HO413.out).2.2 0 p414 q414; cases e414; have qi414 : (0 < t411.length) = True := eq_true (by omega); (try rw [show ((0 : Int)).toNat = 0 from rfl] at hx414_0); (try rw [Addr.add_zero'] at hx414_0); replace p414 := eq_true p414; replace q414 := eq_true q414; have hcz17_0 : w15.cell? ⟨gb407, 0, none⟩ = some (.slice Ao11 t401.length co11) := (zq BK407.out 0).trans rfl; have hcz17_1 : w15.cell? ⟨gb407, 1, none⟩ = some (.slice Ao13 t404.length co13) := (zq BK407.out 1).trans rfl; have hfz17_0 := zv BK407.out 0; have hfz17_1 := zv BK407.out 1; obtain ⟨Ao18, co18, eo18⟩ := Kd.R_slice HO410.out; subst eo18) | ((with_reducible refine gate_callee (f := 45) rfl ?_); refine goesL_ (some 30) rfl rfl Try.func45 (by kernel_rfl) rfl #[.agg #[.slice Ao11 t401.length co11, .slice Ao13 t404.length co13], .slice Ao18 t408.length co18, .int .i64 (wrap64 ((Int.tmod (rd t411 0) 8) - 1))] rfl (by (try simp only [List.map_toArray, List.map_cons, List.map_nil]); first | done | rfl | (simp only [List.length_drop, List.length_take]; rfl)) ?_; (with_reducible refine (impl_FallDisk.calls k _ _ t401 _ _ t404 _ _ t408 (wrap64 ((Int.tmod (rd t411 0) 8) - 1)) t415 t418 _ ?side1 ?side2 ?side3 ?side4 ?side5 ?side6 A8.out).mono ?_); (case side1 => repeat (first | exact (Kd.R_reads' HO403.out).2.2 | (with_reducible refine Kd.C_alloc ?_ _) | (with_reducible refine Kd.C_drewN ?_ _) | (with_reducible refine Kd.C_drew ?_))); (case side2 => exact (Kd.R_reads' HO403.out).2.1); (case side3 => repeat (first | exact (Kd.R_reads' HO406.out).2.2 | (with_reducible refine Kd.C_alloc ?_ _) | (with_reducible refine Kd.C_drewN ?_ _) | (with_reducible refine Kd.C_drew ?_))); (case side4 => exact (Kd.R_reads' HO406.out).2.1); (case side5 => repeat (first | exact (Kd.R_reads' HO410.out).2.2 | (with_reducible refine Kd.C_alloc ?_ _) | (with_reducible refine Kd.C_drewN ?_ _) | (with_reducible refine Kd.C_drew ?_))); (case side6 => exact (Kd.R_reads' HO410.out).2.1); rintro e w19 ⟨v416, v419, rfl, ho0, ho1, hb⟩; refine ⟨_, rfl, ?_⟩; have n0_ := zj (Kd.R_elder' (by (with_reducible repeat (first | apply zd | apply ze | apply zf)); exact HO403.out) (Kd.R_base ho0) hb); have n1_ := zj (Kd.R_elder' (by (with_reducible repeat (first | apply zd | apply ze | apply zf)); exact HO406.out) (Kd.R_base ho1) hb); have n2_ := zj (zt (by (with_reducible repeat (first | apply zd | apply ze | apply zf)); exact HO410.out) hb); have n3_ := zj (zt (by (with_reducible repeat (first | apply zd | apply ze | apply zf)); exact HO413.out) hb); have n4_ := zj (Kd.R_lower (Kd.R_new' ho0 (Kd.R_lt (by (with_reducible repeat (first | apply zd | apply ze | apply zf)); exact HO403.out))) (zk (by repeat (first | (with_reducible first | exact HB.out | apply zg | apply zh | apply zi | refine zs ?_ GE407.out) | exact HB.out)))); have n5_ := zj (Kd.R_lower (Kd.R_new' ho1 (Kd.R_lt (by (with_reducible repeat (first | apply zd | apply ze | apply zf)); exact HO406.out))) (zk (by repeat (first | (with_reducible first | exact HB.out | apply zg | apply zh | apply zi | refine zs ?_ GE407.out) | exact HB.out)))); have n6_ := zj (zo (g := gb407) (o := .cells #[.slice Ao11 t401.length co11, .slice Ao13 t404.length co13] 36 (0, 0)) (by (with_reducible repeat (first | refine za ?_ _ | refine zb ?_ | refine zc ?_ _)); exact BK407.out) hb); have n7_ := zj (zl (by repeat (first | (with_reducible first | exact HB.out | apply zg | apply zh | apply zi | refine zs ?_ GE407.out) | exact HB.out)) hb); clear HO403; clear HO406; clear HO410; clear HO413; clear BK407; clear HB; have HO403 := n0_; have HO406 := n1_; have HO410 := n2_; have HO413 := n3_; have HO417 := n4_; have HO420 := n5_; have BK407 := n6_; have HB := n7_; clear n0_ n1_ n2_ n3_ n4_ n5_ n6_ n7_; (try clear hb); (try clear hb2); (try clear hk); (try clear hi); (try clear ho0); (try clear ho1)) | ((with_reducible refine gate_dst (N := 6) rfl ?_); (try (refine gate_guard (by rfl) ?_; dsimp only)); refine box_event ?hg (N := 6) ?hd (cs := #[.slice none 0 0, .slice none 0 0]) (t := 36) ?hr ?_; (case hd => rfl); (case hg => rfl); (case hr => first | (go_simp; done) | (go_simp; rfl)); intro gb421 hg w20 hbox hb; have n0_ := zj (zt (by (with_reducible repeat (first | apply zd | apply ze | apply zf)); exact HO403.out) hb); have n1_ := zj (zt (by (with_reducible repeat (first | apply zd | apply ze | apply zf)); exact HO406.out) hb); have n2_ := zj (zt (by (with_reducible repeat (first | apply zd | apply ze | apply zf)); exact HO410.out) hb); have n3_ := zj (zt (by (with_reducible repeat (first | apply zd | apply ze | apply zf)); exact HO413.out) hb); have n4_ := zj (zt (by (with_reducible repeat (first | apply zd | apply ze | apply zf)); exact HO417.out) hb); have n5_ := zj (zt (by (with_reducible repeat (first | apply zd | apply ze | apply zf)); exact HO420.out) hb); have n6_ := zj (zo (g := gb407) (o := .cells #[.slice Ao11 t401.length co11, .slice Ao13 t404.length co13] 36 (0, 0)) (by (with_reducible repeat (first | refine za ?_ _ | refine zb ?_ | refine zc ?_ _)); exact BK407.out) hb); have n7_ := zj (zl (by repeat (first | (with_reducible first | exact HB.out | apply zg | apply zh | apply zi | refine zs ?_ GE407.out) | exact HB.out)) hb); have n8_ := zj (hbox); have n9_ := zj ((by rw [hg]; exact (zk (by repeat (first | (with_reducible first | exact HB.out | apply zg | apply zh | apply zi | refine zs ?_ GE407.out) | exact HB.out))) : w.heap.size ≤ gb421)); have n10_ := zj ((by rw [hg]; exact (zk (by repeat (first | (with_reducible first | exact HB.out | apply zg | apply zh | apply zi | refine zs ?_ GE407.out) | exact HB.out))) : w.heap.size ≤ gb421)); have n11_ := zj ((by rw [hg]; exact Nat.ne_of_lt (blk_lt (g := gb407) (o := .cells #[.slice Ao11 t401.length co11, .slice Ao13 t404.length co13] 36 (0, 0)) (by (with_reducible repeat (first | refine za ?_ _ | refine zb ?_ | refine zc ?_ _)); exact BK407.out)) : gb407 ≠ gb421)); have n12_ := zj ((by rw [hg]; exact Nat.ne_of_gt (blk_lt (g := gb407) (o := .cells #[.slice Ao11 t401.length co11, .slice Ao13 t404.length co13] 36 (0, 0)) (by (with_reducible repeat (first | refine za ?_ _ | refine zb ?_ | refine zc ?_ _)); exact BK407.out)) : gb421 ≠ gb407)); clear HO403; clear HO406; clear HO410; clear HO413; clear HO417; clear HO420; clear BK407; clear HB; have HO403 := n0_; have HO406 := n1_; have HO410 := n2_; have HO413 := n3_; have HO417 := n4_; have HO420 := n5_; have BK407 := n6_; have HB := n7_; have BK421 := n8_; have GW421 := n9_; have GE421 := n10_; have NB407_421 := n11_; have NB421_407 := n12_; clear n0_ n1_ n2_ n3_ n4_ n5_ n6_ n7_ n8_ n9_ n10_ n11_ n12_; clear hb hbox hg; obtain ⟨Ao21, co21, eo21⟩ := Kd.R_slice HO417.out; subst eo21; have hnb22 := NB421_407.out; have hnc22 := NB407_421.out; have hcz23_0 : w20.cell? ⟨gb421, 0, none⟩ = some (.slice none 0 0) := (zq BK421.out 0).trans rfl; have hcz23_1 : w20.cell? ⟨gb421, 1, none⟩ = some (.slice none 0 0) := (zq BK421.out 1).trans rfl; have hfz23_0 := zv BK421.out 0; have hfz23_1 := zv BK421.out 1; obtain ⟨Ao24, co24, eo24⟩ := Kd.R_slice HO420.out; subst eo24))
   go_loopg [7] k (fun kq v7 w' => ∃ (x7_1 : Int), v7 = .int .i64 x7_1 ∧ Aside0 (laws_FnFalls.l0 kq l0 t408 (wrap64 ((Int.tmod (rd t411 0) 8) - 1)) x7_1 t401 t404 t415 t418 = some r) ∧ Aside0 (kq ≤ k) ∧ Aside0 (Kd.R Kd.bool 4 w' w.heap.size (fun _ => True) (.slice Ao18 t408.length co18) t408) ∧ Aside0 (Kd.R Kd.string 9 w' w.heap.size (fun k_ => some k_ ≠ ((.slice Ao21 t415.length co21) : Value).ownBlock) (.slice Ao11 t401.length co11) t401) ∧ Aside0 (Kd.R k74 74 w' w.heap.size (fun k_ => some k_ ≠ ((.slice Ao24 t418.length co24) : Value).ownBlock) (.slice Ao13 t404.length co13) t404) ∧ Aside0 (Kd.R Kd.string 9 w' w.heap.size (fun k_ => some k_ ≠ ((.slice Ao11 t401.length co11) : Value).ownBlock) (.slice Ao21 t415.length co21) t415) ∧ Aside0 (Kd.R k74 74 w' w.heap.size (fun k_ => some k_ ≠ ((.slice Ao13 t404.length co13) : Value).ownBlock) (.slice Ao24 t418.length co24) t418) ∧ Aside0 (w'.heap[gb407]? = some (.cells #[(.slice Ao11 t401.length co11), (.slice Ao13 t404.length co13)] 36 (0, 0))) ∧ Aside0 (w'.heap[gb421]? = some (.cells #[(.slice Ao21 t415.length co21), (.slice Ao24 t418.length co24)] 36 (0, 0))) ∧ Aside0 (Below w.heap.size w w'))
   case atStart => exact ⟨(0), (by first | rfl | (simp; done) | (simp [*]; done)), H', ⟨Nat.le_refl _⟩, ⟨by (with_reducible repeat (first | apply zd | apply ze | apply zf)); exact zm (zn (p := ⟨gb421, 1, none⟩) (zn (p := ⟨gb421, 0, none⟩) (zu HO410.out BK421.out (by decide)) (fun _ hk => hk.2) (.slice Ao21 t415.length co21)) (fun _ hk => hk.2) (.slice Ao24 t418.length co24)) (fun _ hk => trivial)⟩, ⟨by (with_reducible repeat (first | apply zd | apply ze | apply zf)); exact zm (zn (p := ⟨gb421, 1, none⟩) (zn (p := ⟨gb421, 0, none⟩) (zu HO403.out BK421.out (by decide)) (fun _ hk => hk.2) (.slice Ao21 t415.length co21)) (fun _ hk => hk.2) (.slice Ao24 t418.length co24)) (fun _ hk => hk.1.2)⟩, ⟨by (with_reducible repeat (first | apply zd | apply ze | apply zf)); exact zm (zn (p := ⟨gb421, 1, none⟩) (zn (p := ⟨gb421, 0, none⟩) (zu HO406.out BK421.out (by decide)) (fun _ hk => hk.2) (.slice Ao21 t415.length co21)) (fun _ hk => hk.2) (.slice Ao24 t418.length co24)) (fun _ hk => hk.1.2)⟩, ⟨by (with_reducible repeat (first | apply zd | apply ze | apply zf)); exact zm (zn (p := ⟨gb421, 1, none⟩) (zn (p := ⟨gb421, 0, none⟩) (zu HO417.out BK421.out (by decide)) (fun _ hk => hk.2) (.slice Ao21 t415.length co21)) (fun _ hk => hk.2) (.slice Ao24 t418.length co24)) (fun _ hk => hk.1.2)⟩, ⟨by (with_reducible repeat (first | apply zd | apply ze | apply zf)); exact zm (zn (p := ⟨gb421, 1, none⟩) (zn (p := ⟨gb421, 0, none⟩) (zu HO420.out BK421.out (by decide)) (fun _ hk => hk.2) (.slice Ao21 t415.length co21)) (fun _ hk => hk.2) (.slice Ao24 t418.length co24)) (fun _ hk => hk.1.2)⟩, ⟨by (with_reducible repeat (first | refine za ?_ _ | refine zb ?_ | refine zc ?_ _)); refine zr ?_ NB407_421.out _; (with_reducible repeat (first | refine za ?_ _ | refine zb ?_ | refine zc ?_ _)); refine zr ?_ NB407_421.out _; (with_reducible repeat (first | refine za ?_ _ | refine zb ?_ | refine zc ?_ _)); exact BK407.out⟩, ⟨by (with_reducible repeat (first | refine za ?_ _ | refine zb ?_ | refine zc ?_ _)); refine zp (cs := #[.slice Ao21 t415.length co21, .slice none 0 0]) ?_ 1 _ rfl; (with_reducible repeat (first | refine za ?_ _ | refine zb ?_ | refine zc ?_ _)); refine zp (cs := #[.slice none 0 0, .slice none 0 0]) ?_ 0 _ rfl; (with_reducible repeat (first | refine za ?_ _ | refine zb ?_ | refine zc ?_ _)); exact BK421.out⟩, ⟨by repeat (first | (with_reducible first | exact HB.out | apply zg | apply zh | apply zi | refine zs ?_ GE407.out | refine zs ?_ GE421.out) | exact HB.out)⟩⟩
   case round =>
    clear H'
    try clear c1
    try clear c2
    try clear p2
    try clear c3
    try clear c4
    try clear p4
    try clear q4
    try clear hx4
    try clear qi4
    try clear p6
    try clear c7
    try clear c7b0
    try clear c7b1
    try clear c9
    try clear c18
    try clear c19
    try clear c20
    try clear c22
    try clear hcz12_0
    try clear hcz12_1
    try clear hcz17_0
    try clear hcz17_1
    try clear hcz23_0
    try clear hcz23_1
    try clear hfz12_0
    try clear hfz12_1
    try clear hfz17_0
    try clear hfz17_1
    try clear hfz23_0
    try clear hfz23_1
    try clear hx414_0
    try clear p414
    try clear q414
    obtain ⟨x7_1, rfl, HA, HK1, HO_4, HO_408000, HO_408001, HO_422000, HO_422001, BK407, BK421, HB⟩ := hrel
    cases gk with
    | zero => exact absurd HA.out (by simp [laws_FnFalls.l0])
    | succ k1 =>
     have H := HA.out
     clear HA
     simp only [laws_FnFalls.l0] at H
     by_cases c25 : x7_1 < (t401.length : Int)
     ·rw [if_pos c25] at H
      have c25b0 : decide (x7_1 < (t401.length : Int)) = true := decide_eq_true c25
      clear c25
      by_cases c26 : 0 ≤ x7_1
      ·rw [if_pos c26] at H
       have c26b0 : decide (0 ≤ x7_1) = true := decide_eq_true c26
       clear c26
       by_cases c27 : x7_1 < (t415.length : Int)
       ·rw [if_pos c27] at H
        have c27b0 : decide (x7_1 < (t415.length : Int)) = true := decide_eq_true c27
        clear c27
        have H' := zj H
        clear H
        have hnb28 := NB407_421.out
        have hnc28 := NB421_407.out
        have hcz29_0 : wr.cell? ⟨gb407, 0, none⟩ = some (.slice Ao11 t401.length co11) := (zq BK407.out 0).trans rfl
        have hcz29_1 : wr.cell? ⟨gb407, 1, none⟩ = some (.slice Ao13 t404.length co13) := (zq BK407.out 1).trans rfl
        have hfz29_0 := zv BK407.out 0
        have hfz29_1 := zv BK407.out 1
        try go_wp2
        have n0_ := zj (zf HO_4.out)
        have n1_ := zj (zf HO_408000.out)
        have n2_ := zj (zf HO_408001.out)
        have n3_ := zj (zf HO_422000.out)
        have n4_ := zj (zf HO_422001.out)
        have n5_ := zj (zb BK407.out)
        have n6_ := zj (zb BK421.out)
        have n7_ := zj (zi HB.out)
        clear HO_4
        clear HO_408000
        clear HO_408001
        clear HO_422000
        clear HO_422001
        clear BK407
        clear BK421
        clear HB
        have HO_4 := n0_
        have HO_408000 := n1_
        have HO_408001 := n2_
        have HO_422000 := n3_
        have HO_422001 := n4_
        have BK407 := n5_
        have BK421 := n6_
        have HB := n7_
        clear n0_ n1_ n2_ n3_ n4_ n5_ n6_ n7_
        have p422 : 0 ≤ (x7_1 : Int) := of_decide_eq_true (by first | (with_reducible assumption) | assumption)
        have q422 : x7_1 < (t415.length : Int) := of_decide_eq_true (by first | (with_reducible assumption) | assumption)
        obtain ⟨ad422, e422, hx422_0⟩ := Kd.at_string (Kd.R_reads' HO_422000.out).2.2 x7_1 p422 q422
        cases e422
        replace p422 := eq_true p422
        replace q422 := eq_true q422
        have p423 : 0 ≤ (x7_1 : Int) := of_decide_eq_true (by first | (with_reducible assumption) | assumption)
        have q423 : x7_1 < (t401.length : Int) := of_decide_eq_true (by first | (with_reducible assumption) | assumption)
        obtain ⟨ad423, e423, hx423_0⟩ := Kd.at_string (Kd.R_reads' HO_408000.out).2.2 x7_1 p423 q423
        cases e423
        replace p423 := eq_true p423
        replace q423 := eq_true q423
        refine start_ (n := 12) (S := fun w' => w'.cell? ⟨gb421, 0, none⟩ = some (.slice (some ad422) t415.length co21) ∧ w'.cell? ⟨gb421, 1, none⟩ = some (.slice Ao24 t418.length co24) ∧ w'.cell? ⟨gb407, 0, none⟩ = some (.slice (some ad423) t401.length co11) ∧ w'.cell? ⟨gb407, 1, none⟩ = some (.slice Ao13 t404.length co13) ∧ w'.cell? (ad422.add (x7_1).toNat) = some (.string (rdOf ByteArray.empty t415 x7_1)) ∧ w'.cell? (ad423.add (x7_1).toNat) = some (.string (rdOf ByteArray.empty t401 x7_1))) (ds := []) #[false, false, false, false, false, false, false, false, false, false, false, false] (by kernel_rfl) rfl rfl ⟨(zq BK421.out 0).trans rfl, (zq BK421.out 1).trans rfl, (zq BK407.out 0).trans rfl, (zq BK407.out 1).trans rfl, hx422_0, hx423_0⟩ (fun hHeld => ?_); refine with_tabW laws_FnFalls.tab10 laws_FnFalls.bits10 (fun HT_ HW_ => ?_)
        generalize wr.drew = w30 at HO_4 HO_408000 HO_408001 HO_422000 HO_422001 BK407 BK421 HB hx422_0 hx423_0 hHeld ⊢
        refine pure_ (i := 0) (N := some 38) (v := ?_) (a' := ?_) #[true, false, false, false, false, false, false, false, false, false, false, false] rfl rfl (any_of HT_.out (by kernel_rfl)) (fun _ _ _ h => h) (Or.inl ⟨by rfl, ?_⟩) ?_ ?_
        rotate_left
        ·intro w'
         go_simp
         with_reducible rfl
        rotate_left
        ·simp only [Act.put, List.setIfInBounds_toArray, List.set_cons_zero, List.set_cons_succ, i64_w, i32_w]
         rfl
        refine pure_ (i := 2) (N := some 40) (v := ?_) (a' := ?_) #[true, false, true, false, false, false, false, false, false, false, false, false] rfl rfl (any_of HT_.out (by kernel_rfl)) (fun _ _ _ h => h) (Or.inl ⟨by rfl, ?_⟩) ?_ ?_
        rotate_left
        ·intro w'
         go_simp
         with_reducible rfl
        rotate_left
        ·simp only [Act.put, List.setIfInBounds_toArray, List.set_cons_zero, List.set_cons_succ, i64_w, i32_w]
         rfl
        refine pure_ (i := 5) (N := some 43) (v := ?_) (a' := ?_) #[true, false, true, false, false, true, false, false, false, false, false, false] rfl rfl (any_of HT_.out (by kernel_rfl)) (fun _ _ _ h => h) (Or.inl ⟨by rfl, ?_⟩) ?_ ?_
        rotate_left
        ·intro w'
         go_simp
         with_reducible rfl
        rotate_left
        ·simp only [Act.put, List.setIfInBounds_toArray, List.set_cons_zero, List.set_cons_succ, i64_w, i32_w]
         rfl
        refine pure_ (i := 7) (N := some 45) (v := ?_) (a' := ?_) #[true, false, true, false, false, true, false, true, false, false, false, false] rfl rfl (any_of HT_.out (by kernel_rfl)) (fun _ _ _ h => h) (Or.inl ⟨by rfl, ?_⟩) ?_ ?_
        rotate_left
        ·intro w'
         go_simp
         with_reducible rfl
        rotate_left
        ·simp only [Act.put, List.setIfInBounds_toArray, List.set_cons_zero, List.set_cons_succ, i64_w, i32_w]
         rfl
        refine take_ (i := 1) (N := some 39) (v := ?_) (a' := ?_) #[true, true, true, false, false, true, false, true, false, false, false, false] rfl rfl (take_ofW HT_.out HW_.out (by kernel_rfl)) (fun _ _ _ h => h) (Or.inl ⟨by rfl, ?_⟩) hHeld ?_ ?_
        rotate_left
        ·rintro w' ⟨s0, s1, s2, s3, s4, s5⟩
         go_simp
         with_reducible rfl
        rotate_left
        ·simp only [Act.put, List.setIfInBounds_toArray, List.set_cons_zero, List.set_cons_succ, i64_w, i32_w]
         rfl
        refine pure_ (i := 3) (N := some 41) (v := ?_) (a' := ?_) #[true, true, true, true, false, true, false, true, false, false, false, false] rfl rfl (any_of HT_.out (by kernel_rfl)) (fun _ _ _ h => h) (Or.inl ⟨by rfl, ?_⟩) ?_ ?_
        rotate_left
        ·intro w'
         go_simp
         with_reducible rfl
        rotate_left
        ·simp only [Act.put, List.setIfInBounds_toArray, List.set_cons_zero, List.set_cons_succ, i64_w, i32_w]
         rfl
        refine take_ (i := 4) (N := some 42) (v := ?_) (a' := ?_) #[true, true, true, true, true, true, false, true, false, false, false, false] rfl rfl (take_ofW HT_.out HW_.out (by kernel_rfl)) (fun _ _ _ h => h) (Or.inl ⟨by rfl, ?_⟩) hHeld ?_ ?_
        rotate_left
        ·rintro w' ⟨s0, s1, s2, s3, s4, s5⟩
         go_simp
         with_reducible rfl
        rotate_left
        ·simp only [Act.put, List.setIfInBounds_toArray, List.set_cons_zero, List.set_cons_succ, i64_w, i32_w]
         rfl
        refine take_ (i := 6) (N := some 44) (v := ?_) (a' := ?_) #[true, true, true, true, true, true, true, true, false, false, false, false] rfl rfl (take_ofW HT_.out HW_.out (by kernel_rfl)) (fun _ _ _ h => h) (Or.inl ⟨by rfl, ?_⟩) hHeld ?_ ?_
        rotate_left
        ·rintro w' ⟨s0, s1, s2, s3, s4, s5⟩
         go_simp
         with_reducible rfl
        rotate_left
        ·simp only [Act.put, List.setIfInBounds_toArray, List.set_cons_zero, List.set_cons_succ, i64_w, i32_w]
         rfl
        refine pure_ (i := 8) (N := some 46) (v := ?_) (a' := ?_) #[true, true, true, true, true, true, true, true, true, false, false, false] rfl rfl (any_of HT_.out (by kernel_rfl)) (fun _ _ _ h => h) (Or.inl ⟨by rfl, ?_⟩) ?_ ?_
        rotate_left
        ·intro w'
         go_simp
         with_reducible rfl
        rotate_left
        ·simp only [Act.put, List.setIfInBounds_toArray, List.set_cons_zero, List.set_cons_succ, i64_w, i32_w]
         rfl
        refine take_ (i := 9) (N := some 47) (v := ?_) (a' := ?_) #[true, true, true, true, true, true, true, true, true, true, false, false] rfl rfl (take_ofW HT_.out HW_.out (by kernel_rfl)) (fun _ _ _ h => h) (Or.inl ⟨by rfl, ?_⟩) hHeld ?_ ?_
        rotate_left
        ·rintro w' ⟨s0, s1, s2, s3, s4, s5⟩
         go_simp
         with_reducible rfl
        rotate_left
        ·simp only [Act.put, List.setIfInBounds_toArray, List.set_cons_zero, List.set_cons_succ, i64_w, i32_w]
         rfl
        refine pure_ (i := 10) (N := some 48) (v := ?_) (a' := ?_) #[true, true, true, true, true, true, true, true, true, true, true, false] rfl rfl (any_of HT_.out (by kernel_rfl)) (fun _ _ _ h => h) (Or.inl ⟨by rfl, ?_⟩) ?_ ?_
        rotate_left
        ·intro w'
         go_simp
         with_reducible rfl
        rotate_left
        ·simp only [Act.put, List.setIfInBounds_toArray, List.set_cons_zero, List.set_cons_succ, i64_w, i32_w]
         rfl
        refine pure_ (i := 11) (N := some 8) (v := ?_) (a' := ?_) #[true, true, true, true, true, true, true, true, true, true, true, true] rfl rfl (any_of HT_.out (by kernel_rfl)) (fun _ _ _ h => h) (Or.inl ⟨by rfl, ?_⟩) ?_ ?_
        rotate_left
        ·intro w'
         go_simp
         with_reducible rfl
        rotate_left
        ·simp only [Act.put, List.setIfInBounds_toArray, List.set_cons_zero, List.set_cons_succ, i64_w, i32_w]
         rfl
        refine done_ (done_of HT_.out (by kernel_rfl)) ?_
        try go_wp2
        go_loopg [8, 9] k1 (fun kq v8 v9 w' => ∃ (x8_2 : Bool) (x9_2 : Int), v8 = .bool x8_2 ∧ v9 = .int .i64 x9_2 ∧ Aside0 (laws_FnFalls.l1 kq l0 t408 (wrap64 ((Int.tmod (rd t411 0) 8) - 1)) x7_1 x8_2 x9_2 t401 t404 t415 t418 = some r) ∧ Aside0 (kq ≤ k1) ∧ Aside0 (Kd.R Kd.bool 4 w' w.heap.size (fun _ => True) (.slice Ao18 t408.length co18) t408) ∧ Aside0 (Kd.R Kd.string 9 w' w.heap.size (fun k_ => some k_ ≠ ((.slice (some ad422) t415.length co21) : Value).ownBlock) (.slice (some ad423) t401.length co11) t401) ∧ Aside0 (Kd.R k74 74 w' w.heap.size (fun k_ => some k_ ≠ ((.slice Ao24 t418.length co24) : Value).ownBlock) (.slice Ao13 t404.length co13) t404) ∧ Aside0 (Kd.R Kd.string 9 w' w.heap.size (fun k_ => some k_ ≠ ((.slice (some ad423) t401.length co11) : Value).ownBlock) (.slice (some ad422) t415.length co21) t415) ∧ Aside0 (Kd.R k74 74 w' w.heap.size (fun k_ => some k_ ≠ ((.slice Ao13 t404.length co13) : Value).ownBlock) (.slice Ao24 t418.length co24) t418) ∧ Aside0 (w'.heap[gb407]? = some (.cells #[(.slice (some ad423) t401.length co11), (.slice Ao13 t404.length co13)] 36 (0, 0))) ∧ Aside0 (w'.heap[gb421]? = some (.cells #[(.slice (some ad422) t415.length co21), (.slice Ao24 t418.length co24)] 36 (0, 0))) ∧ Aside0 (Below w.heap.size w w'))
        case atStart => exact ⟨(((rdOf ByteArray.empty t415 x7_1).toList == (rdOf ByteArray.empty t401 x7_1).toList)), (0), (by first | rfl | (simp; done) | (simp [*]; done)), (by first | rfl | (simp; done) | (simp [*]; done)), H', ⟨Nat.le_refl _⟩, ⟨by (with_reducible repeat (first | apply zd | apply ze | apply zf)); exact HO_4.out⟩, ⟨by (with_reducible repeat (first | apply zd | apply ze | apply zf)); exact HO_408000.out⟩, ⟨by (with_reducible repeat (first | apply zd | apply ze | apply zf)); exact HO_408001.out⟩, ⟨by (with_reducible repeat (first | apply zd | apply ze | apply zf)); exact HO_422000.out⟩, ⟨by (with_reducible repeat (first | apply zd | apply ze | apply zf)); exact HO_422001.out⟩, ⟨by (with_reducible repeat (first | refine za ?_ _ | refine zb ?_ | refine zc ?_ _)); exact BK407.out⟩, ⟨by (with_reducible repeat (first | refine za ?_ _ | refine zb ?_ | refine zc ?_ _)); exact BK421.out⟩, ⟨by repeat (first | (with_reducible first | exact HB.out | apply zg | apply zh | apply zi | refine zs ?_ GE407.out | refine zs ?_ GE421.out) | exact HB.out)⟩⟩
        case round =>
         clear H'
         try clear c1
         try clear c2
         try clear p2
         try clear c3
         try clear c4
         try clear p4
         try clear q4
         try clear hx4
         try clear qi4
         try clear p6
         try clear c7
         try clear c7b0
         try clear c7b1
         try clear c9
         try clear c18
         try clear c19
         try clear c20
         try clear c22
         try clear c25
         try clear c25b0
         try clear c26
         try clear c26b0
         try clear c27
         try clear c27b0
         try clear c28
         try clear hcz12_0
         try clear hcz12_1
         try clear hcz17_0
         try clear hcz17_1
         try clear hcz23_0
         try clear hcz23_1
         try clear hcz29_0
         try clear hcz29_1
         try clear hfz12_0
         try clear hfz12_1
         try clear hfz17_0
         try clear hfz17_1
         try clear hfz23_0
         try clear hfz23_1
         try clear hfz29_0
         try clear hfz29_1
         try clear hx414_0
         try clear hx422_0
         try clear hx423_0
         try clear p2
         try clear p4
         try clear p414
         try clear p422
         try clear p423
         try clear p6
         try clear q4
         try clear q414
         try clear q422
         try clear q423
         obtain ⟨x8_2, x9_2, rfl, rfl, HA, HK2, HO_4, HO_408000, HO_408001, HO_422000, HO_422001, BK407, BK421, HB⟩ := hrel
         cases gk with
         | zero => exact absurd HA.out (by simp [laws_FnFalls.l1])
         | succ k2 =>
          have H := HA.out
          clear HA
          simp only [laws_FnFalls.l1] at H
          by_cases c31 : x9_2 < (t404.length : Int)
          ·rw [if_pos c31] at H
           have c31b0 : decide (x9_2 < (t404.length : Int)) = true := decide_eq_true c31
           clear c31
           by_cases c32 : 0 ≤ x9_2
           ·rw [if_pos c32] at H
            have c32b0 : decide (0 ≤ x9_2) = true := decide_eq_true c32
            clear c32
            by_cases c33 : ((rd_T74 t404 x9_2).f0) = x7_1
            ·rw [if_pos c33] at H
             have c33b0 : (((rd_T74 t404 x9_2).f0) == x7_1) = true := beq_iff_eq.mpr c33
             have c33b1 : (((rd_T74 t404 x9_2).f0) != x7_1) = false := bne_eq_false_iff_eq.mpr c33
             clear c33
             by_cases c34 : x9_2 < (t408.length : Int)
             ·rw [if_pos c34] at H
              have c34b0 : decide (x9_2 < (t408.length : Int)) = true := decide_eq_true c34
              clear c34
              obtain ⟨bq35, hbq35⟩ : ∃ b_ : Bool, b_ = (rdOf false t408 x9_2) := ⟨_, rfl⟩
              replace H : (if bq35 = true then (if x8_2 = true then (laws_FnFalls.l1 k2 l0 t408 (wrap64 ((Int.tmod (rd t411 0) 8) - 1)) x7_1 true (wrap64 (x9_2 + 1)) t401 t404 t415 t418) else (if 0 ≤ x7_1 then (if x7_1 < (t415.length : Int) then (if (rdOf ByteArray.empty t415 x7_1).toList = ((rd_T74 t404 x9_2).f1).toList then (laws_FnFalls.l1 k2 l0 t408 (wrap64 ((Int.tmod (rd t411 0) 8) - 1)) x7_1 true (wrap64 (x9_2 + 1)) t401 t404 t415 t418) else (if x9_2 = (wrap64 ((Int.tmod (rd t411 0) 8) - 1)) then (if 0 ≤ (wrap64 ((((rd_T74 t404 x9_2).f1).size : Int) / 2)) then (if (wrap64 ((((rd_T74 t404 x9_2).f1).size : Int) / 2)) ≤ (((rd_T74 t404 x9_2).f1).size : Int) then (laws_FnFalls.l1 k2 l0 t408 (wrap64 ((Int.tmod (rd t411 0) 8) - 1)) x7_1 ((rdOf ByteArray.empty t415 x7_1).toList == (((rd_T74 t404 x9_2).f1).extract 0 ((wrap64 ((((rd_T74 t404 x9_2).f1).size : Int) / 2)) : Int).toNat).toList) (wrap64 (x9_2 + 1)) t401 t404 t415 t418) else (none)) else (none)) else (laws_FnFalls.l1 k2 l0 t408 (wrap64 ((Int.tmod (rd t411 0) 8) - 1)) x7_1 false (wrap64 (x9_2 + 1)) t401 t404 t415 t418))) else (none)) else (none))) else (laws_FnFalls.l1 k2 l0 t408 (wrap64 ((Int.tmod (rd t411 0) 8) - 1)) x7_1 x8_2 (wrap64 (x9_2 + 1)) t401 t404 t415 t418)) = some r := by rw [← hbq35] at H; exact H
              have Nbq35 := zj hbq35
              clear hbq35
              by_cases c36 : bq35 = true
              ·subst c36
               have H1 : (if x8_2 = true then (laws_FnFalls.l1 k2 l0 t408 (wrap64 ((Int.tmod (rd t411 0) 8) - 1)) x7_1 true (wrap64 (x9_2 + 1)) t401 t404 t415 t418) else (if 0 ≤ x7_1 then (if x7_1 < (t415.length : Int) then (if (rdOf ByteArray.empty t415 x7_1).toList = ((rd_T74 t404 x9_2).f1).toList then (laws_FnFalls.l1 k2 l0 t408 (wrap64 ((Int.tmod (rd t411 0) 8) - 1)) x7_1 true (wrap64 (x9_2 + 1)) t401 t404 t415 t418) else (if x9_2 = (wrap64 ((Int.tmod (rd t411 0) 8) - 1)) then (if 0 ≤ (wrap64 ((((rd_T74 t404 x9_2).f1).size : Int) / 2)) then (if (wrap64 ((((rd_T74 t404 x9_2).f1).size : Int) / 2)) ≤ (((rd_T74 t404 x9_2).f1).size : Int) then (laws_FnFalls.l1 k2 l0 t408 (wrap64 ((Int.tmod (rd t411 0) 8) - 1)) x7_1 ((rdOf ByteArray.empty t415 x7_1).toList == (((rd_T74 t404 x9_2).f1).extract 0 ((wrap64 ((((rd_T74 t404 x9_2).f1).size : Int) / 2)) : Int).toNat).toList) (wrap64 (x9_2 + 1)) t401 t404 t415 t418) else (none)) else (none)) else (laws_FnFalls.l1 k2 l0 t408 (wrap64 ((Int.tmod (rd t411 0) 8) - 1)) x7_1 false (wrap64 (x9_2 + 1)) t401 t404 t415 t418))) else (none)) else (none))) = some r := by rw [if_pos rfl] at H; exact H
               clear H
               have H := H1
               clear H1
               by_cases c37 : x8_2 = true
               ·subst c37
                have H1 : (laws_FnFalls.l1 k2 l0 t408 (wrap64 ((Int.tmod (rd t411 0) 8) - 1)) x7_1 true (wrap64 (x9_2 + 1)) t401 t404 t415 t418) = some r := by rw [if_pos rfl] at H; exact H
                clear H
                have H := H1
                clear H1
                have H' := zj H
                clear H
                have hnb38 := NB407_421.out
                have hnc38 := NB421_407.out
                have hcz39_0 : wr.cell? ⟨gb407, 0, none⟩ = some (.slice (some ad423) t401.length co11) := (zq BK407.out 0).trans rfl
                have hcz39_1 : wr.cell? ⟨gb407, 1, none⟩ = some (.slice Ao13 t404.length co13) := (zq BK407.out 1).trans rfl
                have hfz39_0 := zv BK407.out 0
                have hfz39_1 := zv BK407.out 1
                have p424 : 0 ≤ (x9_2 : Int) := of_decide_eq_true (by first | (with_reducible assumption) | assumption)
                have q424 : x9_2 < (t404.length : Int) := of_decide_eq_true (by first | (with_reducible assumption) | assumption)
                obtain ⟨ad424, e424, hx424_0, hx424_1⟩ := at_T74 (Kd.R_reads' HO_408001.out).2.2 x9_2 p424 q424
                cases e424
                replace p424 := eq_true p424
                replace q424 := eq_true q424
                have p425 : 0 ≤ (x9_2 : Int) := of_decide_eq_true (by first | (with_reducible assumption) | assumption)
                have q425 : x9_2 < (t404.length : Int) := of_decide_eq_true (by first | (with_reducible assumption) | assumption)
                obtain ⟨ad425, e425, hx425_0, hx425_1⟩ := at_T74 (Kd.R_reads' HO_408001.out).2.2 x9_2 p425 q425
                obtain rfl : ad424 = ad425 := (by injection e425)
                replace p425 := eq_true p425
                replace q425 := eq_true q425
                have p426 : 0 ≤ (x9_2 : Int) := of_decide_eq_true (by first | (with_reducible assumption) | assumption)
                have q426 : x9_2 < (t408.length : Int) := of_decide_eq_true (by first | (with_reducible assumption) | assumption)
                obtain ⟨ad426, e426, hx426_0⟩ := Kd.at_bool (Kd.R_reads' HO_4.out).2.2 x9_2 p426 q426
                (try rw [← Nbq35.out] at hx426_0)
                cases e426
                replace p426 := eq_true p426
                replace q426 := eq_true q426
                try go_wp2
                have n0_ := zj (zf HO_4.out)
                have n1_ := zj (zf HO_408000.out)
                have n2_ := zj (zf HO_408001.out)
                have n3_ := zj (zf HO_422000.out)
                have n4_ := zj (zf HO_422001.out)
                have n5_ := zj (zb BK407.out)
                have n6_ := zj (zb BK421.out)
                have n7_ := zj (zi HB.out)
                clear HO_4
                clear HO_408000
                clear HO_408001
                clear HO_422000
                clear HO_422001
                clear BK407
                clear BK421
                clear HB
                have HO_4 := n0_
                have HO_408000 := n1_
                have HO_408001 := n2_
                have HO_422000 := n3_
                have HO_422001 := n4_
                have BK407 := n5_
                have BK421 := n6_
                have HB := n7_
                clear n0_ n1_ n2_ n3_ n4_ n5_ n6_ n7_
                refine start_ (n := 29) (S := fun w' => True) (ds := []) #[false, false, false, false, false, false, false, false, false, false, false, false, false, false, false, false, false, false, false, false, false, false, false, false, false, false, false, false, false] (by kernel_rfl) rfl rfl trivial (fun hHeld => ?_); refine with_tabW laws_FnFalls.tab16 laws_FnFalls.bits16 (fun HT_ HW_ => ?_)
                generalize wr.drew = w40 at HO_4 HO_408000 HO_408001 HO_422000 HO_422001 BK407 BK421 HB hHeld ⊢
                refine pure_ (i := 0) (N := some 82) (v := ?_) (a' := ?_) #[true, false, false, false, false, false, false, false, false, false, false, false, false, false, false, false, false, false, false, false, false, false, false, false, false, false, false, false, false] rfl rfl (any_of HT_.out (by kernel_rfl)) (fun _ _ _ h => h) (Or.inl ⟨by rfl, ?_⟩) ?_ ?_
                rotate_left
                ·intro w'
                 go_simp
                 with_reducible rfl
                rotate_left
                ·simp only [Act.put, List.setIfInBounds_toArray, List.set_cons_zero, List.set_cons_succ, i64_w, i32_w]
                 rfl
                refine pure_ (i := 1) (N := some 83) (v := ?_) (a' := ?_) #[true, true, false, false, false, false, false, false, false, false, false, false, false, false, false, false, false, false, false, false, false, false, false, false, false, false, false, false, false] rfl rfl (any_of HT_.out (by kernel_rfl)) (fun _ _ _ h => h) (Or.inl ⟨by rfl, ?_⟩) ?_ ?_
                rotate_left
                ·intro w'
                 go_simp
                 with_reducible rfl
                rotate_left
                ·simp only [Act.put, List.setIfInBounds_toArray, List.set_cons_zero, List.set_cons_succ, i64_w, i32_w]
                 rfl
                refine pure_ (i := 2) (N := some 84) (v := undef) (a' := ?_) #[true, true, true, false, false, false, false, false, false, false, false, false, false, false, false, false, false, false, false, false, false, false, false, false, false, false, false, false, false] rfl rfl (any_of HT_.out (by kernel_rfl)) (fun _ _ _ h => h) (Or.inr ⟨by rfl, rfl⟩) ?_ ?_
                rotate_left
                ·simp only [Act.put, List.setIfInBounds_toArray, List.set_cons_zero, List.set_cons_succ, i64_w, i32_w]
                 rfl
                refine pure_ (i := 3) (N := some 85) (v := undef) (a' := ?_) #[true, true, true, true, false, false, false, false, false, false, false, false, false, false, false, false, false, false, false, false, false, false, false, false, false, false, false, false, false] rfl rfl (any_of HT_.out (by kernel_rfl)) (fun _ _ _ h => h) (Or.inr ⟨by rfl, rfl⟩) ?_ ?_
                rotate_left
                ·simp only [Act.put, List.setIfInBounds_toArray, List.set_cons_zero, List.set_cons_succ, i64_w, i32_w]
                 rfl
                refine pure_ (i := 4) (N := some 86) (v := undef) (a' := ?_) #[true, true, true, true, true, false, false, false, false, false, false, false, false, false, false, false, false, false, false, false, false, false, false, false, false, false, false, false, false] rfl rfl (any_of HT_.out (by kernel_rfl)) (fun _ _ _ h => h) (Or.inr ⟨by rfl, rfl⟩) ?_ ?_
                rotate_left
                ·simp only [Act.put, List.setIfInBounds_toArray, List.set_cons_zero, List.set_cons_succ, i64_w, i32_w]
                 rfl
                refine pure_ (i := 5) (N := some 87) (v := undef) (a' := ?_) #[true, true, true, true, true, true, false, false, false, false, false, false, false, false, false, false, false, false, false, false, false, false, false, false, false, false, false, false, false] rfl rfl (any_of HT_.out (by kernel_rfl)) (fun _ _ _ h => h) (Or.inr ⟨by rfl, rfl⟩) ?_ ?_
                rotate_left
                ·simp only [Act.put, List.setIfInBounds_toArray, List.set_cons_zero, List.set_cons_succ, i64_w, i32_w]
                 rfl
                refine pure_ (i := 6) (N := some 88) (v := undef) (a' := ?_) #[true, true, true, true, true, true, true, false, false, false, false, false, false, false, false, false, false, false, false, false, false, false, false, false, false, false, false, false, false] rfl rfl (any_of HT_.out (by kernel_rfl)) (fun _ _ _ h => h) (Or.inr ⟨by rfl, rfl⟩) ?_ ?_
                rotate_left
                ·simp only [Act.put, List.setIfInBounds_toArray, List.set_cons_zero, List.set_cons_succ, i64_w, i32_w]
                 rfl
                refine pure_ (i := 7) (N := some 89) (v := undef) (a' := ?_) #[true, true, true, true, true, true, true, true, false, false, false, false, false, false, false, false, false, false, false, false, false, false, false, false, false, false, false, false, false] rfl rfl (any_of HT_.out (by kernel_rfl)) (fun _ _ _ h => h) (Or.inr ⟨by rfl, rfl⟩) ?_ ?_
                rotate_left
                ·simp only [Act.put, List.setIfInBounds_toArray, List.set_cons_zero, List.set_cons_succ, i64_w, i32_w]
                 rfl
                refine pure_ (i := 8) (N := some 90) (v := undef) (a' := ?_) #[true, true, true, true, true, true, true, true, true, false, false, false, false, false, false, false, false, false, false, false, false, false, false, false, false, false, false, false, false] rfl rfl (any_of HT_.out (by kernel_rfl)) (fun _ _ _ h => h) (Or.inr ⟨by rfl, rfl⟩) ?_ ?_
                rotate_left
                ·simp only [Act.put, List.setIfInBounds_toArray, List.set_cons_zero, List.set_cons_succ, i64_w, i32_w]
                 rfl
                refine pure_ (i := 9) (N := some 91) (v := ?_) (a' := ?_) #[true, true, true, true, true, true, true, true, true, true, false, false, false, false, false, false, false, false, false, false, false, false, false, false, false, false, false, false, false] rfl rfl (any_of HT_.out (by kernel_rfl)) (fun _ _ _ h => h) (Or.inl ⟨by rfl, ?_⟩) ?_ ?_
                rotate_left
                ·intro w'
                 go_simp
                 with_reducible rfl
                rotate_left
                ·simp only [Act.put, List.setIfInBounds_toArray, List.set_cons_zero, List.set_cons_succ, i64_w, i32_w]
                 rfl
                refine pure_ (i := 10) (N := some 92) (v := ?_) (a' := ?_) #[true, true, true, true, true, true, true, true, true, true, true, false, false, false, false, false, false, false, false, false, false, false, false, false, false, false, false, false, false] rfl rfl (any_of HT_.out (by kernel_rfl)) (fun _ _ _ h => h) (Or.inl ⟨by rfl, ?_⟩) ?_ ?_
                rotate_left
                ·intro w'
                 go_simp
                 with_reducible rfl
                rotate_left
                ·simp only [Act.put, List.setIfInBounds_toArray, List.set_cons_zero, List.set_cons_succ, i64_w, i32_w]
                 rfl
                refine pure_ (i := 11) (N := some 93) (v := undef) (a' := ?_) #[true, true, true, true, true, true, true, true, true, true, true, true, false, false, false, false, false, false, false, false, false, false, false, false, false, false, false, false, false] rfl rfl (any_of HT_.out (by kernel_rfl)) (fun _ _ _ h => h) (Or.inr ⟨by rfl, rfl⟩) ?_ ?_
                rotate_left
                ·simp only [Act.put, List.setIfInBounds_toArray, List.set_cons_zero, List.set_cons_succ, i64_w, i32_w]
                 rfl
                refine pure_ (i := 12) (N := some 94) (v := undef) (a' := ?_) #[true, true, true, true, true, true, true, true, true, true, true, true, true, false, false, false, false, false, false, false, false, false, false, false, false, false, false, false, false] rfl rfl (any_of HT_.out (by kernel_rfl)) (fun _ _ _ h => h) (Or.inr ⟨by rfl, rfl⟩) ?_ ?_
                rotate_left
                ·simp only [Act.put, List.setIfInBounds_toArray, List.set_cons_zero, List.set_cons_succ, i64_w, i32_w]
                 rfl
                refine pure_ (i := 13) (N := some 95) (v := undef) (a' := ?_) #[true, true, true, true, true, true, true, true, true, true, true, true, true, true, false, false, false, false, false, false, false, false, false, false, false, false, false, false, false] rfl rfl (any_of HT_.out (by kernel_rfl)) (fun _ _ _ h => h) (Or.inr ⟨by rfl, rfl⟩) ?_ ?_
                rotate_left
                ·simp only [Act.put, List.setIfInBounds_toArray, List.set_cons_zero, List.set_cons_succ, i64_w, i32_w]
                 rfl
                refine pure_ (i := 14) (N := some 96) (v := undef) (a' := ?_) #[true, true, true, true, true, true, true, true, true, true, true, true, true, true, true, false, false, false, false, false, false, false, false, false, false, false, false, false, false] rfl rfl (any_of HT_.out (by kernel_rfl)) (fun _ _ _ h => h) (Or.inr ⟨by rfl, rfl⟩) ?_ ?_
                rotate_left
                ·simp only [Act.put, List.setIfInBounds_toArray, List.set_cons_zero, List.set_cons_succ, i64_w, i32_w]
                 rfl
                refine pure_ (i := 15) (N := some 97) (v := undef) (a' := ?_) #[true, true, true, true, true, true, true, true, true, true, true, true, true, true, true, true, false, false, false, false, false, false, false, false, false, false, false, false, false] rfl rfl (any_of HT_.out (by kernel_rfl)) (fun _ _ _ h => h) (Or.inr ⟨by rfl, rfl⟩) ?_ ?_
                rotate_left
                ·simp only [Act.put, List.setIfInBounds_toArray, List.set_cons_zero, List.set_cons_succ, i64_w, i32_w]
                 rfl
                refine pure_ (i := 16) (N := some 98) (v := undef) (a' := ?_) #[true, true, true, true, true, true, true, true, true, true, true, true, true, true, true, true, true, false, false, false, false, false, false, false, false, false, false, false, false] rfl rfl (any_of HT_.out (by kernel_rfl)) (fun _ _ _ h => h) (Or.inr ⟨by rfl, rfl⟩) ?_ ?_
                rotate_left
                ·simp only [Act.put, List.setIfInBounds_toArray, List.set_cons_zero, List.set_cons_succ, i64_w, i32_w]
                 rfl
                refine pure_ (i := 17) (N := some 99) (v := undef) (a' := ?_) #[true, true, true, true, true, true, true, true, true, true, true, true, true, true, true, true, true, true, false, false, false, false, false, false, false, false, false, false, false] rfl rfl (any_of HT_.out (by kernel_rfl)) (fun _ _ _ h => h) (Or.inr ⟨by rfl, rfl⟩) ?_ ?_
                rotate_left
                ·simp only [Act.put, List.setIfInBounds_toArray, List.set_cons_zero, List.set_cons_succ, i64_w, i32_w]
                 rfl
                refine pure_ (i := 18) (N := some 100) (v := undef) (a' := ?_) #[true, true, true, true, true, true, true, true, true, true, true, true, true, true, true, true, true, true, true, false, false, false, false, false, false, false, false, false, false] rfl rfl (any_of HT_.out (by kernel_rfl)) (fun _ _ _ h => h) (Or.inr ⟨by rfl, rfl⟩) ?_ ?_
                rotate_left
                ·simp only [Act.put, List.setIfInBounds_toArray, List.set_cons_zero, List.set_cons_succ, i64_w, i32_w]
                 rfl
                refine pure_ (i := 19) (N := some 101) (v := undef) (a' := ?_) #[true, true, true, true, true, true, true, true, true, true, true, true, true, true, true, true, true, true, true, true, false, false, false, false, false, false, false, false, false] rfl rfl (any_of HT_.out (by kernel_rfl)) (fun _ _ _ h => h) (Or.inr ⟨by rfl, rfl⟩) ?_ ?_
                rotate_left
                ·simp only [Act.put, List.setIfInBounds_toArray, List.set_cons_zero, List.set_cons_succ, i64_w, i32_w]
                 rfl
                refine pure_ (i := 20) (N := some 102) (v := undef) (a' := ?_) #[true, true, true, true, true, true, true, true, true, true, true, true, true, true, true, true, true, true, true, true, true, false, false, false, false, false, false, false, false] rfl rfl (any_of HT_.out (by kernel_rfl)) (fun _ _ _ h => h) (Or.inr ⟨by rfl, rfl⟩) ?_ ?_
                rotate_left
                ·simp only [Act.put, List.setIfInBounds_toArray, List.set_cons_zero, List.set_cons_succ, i64_w, i32_w]
                 rfl
                refine pure_ (i := 21) (N := some 103) (v := undef) (a' := ?_) #[true, true, true, true, true, true, true, true, true, true, true, true, true, true, true, true, true, true, true, true, true, true, false, false, false, false, false, false, false] rfl rfl (any_of HT_.out (by kernel_rfl)) (fun _ _ _ h => h) (Or.inr ⟨by rfl, rfl⟩) ?_ ?_
                rotate_left
                ·simp only [Act.put, List.setIfInBounds_toArray, List.set_cons_zero, List.set_cons_succ, i64_w, i32_w]
                 rfl
                refine pure_ (i := 22) (N := some 104) (v := undef) (a' := ?_) #[true, true, true, true, true, true, true, true, true, true, true, true, true, true, true, true, true, true, true, true, true, true, true, false, false, false, false, false, false] rfl rfl (any_of HT_.out (by kernel_rfl)) (fun _ _ _ h => h) (Or.inr ⟨by rfl, rfl⟩) ?_ ?_
                rotate_left
                ·simp only [Act.put, List.setIfInBounds_toArray, List.set_cons_zero, List.set_cons_succ, i64_w, i32_w]
                 rfl
                refine pure_ (i := 23) (N := some 105) (v := undef) (a' := ?_) #[true, true, true, true, true, true, true, true, true, true, true, true, true, true, true, true, true, true, true, true, true, true, true, true, false, false, false, false, false] rfl rfl (any_of HT_.out (by kernel_rfl)) (fun _ _ _ h => h) (Or.inr ⟨by rfl, rfl⟩) ?_ ?_
                rotate_left
                ·simp only [Act.put, List.setIfInBounds_toArray, List.set_cons_zero, List.set_cons_succ, i64_w, i32_w]
                 rfl
                refine pure_ (i := 24) (N := some 106) (v := undef) (a' := ?_) #[true, true, true, true, true, true, true, true, true, true, true, true, true, true, true, true, true, true, true, true, true, true, true, true, true, false, false, false, false] rfl rfl (any_of HT_.out (by kernel_rfl)) (fun _ _ _ h => h) (Or.inr ⟨by rfl, rfl⟩) ?_ ?_
                rotate_left
                ·simp only [Act.put, List.setIfInBounds_toArray, List.set_cons_zero, List.set_cons_succ, i64_w, i32_w]
                 rfl
                refine pure_ (i := 25) (N := some 107) (v := undef) (a' := ?_) #[true, true, true, true, true, true, true, true, true, true, true, true, true, true, true, true, true, true, true, true, true, true, true, true, true, true, false, false, false] rfl rfl (any_of HT_.out (by kernel_rfl)) (fun _ _ _ h => h) (Or.inr ⟨by rfl, rfl⟩) ?_ ?_
                rotate_left
                ·simp only [Act.put, List.setIfInBounds_toArray, List.set_cons_zero, List.set_cons_succ, i64_w, i32_w]
                 rfl
                refine pure_ (i := 26) (N := some 108) (v := undef) (a' := ?_) #[true, true, true, true, true, true, true, true, true, true, true, true, true, true, true, true, true, true, true, true, true, true, true, true, true, true, true, false, false] rfl rfl (any_of HT_.out (by kernel_rfl)) (fun _ _ _ h => h) (Or.inr ⟨by rfl, rfl⟩) ?_ ?_
                rotate_left
                ·simp only [Act.put, List.setIfInBounds_toArray, List.set_cons_zero, List.set_cons_succ, i64_w, i32_w]
                 rfl
                refine pure_ (i := 27) (N := some 109) (v := ?_) (a' := ?_) #[true, true, true, true, true, true, true, true, true, true, true, true, true, true, true, true, true, true, true, true, true, true, true, true, true, true, true, true, false] rfl rfl (any_of HT_.out (by kernel_rfl)) (fun _ _ _ h => h) (Or.inl ⟨by rfl, ?_⟩) ?_ ?_
                rotate_left
                ·intro w'
                 go_simp
                 with_reducible rfl
                rotate_left
                ·simp only [Act.put, List.setIfInBounds_toArray, List.set_cons_zero, List.set_cons_succ, i64_w, i32_w]
                 rfl
                refine pure_ (i := 28) (N := some 8) (v := ?_) (a' := ?_) #[true, true, true, true, true, true, true, true, true, true, true, true, true, true, true, true, true, true, true, true, true, true, true, true, true, true, true, true, true] rfl rfl (any_of HT_.out (by kernel_rfl)) (fun _ _ _ h => h) (Or.inl ⟨by rfl, ?_⟩) ?_ ?_
                rotate_left
                ·intro w'
                 go_simp
                 with_reducible rfl
                rotate_left
                ·simp only [Act.put, List.setIfInBounds_toArray, List.set_cons_zero, List.set_cons_succ, i64_w, i32_w]
                 rfl
                refine done_ (done_of HT_.out (by kernel_rfl)) ?_
                try go_wp2
                go_roundg k2
                case measure => have := HK1.out; have := HK2.out; omega
                case rel => exact ⟨(true), (wrap64 (x9_2 + 1)), (by first | rfl | (simp; done) | (simp [*]; done)), (by first | rfl | (simp; done) | (simp [*]; done)), H', ⟨by have := HK1.out; have := HK2.out; omega⟩, ⟨by (with_reducible repeat (first | apply zd | apply ze | apply zf)); exact HO_4.out⟩, ⟨by (with_reducible repeat (first | apply zd | apply ze | apply zf)); exact HO_408000.out⟩, ⟨by (with_reducible repeat (first | apply zd | apply ze | apply zf)); exact HO_408001.out⟩, ⟨by (with_reducible repeat (first | apply zd | apply ze | apply zf)); exact HO_422000.out⟩, ⟨by (with_reducible repeat (first | apply zd | apply ze | apply zf)); exact HO_422001.out⟩, ⟨by (with_reducible repeat (first | refine za ?_ _ | refine zb ?_ | refine zc ?_ _)); exact BK407.out⟩, ⟨by (with_reducible repeat (first | refine za ?_ _ | refine zb ?_ | refine zc ?_ _)); exact BK421.out⟩, ⟨by repeat (first | (with_reducible first | exact HB.out | apply zg | apply zh | apply zi | refine zs ?_ GE407.out | refine zs ?_ GE421.out) | exact HB.out)⟩⟩
               ·replace c37 := Bool.eq_false_iff.mpr c37
                subst c37
                have H1 : (if 0 ≤ x7_1 then (if x7_1 < (t415.length : Int) then (if (rdOf ByteArray.empty t415 x7_1).toList = ((rd_T74 t404 x9_2).f1).toList then (laws_FnFalls.l1 k2 l0 t408 (wrap64 ((Int.tmod (rd t411 0) 8) - 1)) x7_1 true (wrap64 (x9_2 + 1)) t401 t404 t415 t418) else (if x9_2 = (wrap64 ((Int.tmod (rd t411 0) 8) - 1)) then (if 0 ≤ (wrap64 ((((rd_T74 t404 x9_2).f1).size : Int) / 2)) then (if (wrap64 ((((rd_T74 t404 x9_2).f1).size : Int) / 2)) ≤ (((rd_T74 t404 x9_2).f1).size : Int) then (laws_FnFalls.l1 k2 l0 t408 (wrap64 ((Int.tmod (rd t411 0) 8) - 1)) x7_1 ((rdOf ByteArray.empty t415 x7_1).toList == (((rd_T74 t404 x9_2).f1).extract 0 ((wrap64 ((((rd_T74 t404 x9_2).f1).size : Int) / 2)) : Int).toNat).toList) (wrap64 (x9_2 + 1)) t401 t404 t415 t418) else (none)) else (none)) else (laws_FnFalls.l1 k2 l0 t408 (wrap64 ((Int.tmod (rd t411 0) 8) - 1)) x7_1 false (wrap64 (x9_2 + 1)) t401 t404 t415 t418))) else (none)) else (none)) = some r := by rw [if_neg (show ¬ (false = true) by decide)] at H; exact H
                clear H
                have H := H1
                clear H1
                by_cases c41 : 0 ≤ x7_1
                ·rw [if_pos c41] at H
                 have c41b0 : decide (0 ≤ x7_1) = true := decide_eq_true c41
                 clear c41
                 by_cases c42 : x7_1 < (t415.length : Int)
                 ·rw [if_pos c42] at H
                  have c42b0 : decide (x7_1 < (t415.length : Int)) = true := decide_eq_true c42
                  clear c42
                  by_cases c43 : (rdOf ByteArray.empty t415 x7_1).toList = ((rd_T74 t404 x9_2).f1).toList
                  ·rw [if_pos c43] at H
                   have c43b0 : ((rdOf ByteArray.empty t415 x7_1).toList == ((rd_T74 t404 x9_2).f1).toList) = true := beq_iff_eq.mpr c43
                   have c43b1 : ((rdOf ByteArray.empty t415 x7_1).toList != ((rd_T74 t404 x9_2).f1).toList) = false := bne_eq_false_iff_eq.mpr c43
                   clear c43
                   have H' := zj H
                   clear H
                   have hnb44 := NB407_421.out
                   have hnc44 := NB421_407.out
                   have hcz45_0 : wr.cell? ⟨gb407, 0, none⟩ = some (.slice (some ad423) t401.length co11) := (zq BK407.out 0).trans rfl
                   have hcz45_1 : wr.cell? ⟨gb407, 1, none⟩ = some (.slice Ao13 t404.length co13) := (zq BK407.out 1).trans rfl
                   have hfz45_0 := zv BK407.out 0
                   have hfz45_1 := zv BK407.out 1
                   have p424 : 0 ≤ (x9_2 : Int) := of_decide_eq_true (by first | (with_reducible assumption) | assumption)
                   have q424 : x9_2 < (t404.length : Int) := of_decide_eq_true (by first | (with_reducible assumption) | assumption)
                   obtain ⟨ad424, e424, hx424_0, hx424_1⟩ := at_T74 (Kd.R_reads' HO_408001.out).2.2 x9_2 p424 q424
                   cases e424
                   replace p424 := eq_true p424
                   replace q424 := eq_true q424
                   have p425 : 0 ≤ (x9_2 : Int) := of_decide_eq_true (by first | (with_reducible assumption) | assumption)
                   have q425 : x9_2 < (t404.length : Int) := of_decide_eq_true (by first | (with_reducible assumption) | assumption)
                   obtain ⟨ad425, e425, hx425_0, hx425_1⟩ := at_T74 (Kd.R_reads' HO_408001.out).2.2 x9_2 p425 q425
                   obtain rfl : ad424 = ad425 := (by injection e425)
                   replace p425 := eq_true p425
                   replace q425 := eq_true q425
                   have p426 : 0 ≤ (x9_2 : Int) := of_decide_eq_true (by first | (with_reducible assumption) | assumption)
                   have q426 : x9_2 < (t408.length : Int) := of_decide_eq_true (by first | (with_reducible assumption) | assumption)
                   obtain ⟨ad426, e426, hx426_0⟩ := Kd.at_bool (Kd.R_reads' HO_4.out).2.2 x9_2 p426 q426
                   (try rw [← Nbq35.out] at hx426_0)
                   cases e426
                   replace p426 := eq_true p426
                   replace q426 := eq_true q426
                   try go_wp2
                   have n0_ := zj (zf HO_4.out)
                   have n1_ := zj (zf HO_408000.out)
                   have n2_ := zj (zf HO_408001.out)
                   have n3_ := zj (zf HO_422000.out)
                   have n4_ := zj (zf HO_422001.out)
                   have n5_ := zj (zb BK407.out)
                   have n6_ := zj (zb BK421.out)
                   have n7_ := zj (zi HB.out)
                   clear HO_4
                   clear HO_408000
                   clear HO_408001
                   clear HO_422000
                   clear HO_422001
                   clear BK407
                   clear BK421
                   clear HB
                   have HO_4 := n0_
                   have HO_408000 := n1_
                   have HO_408001 := n2_
                   have HO_422000 := n3_
                   have HO_422001 := n4_
                   have BK407 := n5_
                   have BK421 := n6_
                   have HB := n7_
                   clear n0_ n1_ n2_ n3_ n4_ n5_ n6_ n7_
                   have p427 : 0 ≤ (x7_1 : Int) := of_decide_eq_true (by first | (with_reducible assumption) | assumption)
                   have q427 : x7_1 < (t415.length : Int) := of_decide_eq_true (by first | (with_reducible assumption) | assumption)
                   obtain ⟨ad427, e427, hx427_0⟩ := Kd.at_string (Kd.R_reads' HO_422000.out).2.2 x7_1 p427 q427
                   obtain rfl : ad422 = ad427 := (by injection e427)
                   replace p427 := eq_true p427
                   replace q427 := eq_true q427
                   refine start_ (n := 29) (S := fun w' => w'.cell? ⟨gb421, 0, none⟩ = some (.slice (some ad422) t415.length co21) ∧ w'.cell? ⟨gb421, 1, none⟩ = some (.slice Ao24 t418.length co24) ∧ w'.cell? (ad422.add (x7_1).toNat) = some (.string (rdOf ByteArray.empty t415 x7_1))) (ds := []) #[false, false, false, false, false, false, false, false, false, false, false, false, false, false, false, false, false, false, false, false, false, false, false, false, false, false, false, false, false] (by kernel_rfl) rfl rfl ⟨(zq BK421.out 0).trans rfl, (zq BK421.out 1).trans rfl, hx427_0⟩ (fun hHeld => ?_); refine with_tabW laws_FnFalls.tab16 laws_FnFalls.bits16 (fun HT_ HW_ => ?_)
                   generalize wr.drew = w46 at HO_4 HO_408000 HO_408001 HO_422000 HO_422001 BK407 BK421 HB hx427_0 hHeld ⊢
                   refine pure_ (i := 0) (N := some 82) (v := ?_) (a' := ?_) #[true, false, false, false, false, false, false, false, false, false, false, false, false, false, false, false, false, false, false, false, false, false, false, false, false, false, false, false, false] rfl rfl (any_of HT_.out (by kernel_rfl)) (fun _ _ _ h => h) (Or.inl ⟨by rfl, ?_⟩) ?_ ?_
                   rotate_left
                   ·intro w'
                    go_simp
                    with_reducible rfl
                   rotate_left
                   ·simp only [Act.put, List.setIfInBounds_toArray, List.set_cons_zero, List.set_cons_succ, i64_w, i32_w]
                    rfl
                   refine pure_ (i := 1) (N := some 83) (v := ?_) (a' := ?_) #[true, true, false, false, false, false, false, false, false, false, false, false, false, false, false, false, false, false, false, false, false, false, false, false, false, false, false, false, false] rfl rfl (any_of HT_.out (by kernel_rfl)) (fun _ _ _ h => h) (Or.inl ⟨by rfl, ?_⟩) ?_ ?_
                   rotate_left
                   ·intro w'
                    go_simp
                    with_reducible rfl
                   rotate_left
                   ·simp only [Act.put, List.setIfInBounds_toArray, List.set_cons_zero, List.set_cons_succ, i64_w, i32_w]
                    rfl
                   refine pure_ (i := 2) (N := some 84) (v := ?_) (a' := ?_) #[true, true, true, false, false, false, false, false, false, false, false, false, false, false, false, false, false, false, false, false, false, false, false, false, false, false, false, false, false] rfl rfl (any_of HT_.out (by kernel_rfl)) (fun _ _ _ h => h) (Or.inl ⟨by rfl, ?_⟩) ?_ ?_
                   rotate_left
                   ·intro w'
                    go_simp
                    with_reducible rfl
                   rotate_left
                   ·simp only [Act.put, List.setIfInBounds_toArray, List.set_cons_zero, List.set_cons_succ, i64_w, i32_w]
                    rfl
                   refine pure_ (i := 4) (N := some 86) (v := ?_) (a' := ?_) #[true, true, true, false, true, false, false, false, false, false, false, false, false, false, false, false, false, false, false, false, false, false, false, false, false, false, false, false, false] rfl rfl (any_of HT_.out (by kernel_rfl)) (fun _ _ _ h => h) (Or.inl ⟨by rfl, ?_⟩) ?_ ?_
                   rotate_left
                   ·intro w'
                    go_simp
                    with_reducible rfl
                   rotate_left
                   ·simp only [Act.put, List.setIfInBounds_toArray, List.set_cons_zero, List.set_cons_succ, i64_w, i32_w]
                    rfl
                   refine pure_ (i := 7) (N := some 89) (v := ?_) (a' := ?_) #[true, true, true, false, true, false, false, true, false, false, false, false, false, false, false, false, false, false, false, false, false, false, false, false, false, false, false, false, false] rfl rfl (any_of HT_.out (by kernel_rfl)) (fun _ _ _ h => h) (Or.inl ⟨by rfl, ?_⟩) ?_ ?_
                   rotate_left
                   ·intro w'
                    go_simp
                    with_reducible rfl
                   rotate_left
                   ·simp only [Act.put, List.setIfInBounds_toArray, List.set_cons_zero, List.set_cons_succ, i64_w, i32_w]
                    rfl
                   refine take_ (i := 3) (N := some 85) (v := ?_) (a' := ?_) #[true, true, true, true, true, false, false, true, false, false, false, false, false, false, false, false, false, false, false, false, false, false, false, false, false, false, false, false, false] rfl rfl (take_ofW HT_.out HW_.out (by kernel_rfl)) (fun _ _ _ h => h) (Or.inl ⟨by rfl, ?_⟩) hHeld ?_ ?_
                   rotate_left
                   ·rintro w' ⟨s0, s1, s2⟩
                    go_simp
                    with_reducible rfl
                   rotate_left
                   ·simp only [Act.put, List.setIfInBounds_toArray, List.set_cons_zero, List.set_cons_succ, i64_w, i32_w]
                    rfl
                   refine pure_ (i := 5) (N := some 87) (v := ?_) (a' := ?_) #[true, true, true, true, true, true, false, true, false, false, false, false, false, false, false, false, false, false, false, false, false, false, false, false, false, false, false, false, false] rfl rfl (any_of HT_.out (by kernel_rfl)) (fun _ _ _ h => h) (Or.inl ⟨by rfl, ?_⟩) ?_ ?_
                   rotate_left
                   ·intro w'
                    go_simp
                    with_reducible rfl
                   rotate_left
                   ·simp only [Act.put, List.setIfInBounds_toArray, List.set_cons_zero, List.set_cons_succ, i64_w, i32_w]
                    rfl
                   refine take_ (i := 6) (N := some 88) (v := ?_) (a' := ?_) #[true, true, true, true, true, true, true, true, false, false, false, false, false, false, false, false, false, false, false, false, false, false, false, false, false, false, false, false, false] rfl rfl (take_ofW HT_.out HW_.out (by kernel_rfl)) (fun _ _ _ h => h) (Or.inl ⟨by rfl, ?_⟩) hHeld ?_ ?_
                   rotate_left
                   ·rintro w' ⟨s0, s1, s2⟩
                    go_simp
                    with_reducible rfl
                   rotate_left
                   ·simp only [Act.put, List.setIfInBounds_toArray, List.set_cons_zero, List.set_cons_succ, i64_w, i32_w]
                    rfl
                   refine pure_ (i := 8) (N := some 90) (v := ?_) (a' := ?_) #[true, true, true, true, true, true, true, true, true, false, false, false, false, false, false, false, false, false, false, false, false, false, false, false, false, false, false, false, false] rfl rfl (any_of HT_.out (by kernel_rfl)) (fun _ _ _ h => h) (Or.inl ⟨by rfl, ?_⟩) ?_ ?_
                   rotate_left
                   ·intro w'
                    go_simp
                    with_reducible rfl
                   rotate_left
                   ·simp only [Act.put, List.setIfInBounds_toArray, List.set_cons_zero, List.set_cons_succ, i64_w, i32_w]
                    rfl
                   refine pure_ (i := 9) (N := some 91) (v := ?_) (a' := ?_) #[true, true, true, true, true, true, true, true, true, true, false, false, false, false, false, false, false, false, false, false, false, false, false, false, false, false, false, false, false] rfl rfl (any_of HT_.out (by kernel_rfl)) (fun _ _ _ h => h) (Or.inl ⟨by rfl, ?_⟩) ?_ ?_
                   rotate_left
                   ·intro w'
                    go_simp
                    with_reducible rfl
                   rotate_left
                   ·simp only [Act.put, List.setIfInBounds_toArray, List.set_cons_zero, List.set_cons_succ, i64_w, i32_w]
                    rfl
                   refine pure_ (i := 10) (N := some 92) (v := ?_) (a' := ?_) #[true, true, true, true, true, true, true, true, true, true, true, false, false, false, false, false, false, false, false, false, false, false, false, false, false, false, false, false, false] rfl rfl (any_of HT_.out (by kernel_rfl)) (fun _ _ _ h => h) (Or.inl ⟨by rfl, ?_⟩) ?_ ?_
                   rotate_left
                   ·intro w'
                    go_simp
                    with_reducible rfl
                   rotate_left
                   ·simp only [Act.put, List.setIfInBounds_toArray, List.set_cons_zero, List.set_cons_succ, i64_w, i32_w]
                    rfl
                   refine pure_ (i := 11) (N := some 93) (v := undef) (a' := ?_) #[true, true, true, true, true, true, true, true, true, true, true, true, false, false, false, false, false, false, false, false, false, false, false, false, false, false, false, false, false] rfl rfl (any_of HT_.out (by kernel_rfl)) (fun _ _ _ h => h) (Or.inr ⟨by rfl, rfl⟩) ?_ ?_
                   rotate_left
                   ·simp only [Act.put, List.setIfInBounds_toArray, List.set_cons_zero, List.set_cons_succ, i64_w, i32_w]
                    rfl
                   refine pure_ (i := 12) (N := some 94) (v := undef) (a' := ?_) #[true, true, true, true, true, true, true, true, true, true, true, true, true, false, false, false, false, false, false, false, false, false, false, false, false, false, false, false, false] rfl rfl (any_of HT_.out (by kernel_rfl)) (fun _ _ _ h => h) (Or.inr ⟨by rfl, rfl⟩) ?_ ?_
                   rotate_left
                   ·simp only [Act.put, List.setIfInBounds_toArray, List.set_cons_zero, List.set_cons_succ, i64_w, i32_w]
                    rfl
                   refine pure_ (i := 13) (N := some 95) (v := undef) (a' := ?_) #[true, true, true, true, true, true, true, true, true, true, true, true, true, true, false, false, false, false, false, false, false, false, false, false, false, false, false, false, false] rfl rfl (any_of HT_.out (by kernel_rfl)) (fun _ _ _ h => h) (Or.inr ⟨by rfl, rfl⟩) ?_ ?_
                   rotate_left
                   ·simp only [Act.put, List.setIfInBounds_toArray, List.set_cons_zero, List.set_cons_succ, i64_w, i32_w]
                    rfl
                   refine pure_ (i := 14) (N := some 96) (v := undef) (a' := ?_) #[true, true, true, true, true, true, true, true, true, true, true, true, true, true, true, false, false, false, false, false, false, false, false, false, false, false, false, false, false] rfl rfl (any_of HT_.out (by kernel_rfl)) (fun _ _ _ h => h) (Or.inr ⟨by rfl, rfl⟩) ?_ ?_
                   rotate_left
                   ·simp only [Act.put, List.setIfInBounds_toArray, List.set_cons_zero, List.set_cons_succ, i64_w, i32_w]
                    rfl
                   refine pure_ (i := 15) (N := some 97) (v := undef) (a' := ?_) #[true, true, true, true, true, true, true, true, true, true, true, true, true, true, true, true, false, false, false, false, false, false, false, false, false, false, false, false, false] rfl rfl (any_of HT_.out (by kernel_rfl)) (fun _ _ _ h => h) (Or.inr ⟨by rfl, rfl⟩) ?_ ?_
                   rotate_left
                   ·simp only [Act.put, List.setIfInBounds_toArray, List.set_cons_zero, List.set_cons_succ, i64_w, i32_w]
                    rfl
                   refine pure_ (i := 16) (N := some 98) (v := undef) (a' := ?_) #[true, true, true, true, true, true, true, true, true, true, true, true, true, true, true, true, true, false, false, false, false, false, false, false, false, false, false, false, false] rfl rfl (any_of HT_.out (by kernel_rfl)) (fun _ _ _ h => h) (Or.inr ⟨by rfl, rfl⟩) ?_ ?_
                   rotate_left
                   ·simp only [Act.put, List.setIfInBounds_toArray, List.set_cons_zero, List.set_cons_succ, i64_w, i32_w]
                    rfl
                   refine pure_ (i := 17) (N := some 99) (v := undef) (a' := ?_) #[true, true, true, true, true, true, true, true, true, true, true, true, true, true, true, true, true, true, false, false, false, false, false, false, false, false, false, false, false] rfl rfl (any_of HT_.out (by kernel_rfl)) (fun _ _ _ h => h) (Or.inr ⟨by rfl, rfl⟩) ?_ ?_
                   rotate_left
                   ·simp only [Act.put, List.setIfInBounds_toArray, List.set_cons_zero, List.set_cons_succ, i64_w, i32_w]
                    rfl
                   refine pure_ (i := 18) (N := some 100) (v := undef) (a' := ?_) #[true, true, true, true, true, true, true, true, true, true, true, true, true, true, true, true, true, true, true, false, false, false, false, false, false, false, false, false, false] rfl rfl (any_of HT_.out (by kernel_rfl)) (fun _ _ _ h => h) (Or.inr ⟨by rfl, rfl⟩) ?_ ?_
                   rotate_left
                   ·simp only [Act.put, List.setIfInBounds_toArray, List.set_cons_zero, List.set_cons_succ, i64_w, i32_w]
                    rfl
                   refine pure_ (i := 19) (N := some 101) (v := undef) (a' := ?_) #[true, true, true, true, true, true, true, true, true, true, true, true, true, true, true, true, true, true, true, true, false, false, false, false, false, false, false, false, false] rfl rfl (any_of HT_.out (by kernel_rfl)) (fun _ _ _ h => h) (Or.inr ⟨by rfl, rfl⟩) ?_ ?_
                   rotate_left
                   ·simp only [Act.put, List.setIfInBounds_toArray, List.set_cons_zero, List.set_cons_succ, i64_w, i32_w]
                    rfl
                   refine pure_ (i := 20) (N := some 102) (v := undef) (a' := ?_) #[true, true, true, true, true, true, true, true, true, true, true, true, true, true, true, true, true, true, true, true, true, false, false, false, false, false, false, false, false] rfl rfl (any_of HT_.out (by kernel_rfl)) (fun _ _ _ h => h) (Or.inr ⟨by rfl, rfl⟩) ?_ ?_
                   rotate_left
                   ·simp only [Act.put, List.setIfInBounds_toArray, List.set_cons_zero, List.set_cons_succ, i64_w, i32_w]
                    rfl
                   refine pure_ (i := 21) (N := some 103) (v := undef) (a' := ?_) #[true, true, true, true, true, true, true, true, true, true, true, true, true, true, true, true, true, true, true, true, true, true, false, false, false, false, false, false, false] rfl rfl (any_of HT_.out (by kernel_rfl)) (fun _ _ _ h => h) (Or.inr ⟨by rfl, rfl⟩) ?_ ?_
                   rotate_left
                   ·simp only [Act.put, List.setIfInBounds_toArray, List.set_cons_zero, List.set_cons_succ, i64_w, i32_w]
                    rfl
                   refine pure_ (i := 22) (N := some 104) (v := undef) (a' := ?_) #[true, true, true, true, true, true, true, true, true, true, true, true, true, true, true, true, true, true, true, true, true, true, true, false, false, false, false, false, false] rfl rfl (any_of HT_.out (by kernel_rfl)) (fun _ _ _ h => h) (Or.inr ⟨by rfl, rfl⟩) ?_ ?_
                   rotate_left
                   ·simp only [Act.put, List.setIfInBounds_toArray, List.set_cons_zero, List.set_cons_succ, i64_w, i32_w]
                    rfl
                   refine pure_ (i := 23) (N := some 105) (v := undef) (a' := ?_) #[true, true, true, true, true, true, true, true, true, true, true, true, true, true, true, true, true, true, true, true, true, true, true, true, false, false, false, false, false] rfl rfl (any_of HT_.out (by kernel_rfl)) (fun _ _ _ h => h) (Or.inr ⟨by rfl, rfl⟩) ?_ ?_
                   rotate_left
                   ·simp only [Act.put, List.setIfInBounds_toArray, List.set_cons_zero, List.set_cons_succ, i64_w, i32_w]
                    rfl
                   refine pure_ (i := 24) (N := some 106) (v := undef) (a' := ?_) #[true, true, true, true, true, true, true, true, true, true, true, true, true, true, true, true, true, true, true, true, true, true, true, true, true, false, false, false, false] rfl rfl (any_of HT_.out (by kernel_rfl)) (fun _ _ _ h => h) (Or.inr ⟨by rfl, rfl⟩) ?_ ?_
                   rotate_left
                   ·simp only [Act.put, List.setIfInBounds_toArray, List.set_cons_zero, List.set_cons_succ, i64_w, i32_w]
                    rfl
                   refine pure_ (i := 25) (N := some 107) (v := undef) (a' := ?_) #[true, true, true, true, true, true, true, true, true, true, true, true, true, true, true, true, true, true, true, true, true, true, true, true, true, true, false, false, false] rfl rfl (any_of HT_.out (by kernel_rfl)) (fun _ _ _ h => h) (Or.inr ⟨by rfl, rfl⟩) ?_ ?_
                   rotate_left
                   ·simp only [Act.put, List.setIfInBounds_toArray, List.set_cons_zero, List.set_cons_succ, i64_w, i32_w]
                    rfl
                   refine pure_ (i := 26) (N := some 108) (v := undef) (a' := ?_) #[true, true, true, true, true, true, true, true, true, true, true, true, true, true, true, true, true, true, true, true, true, true, true, true, true, true, true, false, false] rfl rfl (any_of HT_.out (by kernel_rfl)) (fun _ _ _ h => h) (Or.inr ⟨by rfl, rfl⟩) ?_ ?_
                   rotate_left
                   ·simp only [Act.put, List.setIfInBounds_toArray, List.set_cons_zero, List.set_cons_succ, i64_w, i32_w]
                    rfl
                   refine pure_ (i := 27) (N := some 109) (v := ?_) (a' := ?_) #[true, true, true, true, true, true, true, true, true, true, true, true, true, true, true, true, true, true, true, true, true, true, true, true, true, true, true, true, false] rfl rfl (any_of HT_.out (by kernel_rfl)) (fun _ _ _ h => h) (Or.inl ⟨by rfl, ?_⟩) ?_ ?_
                   rotate_left
                   ·intro w'
                    go_simp
                    with_reducible rfl
                   rotate_left
                   ·simp only [Act.put, List.setIfInBounds_toArray, List.set_cons_zero, List.set_cons_succ, i64_w, i32_w]
                    rfl
                   refine pure_ (i := 28) (N := some 8) (v := ?_) (a' := ?_) #[true, true, true, true, true, true, true, true, true, true, true, true, true, true, true, true, true, true, true, true, true, true, true, true, true, true, true, true, true] rfl rfl (any_of HT_.out (by kernel_rfl)) (fun _ _ _ h => h) (Or.inl ⟨by rfl, ?_⟩) ?_ ?_
                   rotate_left
                   ·intro w'
                    go_simp
                    with_reducible rfl
                   rotate_left
                   ·simp only [Act.put, List.setIfInBounds_toArray, List.set_cons_zero, List.set_cons_succ, i64_w, i32_w]
                    rfl
                   refine done_ (done_of HT_.out (by kernel_rfl)) ?_
                   try go_wp2
                   go_roundg k2
                   case measure => have := HK1.out; have := HK2.out; omega
                   case rel => exact ⟨(true), (wrap64 (x9_2 + 1)), (by first | rfl | (simp; done) | (simp [*]; done)), (by first | rfl | (simp; done) | (simp [*]; done)), H', ⟨by have := HK1.out; have := HK2.out; omega⟩, ⟨by (with_reducible repeat (first | apply zd | apply ze | apply zf)); exact HO_4.out⟩, ⟨by (with_reducible repeat (first | apply zd | apply ze | apply zf)); exact HO_408000.out⟩, ⟨by (with_reducible repeat (first | apply zd | apply ze | apply zf)); exact HO_408001.out⟩, ⟨by (with_reducible repeat (first | apply zd | apply ze | apply zf)); exact HO_422000.out⟩, ⟨by (with_reducible repeat (first | apply zd | apply ze | apply zf)); exact HO_422001.out⟩, ⟨by (with_reducible repeat (first | refine za ?_ _ | refine zb ?_ | refine zc ?_ _)); exact BK407.out⟩, ⟨by (with_reducible repeat (first | refine za ?_ _ | refine zb ?_ | refine zc ?_ _)); exact BK421.out⟩, ⟨by repeat (first | (with_reducible first | exact HB.out | apply zg | apply zh | apply zi | refine zs ?_ GE407.out | refine zs ?_ GE421.out) | exact HB.out)⟩⟩
                  ·rw [if_neg c43] at H
                   have c43b0 : ((rdOf ByteArray.empty t415 x7_1).toList == ((rd_T74 t404 x9_2).f1).toList) = false := beq_eq_false_iff_ne.mpr c43
                   have c43b1 : ((rdOf ByteArray.empty t415 x7_1).toList != ((rd_T74 t404 x9_2).f1).toList) = true := bne_iff_ne.mpr c43
                   by_cases c47 : x9_2 = (wrap64 ((Int.tmod (rd t411 0) 8) - 1))
                   ·rw [if_pos c47] at H
                    have c47b0 : (x9_2 == (wrap64 ((Int.tmod (rd t411 0) 8) - 1))) = true := beq_iff_eq.mpr c47
                    have c47b1 : (x9_2 != (wrap64 ((Int.tmod (rd t411 0) 8) - 1))) = false := bne_eq_false_iff_eq.mpr c47
                    clear c47
                    obtain ⟨ji48, hji48⟩ : ∃ j_ : Int, (wrap64 ((((rd_T74 t404 x9_2).f1).size : Int) / 2)) = j_ := ⟨_, rfl⟩
                    replace H : (if 0 ≤ (ji48) then (if (ji48) ≤ (((rd_T74 t404 x9_2).f1).size : Int) then (laws_FnFalls.l1 k2 l0 t408 (wrap64 ((Int.tmod (rd t411 0) 8) - 1)) x7_1 ((rdOf ByteArray.empty t415 x7_1).toList == (((rd_T74 t404 x9_2).f1).extract 0 ((ji48) : Int).toNat).toList) (wrap64 (x9_2 + 1)) t401 t404 t415 t418) else (none)) else (none)) = some r := by first | (rw [hji48] at H; exact H) | (simp only [hji48] at H ⊢; exact H)
                    have hji48w : (IntKind.i64.wrap ((((rd_T74 t404 x9_2).f1).size : Int) / 2)) = ji48 := (i64_w _).trans hji48
                    by_cases c49 : 0 ≤ (ji48)
                    ·rw [if_pos c49] at H
                     have c49b0 := eq_true c49
                     have c49b1 : decide (0 ≤ (ji48)) = true := decide_eq_true c49
                     clear c49
                     by_cases c50 : (ji48) ≤ (((rd_T74 t404 x9_2).f1).size : Int)
                     ·rw [if_pos c50] at H
                      have c50b0 := eq_true c50
                      have c50b1 : decide ((ji48) ≤ (((rd_T74 t404 x9_2).f1).size : Int)) = true := decide_eq_true c50
                      clear c50
                      have H' := zj H
                      clear H
                      have hnb51 := NB407_421.out
                      have hnc51 := NB421_407.out
                      have hcz52_0 : wr.cell? ⟨gb407, 0, none⟩ = some (.slice (some ad423) t401.length co11) := (zq BK407.out 0).trans rfl
                      have hcz52_1 : wr.cell? ⟨gb407, 1, none⟩ = some (.slice Ao13 t404.length co13) := (zq BK407.out 1).trans rfl
                      have hfz52_0 := zv BK407.out 0
                      have hfz52_1 := zv BK407.out 1
                      have p424 : 0 ≤ (x9_2 : Int) := of_decide_eq_true (by first | (with_reducible assumption) | assumption)
                      have q424 : x9_2 < (t404.length : Int) := of_decide_eq_true (by first | (with_reducible assumption) | assumption)
                      obtain ⟨ad424, e424, hx424_0, hx424_1⟩ := at_T74 (Kd.R_reads' HO_408001.out).2.2 x9_2 p424 q424
                      cases e424
                      replace p424 := eq_true p424
                      replace q424 := eq_true q424
                      have p425 : 0 ≤ (x9_2 : Int) := of_decide_eq_true (by first | (with_reducible assumption) | assumption)
                      have q425 : x9_2 < (t404.length : Int) := of_decide_eq_true (by first | (with_reducible assumption) | assumption)
                      obtain ⟨ad425, e425, hx425_0, hx425_1⟩ := at_T74 (Kd.R_reads' HO_408001.out).2.2 x9_2 p425 q425
                      obtain rfl : ad424 = ad425 := (by injection e425)
                      replace p425 := eq_true p425
                      replace q425 := eq_true q425
                      have p426 : 0 ≤ (x9_2 : Int) := of_decide_eq_true (by first | (with_reducible assumption) | assumption)
                      have q426 : x9_2 < (t408.length : Int) := of_decide_eq_true (by first | (with_reducible assumption) | assumption)
                      obtain ⟨ad426, e426, hx426_0⟩ := Kd.at_bool (Kd.R_reads' HO_4.out).2.2 x9_2 p426 q426
                      (try rw [← Nbq35.out] at hx426_0)
                      cases e426
                      replace p426 := eq_true p426
                      replace q426 := eq_true q426
                      try go_wp2
                      have n0_ := zj (zf HO_4.out)
                      have n1_ := zj (zf HO_408000.out)
                      have n2_ := zj (zf HO_408001.out)
                      have n3_ := zj (zf HO_422000.out)
                      have n4_ := zj (zf HO_422001.out)
                      have n5_ := zj (zb BK407.out)
                      have n6_ := zj (zb BK421.out)
                      have n7_ := zj (zi HB.out)
                      clear HO_4
                      clear HO_408000
                      clear HO_408001
                      clear HO_422000
                      clear HO_422001
                      clear BK407
                      clear BK421
                      clear HB
                      have HO_4 := n0_
                      have HO_408000 := n1_
                      have HO_408001 := n2_
                      have HO_422000 := n3_
                      have HO_422001 := n4_
                      have BK407 := n5_
                      have BK421 := n6_
                      have HB := n7_
                      clear n0_ n1_ n2_ n3_ n4_ n5_ n6_ n7_
                      have p427 : 0 ≤ (x7_1 : Int) := of_decide_eq_true (by first | (with_reducible assumption) | assumption)
                      have q427 : x7_1 < (t415.length : Int) := of_decide_eq_true (by first | (with_reducible assumption) | assumption)
                      obtain ⟨ad427, e427, hx427_0⟩ := Kd.at_string (Kd.R_reads' HO_422000.out).2.2 x7_1 p427 q427
                      obtain rfl : ad422 = ad427 := (by injection e427)
                      replace p427 := eq_true p427
                      replace q427 := eq_true q427
                      have p428 : 0 ≤ (x7_1 : Int) := of_decide_eq_true (by first | (with_reducible assumption) | assumption)
                      have q428 : x7_1 < (t415.length : Int) := of_decide_eq_true (by first | (with_reducible assumption) | assumption)
                      obtain ⟨ad428, e428, hx428_0⟩ := Kd.at_string (Kd.R_reads' HO_422000.out).2.2 x7_1 p428 q428
                      obtain rfl : ad422 = ad428 := (by injection e428)
                      replace p428 := eq_true p428
                      replace q428 := eq_true q428
                      refine start_ (n := 29) (S := fun w' => w'.cell? ⟨gb421, 0, none⟩ = some (.slice (some ad422) t415.length co21) ∧ w'.cell? ⟨gb421, 1, none⟩ = some (.slice Ao24 t418.length co24) ∧ w'.cell? (ad422.add (x7_1).toNat) = some (.string (rdOf ByteArray.empty t415 x7_1)) ∧ w'.cell? (ad422.add (x7_1).toNat) = some (.string (rdOf ByteArray.empty t415 x7_1))) (ds := []) #[false, false, false, false, false, false, false, false, false, false, false, false, false, false, false, false, false, false, false, false, false, false, false, false, false, false, false, false, false] (by kernel_rfl) rfl rfl ⟨(zq BK421.out 0).trans rfl, (zq BK421.out 1).trans rfl, hx427_0, hx428_0⟩ (fun hHeld => ?_); refine with_tabW laws_FnFalls.tab16 laws_FnFalls.bits16 (fun HT_ HW_ => ?_)
                      generalize wr.drew = w53 at HO_4 HO_408000 HO_408001 HO_422000 HO_422001 BK407 BK421 HB hx427_0 hx428_0 hHeld ⊢
                      refine pure_ (i := 0) (N := some 82) (v := ?_) (a' := ?_) #[true, false, false, false, false, false, false, false, false, false, false, false, false, false, false, false, false, false, false, false, false, false, false, false, false, false, false, false, false] rfl rfl (any_of HT_.out (by kernel_rfl)) (fun _ _ _ h => h) (Or.inl ⟨by rfl, ?_⟩) ?_ ?_
                      rotate_left
                      ·intro w'
                       go_simp
                       with_reducible rfl
                      rotate_left
                      ·simp only [Act.put, List.setIfInBounds_toArray, List.set_cons_zero, List.set_cons_succ, i64_w, i32_w]
                       rfl
                      refine pure_ (i := 1) (N := some 83) (v := ?_) (a' := ?_) #[true, true, false, false, false, false, false, false, false, false, false, false, false, false, false, false, false, false, false, false, false, false, false, false, false, false, false, false, false] rfl rfl (any_of HT_.out (by kernel_rfl)) (fun _ _ _ h => h) (Or.inl ⟨by rfl, ?_⟩) ?_ ?_
                      rotate_left
                      ·intro w'
                       go_simp
                       with_reducible rfl
                      rotate_left
                      ·simp only [Act.put, List.setIfInBounds_toArray, List.set_cons_zero, List.set_cons_succ, i64_w, i32_w]
                       rfl
                      refine pure_ (i := 2) (N := some 84) (v := ?_) (a' := ?_) #[true, true, true, false, false, false, false, false, false, false, false, false, false, false, false, false, false, false, false, false, false, false, false, false, false, false, false, false, false] rfl rfl (any_of HT_.out (by kernel_rfl)) (fun _ _ _ h => h) (Or.inl ⟨by rfl, ?_⟩) ?_ ?_
                      rotate_left
                      ·intro w'
                       go_simp
                       with_reducible rfl
                      rotate_left
                      ·simp only [Act.put, List.setIfInBounds_toArray, List.set_cons_zero, List.set_cons_succ, i64_w, i32_w]
                       rfl
                      refine pure_ (i := 4) (N := some 86) (v := ?_) (a' := ?_) #[true, true, true, false, true, false, false, false, false, false, false, false, false, false, false, false, false, false, false, false, false, false, false, false, false, false, false, false, false] rfl rfl (any_of HT_.out (by kernel_rfl)) (fun _ _ _ h => h) (Or.inl ⟨by rfl, ?_⟩) ?_ ?_
                      rotate_left
                      ·intro w'
                       go_simp
                       with_reducible rfl
                      rotate_left
                      ·simp only [Act.put, List.setIfInBounds_toArray, List.set_cons_zero, List.set_cons_succ, i64_w, i32_w]
                       rfl
                      refine pure_ (i := 7) (N := some 89) (v := ?_) (a' := ?_) #[true, true, true, false, true, false, false, true, false, false, false, false, false, false, false, false, false, false, false, false, false, false, false, false, false, false, false, false, false] rfl rfl (any_of HT_.out (by kernel_rfl)) (fun _ _ _ h => h) (Or.inl ⟨by rfl, ?_⟩) ?_ ?_
                      rotate_left
                      ·intro w'
                       go_simp
                       with_reducible rfl
                      rotate_left
                      ·simp only [Act.put, List.setIfInBounds_toArray, List.set_cons_zero, List.set_cons_succ, i64_w, i32_w]
                       rfl
                      refine take_ (i := 3) (N := some 85) (v := ?_) (a' := ?_) #[true, true, true, true, true, false, false, true, false, false, false, false, false, false, false, false, false, false, false, false, false, false, false, false, false, false, false, false, false] rfl rfl (take_ofW HT_.out HW_.out (by kernel_rfl)) (fun _ _ _ h => h) (Or.inl ⟨by rfl, ?_⟩) hHeld ?_ ?_
                      rotate_left
                      ·rintro w' ⟨s0, s1, s2, s3⟩
                       go_simp
                       with_reducible rfl
                      rotate_left
                      ·simp only [Act.put, List.setIfInBounds_toArray, List.set_cons_zero, List.set_cons_succ, i64_w, i32_w]
                       rfl
                      refine pure_ (i := 5) (N := some 87) (v := ?_) (a' := ?_) #[true, true, true, true, true, true, false, true, false, false, false, false, false, false, false, false, false, false, false, false, false, false, false, false, false, false, false, false, false] rfl rfl (any_of HT_.out (by kernel_rfl)) (fun _ _ _ h => h) (Or.inl ⟨by rfl, ?_⟩) ?_ ?_
                      rotate_left
                      ·intro w'
                       go_simp
                       with_reducible rfl
                      rotate_left
                      ·simp only [Act.put, List.setIfInBounds_toArray, List.set_cons_zero, List.set_cons_succ, i64_w, i32_w]
                       rfl
                      refine take_ (i := 6) (N := some 88) (v := ?_) (a' := ?_) #[true, true, true, true, true, true, true, true, false, false, false, false, false, false, false, false, false, false, false, false, false, false, false, false, false, false, false, false, false] rfl rfl (take_ofW HT_.out HW_.out (by kernel_rfl)) (fun _ _ _ h => h) (Or.inl ⟨by rfl, ?_⟩) hHeld ?_ ?_
                      rotate_left
                      ·rintro w' ⟨s0, s1, s2, s3⟩
                       go_simp
                       with_reducible rfl
                      rotate_left
                      ·simp only [Act.put, List.setIfInBounds_toArray, List.set_cons_zero, List.set_cons_succ, i64_w, i32_w]
                       rfl
                      refine pure_ (i := 8) (N := some 90) (v := ?_) (a' := ?_) #[true, true, true, true, true, true, true, true, true, false, false, false, false, false, false, false, false, false, false, false, false, false, false, false, false, false, false, false, false] rfl rfl (any_of HT_.out (by kernel_rfl)) (fun _ _ _ h => h) (Or.inl ⟨by rfl, ?_⟩) ?_ ?_
                      rotate_left
                      ·intro w'
                       go_simp
                       with_reducible rfl
                      rotate_left
                      ·simp only [Act.put, List.setIfInBounds_toArray, List.set_cons_zero, List.set_cons_succ, i64_w, i32_w]
                       rfl
                      refine pure_ (i := 9) (N := some 91) (v := ?_) (a' := ?_) #[true, true, true, true, true, true, true, true, true, true, false, false, false, false, false, false, false, false, false, false, false, false, false, false, false, false, false, false, false] rfl rfl (any_of HT_.out (by kernel_rfl)) (fun _ _ _ h => h) (Or.inl ⟨by rfl, ?_⟩) ?_ ?_
                      rotate_left
                      ·intro w'
                       go_simp
                       with_reducible rfl
                      rotate_left
                      ·simp only [Act.put, List.setIfInBounds_toArray, List.set_cons_zero, List.set_cons_succ, i64_w, i32_w]
                       rfl
                      refine pure_ (i := 10) (N := some 92) (v := ?_) (a' := ?_) #[true, true, true, true, true, true, true, true, true, true, true, false, false, false, false, false, false, false, false, false, false, false, false, false, false, false, false, false, false] rfl rfl (any_of HT_.out (by kernel_rfl)) (fun _ _ _ h => h) (Or.inl ⟨by rfl, ?_⟩) ?_ ?_
                      rotate_left
                      ·intro w'
                       go_simp
                       with_reducible rfl
                      rotate_left
                      ·simp only [Act.put, List.setIfInBounds_toArray, List.set_cons_zero, List.set_cons_succ, i64_w, i32_w]
                       rfl
                      refine pure_ (i := 11) (N := some 93) (v := ?_) (a' := ?_) #[true, true, true, true, true, true, true, true, true, true, true, true, false, false, false, false, false, false, false, false, false, false, false, false, false, false, false, false, false] rfl rfl (any_of HT_.out (by kernel_rfl)) (fun _ _ _ h => h) (Or.inl ⟨by rfl, ?_⟩) ?_ ?_
                      rotate_left
                      ·intro w'
                       go_simp
                       with_reducible rfl
                      rotate_left
                      ·simp only [Act.put, List.setIfInBounds_toArray, List.set_cons_zero, List.set_cons_succ, i64_w, i32_w]
                       rfl
                      refine pure_ (i := 12) (N := some 94) (v := ?_) (a' := ?_) #[true, true, true, true, true, true, true, true, true, true, true, true, true, false, false, false, false, false, false, false, false, false, false, false, false, false, false, false, false] rfl rfl (any_of HT_.out (by kernel_rfl)) (fun _ _ _ h => h) (Or.inl ⟨by rfl, ?_⟩) ?_ ?_
                      rotate_left
                      ·intro w'
                       go_simp
                       with_reducible rfl
                      rotate_left
                      ·simp only [Act.put, List.setIfInBounds_toArray, List.set_cons_zero, List.set_cons_succ, i64_w, i32_w]
                       rfl
                      refine pure_ (i := 13) (N := some 95) (v := ?_) (a' := ?_) #[true, true, true, true, true, true, true, true, true, true, true, true, true, true, false, false, false, false, false, false, false, false, false, false, false, false, false, false, false] rfl rfl (any_of HT_.out (by kernel_rfl)) (fun _ _ _ h => h) (Or.inl ⟨by rfl, ?_⟩) ?_ ?_
                      rotate_left
                      ·intro w'
                       go_simp
                       with_reducible rfl
                      rotate_left
                      ·simp only [Act.put, List.setIfInBounds_toArray, List.set_cons_zero, List.set_cons_succ, i64_w, i32_w]
                       rfl
                      refine pure_ (i := 14) (N := some 96) (v := ?_) (a' := ?_) #[true, true, true, true, true, true, true, true, true, true, true, true, true, true, true, false, false, false, false, false, false, false, false, false, false, false, false, false, false] rfl rfl (any_of HT_.out (by kernel_rfl)) (fun _ _ _ h => h) (Or.inl ⟨by rfl, ?_⟩) ?_ ?_
                      rotate_left
                      ·intro w'
                       go_simp
                       with_reducible rfl
                      rotate_left
                      ·simp only [Act.put, List.setIfInBounds_toArray, List.set_cons_zero, List.set_cons_succ, i64_w, i32_w]
                       rfl
                      refine pure_ (i := 15) (N := some 97) (v := ?_) (a' := ?_) #[true, true, true, true, true, true, true, true, true, true, true, true, true, true, true, true, false, false, false, false, false, false, false, false, false, false, false, false, false] rfl rfl (any_of HT_.out (by kernel_rfl)) (fun _ _ _ h => h) (Or.inl ⟨by rfl, ?_⟩) ?_ ?_
                      rotate_left
                      ·intro w'
                       go_simp
                       with_reducible rfl
                      rotate_left
                      ·simp only [Act.put, List.setIfInBounds_toArray, List.set_cons_zero, List.set_cons_succ, i64_w, i32_w]
                       rfl
                      refine pure_ (i := 17) (N := some 99) (v := ?_) (a' := ?_) #[true, true, true, true, true, true, true, true, true, true, true, true, true, true, true, true, false, true, false, false, false, false, false, false, false, false, false, false, false] rfl rfl (any_of HT_.out (by kernel_rfl)) (fun _ _ _ h => h) (Or.inl ⟨by rfl, ?_⟩) ?_ ?_
                      rotate_left
                      ·intro w'
                       go_simp
                       with_reducible rfl
                      rotate_left
                      ·simp only [Act.put, List.setIfInBounds_toArray, List.set_cons_zero, List.set_cons_succ, i64_w, i32_w]
                       rfl
                      refine pure_ (i := 20) (N := some 102) (v := ?_) (a' := ?_) #[true, true, true, true, true, true, true, true, true, true, true, true, true, true, true, true, false, true, false, false, true, false, false, false, false, false, false, false, false] rfl rfl (any_of HT_.out (by kernel_rfl)) (fun _ _ _ h => h) (Or.inl ⟨by rfl, ?_⟩) ?_ ?_
                      rotate_left
                      ·intro w'
                       go_simp
                       with_reducible rfl
                      rotate_left
                      ·simp only [Act.put, List.setIfInBounds_toArray, List.set_cons_zero, List.set_cons_succ, i64_w, i32_w]
                       rfl
                      refine pure_ (i := 21) (N := some 103) (v := ?_) (a' := ?_) #[true, true, true, true, true, true, true, true, true, true, true, true, true, true, true, true, false, true, false, false, true, true, false, false, false, false, false, false, false] rfl rfl (any_of HT_.out (by kernel_rfl)) (fun _ _ _ h => h) (Or.inl ⟨by rfl, ?_⟩) ?_ ?_
                      rotate_left
                      ·intro w'
                       go_simp
                       with_reducible rfl
                      rotate_left
                      ·simp only [Act.put, List.setIfInBounds_toArray, List.set_cons_zero, List.set_cons_succ, i64_w, i32_w]
                       rfl
                      refine pure_ (i := 22) (N := some 104) (v := ?_) (a' := ?_) #[true, true, true, true, true, true, true, true, true, true, true, true, true, true, true, true, false, true, false, false, true, true, true, false, false, false, false, false, false] rfl rfl (any_of HT_.out (by kernel_rfl)) (fun _ _ _ h => h) (Or.inl ⟨by rfl, ?_⟩) ?_ ?_
                      rotate_left
                      ·intro w'
                       go_simp
                       with_reducible rfl
                      rotate_left
                      ·simp only [Act.put, List.setIfInBounds_toArray, List.set_cons_zero, List.set_cons_succ, i64_w, i32_w]
                       rfl
                      refine pure_ (i := 23) (N := some 105) (v := ?_) (a' := ?_) #[true, true, true, true, true, true, true, true, true, true, true, true, true, true, true, true, false, true, false, false, true, true, true, true, false, false, false, false, false] rfl rfl (any_of HT_.out (by kernel_rfl)) (fun _ _ _ h => h) (Or.inl ⟨by rfl, ?_⟩) ?_ ?_
                      rotate_left
                      ·intro w'
                       go_simp
                       with_reducible rfl
                      rotate_left
                      ·simp only [Act.put, List.setIfInBounds_toArray, List.set_cons_zero, List.set_cons_succ, i64_w, i32_w]
                       rfl
                      refine pure_ (i := 24) (N := some 106) (v := ?_) (a' := ?_) #[true, true, true, true, true, true, true, true, true, true, true, true, true, true, true, true, false, true, false, false, true, true, true, true, true, false, false, false, false] rfl rfl (any_of HT_.out (by kernel_rfl)) (fun _ _ _ h => h) (Or.inl ⟨by rfl, ?_⟩) ?_ ?_
                      rotate_left
                      ·intro w'
                       go_simp
                       with_reducible rfl
                      rotate_left
                      ·simp only [Act.put, List.setIfInBounds_toArray, List.set_cons_zero, List.set_cons_succ, i64_w, i32_w]
                       rfl
                      refine take_ (i := 16) (N := some 98) (v := ?_) (a' := ?_) #[true, true, true, true, true, true, true, true, true, true, true, true, true, true, true, true, true, true, false, false, true, true, true, true, true, false, false, false, false] rfl rfl (take_ofW HT_.out HW_.out (by kernel_rfl)) (fun _ _ _ h => h) (Or.inl ⟨by rfl, ?_⟩) hHeld ?_ ?_
                      rotate_left
                      ·rintro w' ⟨s0, s1, s2, s3⟩
                       go_simp
                       with_reducible rfl
                      rotate_left
                      ·simp only [Act.put, List.setIfInBounds_toArray, List.set_cons_zero, List.set_cons_succ, i64_w, i32_w]
                       rfl
                      refine pure_ (i := 18) (N := some 100) (v := ?_) (a' := ?_) #[true, true, true, true, true, true, true, true, true, true, true, true, true, true, true, true, true, true, true, false, true, true, true, true, true, false, false, false, false] rfl rfl (any_of HT_.out (by kernel_rfl)) (fun _ _ _ h => h) (Or.inl ⟨by rfl, ?_⟩) ?_ ?_
                      rotate_left
                      ·intro w'
                       go_simp
                       with_reducible rfl
                      rotate_left
                      ·simp only [Act.put, List.setIfInBounds_toArray, List.set_cons_zero, List.set_cons_succ, i64_w, i32_w]
                       rfl
                      refine take_ (i := 19) (N := some 101) (v := ?_) (a' := ?_) #[true, true, true, true, true, true, true, true, true, true, true, true, true, true, true, true, true, true, true, true, true, true, true, true, true, false, false, false, false] rfl rfl (take_ofW HT_.out HW_.out (by kernel_rfl)) (fun _ _ _ h => h) (Or.inl ⟨by rfl, ?_⟩) hHeld ?_ ?_
                      rotate_left
                      ·rintro w' ⟨s0, s1, s2, s3⟩
                       go_simp
                       with_reducible rfl
                      rotate_left
                      ·simp only [Act.put, List.setIfInBounds_toArray, List.set_cons_zero, List.set_cons_succ, i64_w, i32_w]
                       rfl
                      refine pure_ (i := 25) (N := some 107) (v := ?_) (a' := ?_) #[true, true, true, true, true, true, true, true, true, true, true, true, true, true, true, true, true, true, true, true, true, true, true, true, true, true, false, false, false] rfl rfl (any_of HT_.out (by kernel_rfl)) (fun _ _ _ h => h) (Or.inl ⟨by rfl, ?_⟩) ?_ ?_
                      rotate_left
                      ·intro w'
                       go_simp
                       with_reducible rfl
                      rotate_left
                      ·simp only [Act.put, List.setIfInBounds_toArray, List.set_cons_zero, List.set_cons_succ, i64_w, i32_w]
                       rfl
                      refine pure_ (i := 26) (N := some 108) (v := ?_) (a' := ?_) #[true, true, true, true, true, true, true, true, true, true, true, true, true, true, true, true, true, true, true, true, true, true, true, true, true, true, true, false, false] rfl rfl (any_of HT_.out (by kernel_rfl)) (fun _ _ _ h => h) (Or.inl ⟨by rfl, ?_⟩) ?_ ?_
                      rotate_left
                      ·intro w'
                       go_simp
                       with_reducible rfl
                      rotate_left
                      ·simp only [Act.put, List.setIfInBounds_toArray, List.set_cons_zero, List.set_cons_succ, i64_w, i32_w]
                       rfl
                      refine pure_ (i := 27) (N := some 109) (v := ?_) (a' := ?_) #[true, true, true, true, true, true, true, true, true, true, true, true, true, true, true, true, true, true, true, true, true, true, true, true, true, true, true, true, false] rfl rfl (any_of HT_.out (by kernel_rfl)) (fun _ _ _ h => h) (Or.inl ⟨by rfl, ?_⟩) ?_ ?_
                      rotate_left
                      ·intro w'
                       go_simp
                       with_reducible rfl
                      rotate_left
                      ·simp only [Act.put, List.setIfInBounds_toArray, List.set_cons_zero, List.set_cons_succ, i64_w, i32_w]
                       rfl
                      refine pure_ (i := 28) (N := some 8) (v := ?_) (a' := ?_) #[true, true, true, true, true, true, true, true, true, true, true, true, true, true, true, true, true, true, true, true, true, true, true, true, true, true, true, true, true] rfl rfl (any_of HT_.out (by kernel_rfl)) (fun _ _ _ h => h) (Or.inl ⟨by rfl, ?_⟩) ?_ ?_
                      rotate_left
                      ·intro w'
                       go_simp
                       with_reducible rfl
                      rotate_left
                      ·simp only [Act.put, List.setIfInBounds_toArray, List.set_cons_zero, List.set_cons_succ, i64_w, i32_w]
                       rfl
                      refine done_ (done_of HT_.out (by kernel_rfl)) ?_
                      try go_wp2
                      go_roundg k2
                      case measure => have := HK1.out; have := HK2.out; omega
                      case rel => exact ⟨(((rdOf ByteArray.empty t415 x7_1).toList == (((rd_T74 t404 x9_2).f1).extract 0 ((ji48) : Int).toNat).toList)), (wrap64 (x9_2 + 1)), (by first | rfl | (simp; done) | (simp only [← hji48] <;> (first | rfl | simp)) | (simp [*]; done)), (by first | rfl | (simp; done) | (simp [*]; done)), H', ⟨by have := HK1.out; have := HK2.out; omega⟩, ⟨by (with_reducible repeat (first | apply zd | apply ze | apply zf)); exact HO_4.out⟩, ⟨by (with_reducible repeat (first | apply zd | apply ze | apply zf)); exact HO_408000.out⟩, ⟨by (with_reducible repeat (first | apply zd | apply ze | apply zf)); exact HO_408001.out⟩, ⟨by (with_reducible repeat (first | apply zd | apply ze | apply zf)); exact HO_422000.out⟩, ⟨by (with_reducible repeat (first | apply zd | apply ze | apply zf)); exact HO_422001.out⟩, ⟨by (with_reducible repeat (first | refine za ?_ _ | refine zb ?_ | refine zc ?_ _)); exact BK407.out⟩, ⟨by (with_reducible repeat (first | refine za ?_ _ | refine zb ?_ | refine zc ?_ _)); exact BK421.out⟩, ⟨by repeat (first | (with_reducible first | exact HB.out | apply zg | apply zh | apply zi | refine zs ?_ GE407.out | refine zs ?_ GE421.out) | exact HB.out)⟩⟩
                     ·rw [if_neg c50] at H
                      exact absurd H (by simp)
                    ·rw [if_neg c49] at H
                     exact absurd H (by simp)
                   ·rw [if_neg c47] at H
                    have c47b0 : (x9_2 == (wrap64 ((Int.tmod (rd t411 0) 8) - 1))) = false := beq_eq_false_iff_ne.mpr c47
                    have c47b1 : (x9_2 != (wrap64 ((Int.tmod (rd t411 0) 8) - 1))) = true := bne_iff_ne.mpr c47
                    have H' := zj H
                    clear H
                    have hnb54 := NB407_421.out
                    have hnc54 := NB421_407.out
                    have hcz55_0 : wr.cell? ⟨gb407, 0, none⟩ = some (.slice (some ad423) t401.length co11) := (zq BK407.out 0).trans rfl
                    have hcz55_1 : wr.cell? ⟨gb407, 1, none⟩ = some (.slice Ao13 t404.length co13) := (zq BK407.out 1).trans rfl
                    have hfz55_0 := zv BK407.out 0
                    have hfz55_1 := zv BK407.out 1
                    have p424 : 0 ≤ (x9_2 : Int) := of_decide_eq_true (by first | (with_reducible assumption) | assumption)
                    have q424 : x9_2 < (t404.length : Int) := of_decide_eq_true (by first | (with_reducible assumption) | assumption)
                    obtain ⟨ad424, e424, hx424_0, hx424_1⟩ := at_T74 (Kd.R_reads' HO_408001.out).2.2 x9_2 p424 q424
                    cases e424
                    replace p424 := eq_true p424
                    replace q424 := eq_true q424
                    have p425 : 0 ≤ (x9_2 : Int) := of_decide_eq_true (by first | (with_reducible assumption) | assumption)
                    have q425 : x9_2 < (t404.length : Int) := of_decide_eq_true (by first | (with_reducible assumption) | assumption)
                    obtain ⟨ad425, e425, hx425_0, hx425_1⟩ := at_T74 (Kd.R_reads' HO_408001.out).2.2 x9_2 p425 q425
                    obtain rfl : ad424 = ad425 := (by injection e425)
                    replace p425 := eq_true p425
                    replace q425 := eq_true q425
                    have p426 : 0 ≤ (x9_2 : Int) := of_decide_eq_true (by first | (with_reducible assumption) | assumption)
                    have q426 : x9_2 < (t408.length : Int) := of_decide_eq_true (by first | (with_reducible assumption) | assumption)
                    obtain ⟨ad426, e426, hx426_0⟩ := Kd.at_bool (Kd.R_reads' HO_4.out).2.2 x9_2 p426 q426
                    (try rw [← Nbq35.out] at hx426_0)
                    cases e426
                    replace p426 := eq_true p426
                    replace q426 := eq_true q426
                    try go_wp2
                    have n0_ := zj (zf HO_4.out)
                    have n1_ := zj (zf HO_408000.out)
                    have n2_ := zj (zf HO_408001.out)
                    have n3_ := zj (zf HO_422000.out)
                    have n4_ := zj (zf HO_422001.out)
                    have n5_ := zj (zb BK407.out)
                    have n6_ := zj (zb BK421.out)
                    have n7_ := zj (zi HB.out)
                    clear HO_4
                    clear HO_408000
                    clear HO_408001
                    clear HO_422000
                    clear HO_422001
                    clear BK407
                    clear BK421
                    clear HB
                    have HO_4 := n0_
                    have HO_408000 := n1_
                    have HO_408001 := n2_
                    have HO_422000 := n3_
                    have HO_422001 := n4_
                    have BK407 := n5_
                    have BK421 := n6_
                    have HB := n7_
                    clear n0_ n1_ n2_ n3_ n4_ n5_ n6_ n7_
                    have p427 : 0 ≤ (x7_1 : Int) := of_decide_eq_true (by first | (with_reducible assumption) | assumption)
                    have q427 : x7_1 < (t415.length : Int) := of_decide_eq_true (by first | (with_reducible assumption) | assumption)
                    obtain ⟨ad427, e427, hx427_0⟩ := Kd.at_string (Kd.R_reads' HO_422000.out).2.2 x7_1 p427 q427
                    obtain rfl : ad422 = ad427 := (by injection e427)
                    replace p427 := eq_true p427
                    replace q427 := eq_true q427
                    refine start_ (n := 29) (S := fun w' => w'.cell? ⟨gb421, 0, none⟩ = some (.slice (some ad422) t415.length co21) ∧ w'.cell? ⟨gb421, 1, none⟩ = some (.slice Ao24 t418.length co24) ∧ w'.cell? (ad422.add (x7_1).toNat) = some (.string (rdOf ByteArray.empty t415 x7_1))) (ds := []) #[false, false, false, false, false, false, false, false, false, false, false, false, false, false, false, false, false, false, false, false, false, false, false, false, false, false, false, false, false] (by kernel_rfl) rfl rfl ⟨(zq BK421.out 0).trans rfl, (zq BK421.out 1).trans rfl, hx427_0⟩ (fun hHeld => ?_); refine with_tabW laws_FnFalls.tab16 laws_FnFalls.bits16 (fun HT_ HW_ => ?_)
                    generalize wr.drew = w56 at HO_4 HO_408000 HO_408001 HO_422000 HO_422001 BK407 BK421 HB hx427_0 hHeld ⊢
                    refine pure_ (i := 0) (N := some 82) (v := ?_) (a' := ?_) #[true, false, false, false, false, false, false, false, false, false, false, false, false, false, false, false, false, false, false, false, false, false, false, false, false, false, false, false, false] rfl rfl (any_of HT_.out (by kernel_rfl)) (fun _ _ _ h => h) (Or.inl ⟨by rfl, ?_⟩) ?_ ?_
                    rotate_left
                    ·intro w'
                     go_simp
                     with_reducible rfl
                    rotate_left
                    ·simp only [Act.put, List.setIfInBounds_toArray, List.set_cons_zero, List.set_cons_succ, i64_w, i32_w]
                     rfl
                    refine pure_ (i := 1) (N := some 83) (v := ?_) (a' := ?_) #[true, true, false, false, false, false, false, false, false, false, false, false, false, false, false, false, false, false, false, false, false, false, false, false, false, false, false, false, false] rfl rfl (any_of HT_.out (by kernel_rfl)) (fun _ _ _ h => h) (Or.inl ⟨by rfl, ?_⟩) ?_ ?_
                    rotate_left
                    ·intro w'
                     go_simp
                     with_reducible rfl
                    rotate_left
                    ·simp only [Act.put, List.setIfInBounds_toArray, List.set_cons_zero, List.set_cons_succ, i64_w, i32_w]
                     rfl
                    refine pure_ (i := 2) (N := some 84) (v := ?_) (a' := ?_) #[true, true, true, false, false, false, false, false, false, false, false, false, false, false, false, false, false, false, false, false, false, false, false, false, false, false, false, false, false] rfl rfl (any_of HT_.out (by kernel_rfl)) (fun _ _ _ h => h) (Or.inl ⟨by rfl, ?_⟩) ?_ ?_
                    rotate_left
                    ·intro w'
                     go_simp
                     with_reducible rfl
                    rotate_left
                    ·simp only [Act.put, List.setIfInBounds_toArray, List.set_cons_zero, List.set_cons_succ, i64_w, i32_w]
                     rfl
                    refine pure_ (i := 4) (N := some 86) (v := ?_) (a' := ?_) #[true, true, true, false, true, false, false, false, false, false, false, false, false, false, false, false, false, false, false, false, false, false, false, false, false, false, false, false, false] rfl rfl (any_of HT_.out (by kernel_rfl)) (fun _ _ _ h => h) (Or.inl ⟨by rfl, ?_⟩) ?_ ?_
                    rotate_left
                    ·intro w'
                     go_simp
                     with_reducible rfl
                    rotate_left
                    ·simp only [Act.put, List.setIfInBounds_toArray, List.set_cons_zero, List.set_cons_succ, i64_w, i32_w]
                     rfl
                    refine pure_ (i := 7) (N := some 89) (v := ?_) (a' := ?_) #[true, true, true, false, true, false, false, true, false, false, false, false, false, false, false, false, false, false, false, false, false, false, false, false, false, false, false, false, false] rfl rfl (any_of HT_.out (by kernel_rfl)) (fun _ _ _ h => h) (Or.inl ⟨by rfl, ?_⟩) ?_ ?_
                    rotate_left
                    ·intro w'
                     go_simp
                     with_reducible rfl
                    rotate_left
                    ·simp only [Act.put, List.setIfInBounds_toArray, List.set_cons_zero, List.set_cons_succ, i64_w, i32_w]
                     rfl
                    refine take_ (i := 3) (N := some 85) (v := ?_) (a' := ?_) #[true, true, true, true, true, false, false, true, false, false, false, false, false, false, false, false, false, false, false, false, false, false, false, false, false, false, false, false, false] rfl rfl (take_ofW HT_.out HW_.out (by kernel_rfl)) (fun _ _ _ h => h) (Or.inl ⟨by rfl, ?_⟩) hHeld ?_ ?_
                    rotate_left
                    ·rintro w' ⟨s0, s1, s2⟩
                     go_simp
                     with_reducible rfl
                    rotate_left
                    ·simp only [Act.put, List.setIfInBounds_toArray, List.set_cons_zero, List.set_cons_succ, i64_w, i32_w]
                     rfl
                    refine pure_ (i := 5) (N := some 87) (v := ?_) (a' := ?_) #[true, true, true, true, true, true, false, true, false, false, false, false, false, false, false, false, false, false, false, false, false, false, false, false, false, false, false, false, false] rfl rfl (any_of HT_.out (by kernel_rfl)) (fun _ _ _ h => h) (Or.inl ⟨by rfl, ?_⟩) ?_ ?_
                    rotate_left
                    ·intro w'
                     go_simp
                     with_reducible rfl
                    rotate_left
                    ·simp only [Act.put, List.setIfInBounds_toArray, List.set_cons_zero, List.set_cons_succ, i64_w, i32_w]
                     rfl
                    refine take_ (i := 6) (N := some 88) (v := ?_) (a' := ?_) #[true, true, true, true, true, true, true, true, false, false, false, false, false, false, false, false, false, false, false, false, false, false, false, false, false, false, false, false, false] rfl rfl (take_ofW HT_.out HW_.out (by kernel_rfl)) (fun _ _ _ h => h) (Or.inl ⟨by rfl, ?_⟩) hHeld ?_ ?_
                    rotate_left
                    ·rintro w' ⟨s0, s1, s2⟩
                     go_simp
                     with_reducible rfl
                    rotate_left
                    ·simp only [Act.put, List.setIfInBounds_toArray, List.set_cons_zero, List.set_cons_succ, i64_w, i32_w]
                     rfl
                    refine pure_ (i := 8) (N := some 90) (v := ?_) (a' := ?_) #[true, true, true, true, true, true, true, true, true, false, false, false, false, false, false, false, false, false, false, false, false, false, false, false, false, false, false, false, false] rfl rfl (any_of HT_.out (by kernel_rfl)) (fun _ _ _ h => h) (Or.inl ⟨by rfl, ?_⟩) ?_ ?_
                    rotate_left
                    ·intro w'
                     go_simp
                     with_reducible rfl
                    rotate_left
                    ·simp only [Act.put, List.setIfInBounds_toArray, List.set_cons_zero, List.set_cons_succ, i64_w, i32_w]
                     rfl
                    refine pure_ (i := 9) (N := some 91) (v := ?_) (a' := ?_) #[true, true, true, true, true, true, true, true, true, true, false, false, false, false, false, false, false, false, false, false, false, false, false, false, false, false, false, false, false] rfl rfl (any_of HT_.out (by kernel_rfl)) (fun _ _ _ h => h) (Or.inl ⟨by rfl, ?_⟩) ?_ ?_
                    rotate_left
                    ·intro w'
                     go_simp
                     with_reducible rfl
                    rotate_left
                    ·simp only [Act.put, List.setIfInBounds_toArray, List.set_cons_zero, List.set_cons_succ, i64_w, i32_w]
                     rfl
                    refine pure_ (i := 10) (N := some 92) (v := ?_) (a' := ?_) #[true, true, true, true, true, true, true, true, true, true, true, false, false, false, false, false, false, false, false, false, false, false, false, false, false, false, false, false, false] rfl rfl (any_of HT_.out (by kernel_rfl)) (fun _ _ _ h => h) (Or.inl ⟨by rfl, ?_⟩) ?_ ?_
                    rotate_left
                    ·intro w'
                     go_simp
                     with_reducible rfl
                    rotate_left
                    ·simp only [Act.put, List.setIfInBounds_toArray, List.set_cons_zero, List.set_cons_succ, i64_w, i32_w]
                     rfl
                    refine pure_ (i := 11) (N := some 93) (v := ?_) (a' := ?_) #[true, true, true, true, true, true, true, true, true, true, true, true, false, false, false, false, false, false, false, false, false, false, false, false, false, false, false, false, false] rfl rfl (any_of HT_.out (by kernel_rfl)) (fun _ _ _ h => h) (Or.inl ⟨by rfl, ?_⟩) ?_ ?_
                    rotate_left
                    ·intro w'
                     go_simp
                     with_reducible rfl
                    rotate_left
                    ·simp only [Act.put, List.setIfInBounds_toArray, List.set_cons_zero, List.set_cons_succ, i64_w, i32_w]
                     rfl
                    refine pure_ (i := 12) (N := some 94) (v := ?_) (a' := ?_) #[true, true, true, true, true, true, true, true, true, true, true, true, true, false, false, false, false, false, false, false, false, false, false, false, false, false, false, false, false] rfl rfl (any_of HT_.out (by kernel_rfl)) (fun _ _ _ h => h) (Or.inl ⟨by rfl, ?_⟩) ?_ ?_
                    rotate_left
                    ·intro w'
                     go_simp
                     with_reducible rfl
                    rotate_left
                    ·simp only [Act.put, List.setIfInBounds_toArray, List.set_cons_zero, List.set_cons_succ, i64_w, i32_w]
                     rfl
                    refine pure_ (i := 13) (N := some 95) (v := ?_) (a' := ?_) #[true, true, true, true, true, true, true, true, true, true, true, true, true, true, false, false, false, false, false, false, false, false, false, false, false, false, false, false, false] rfl rfl (any_of HT_.out (by kernel_rfl)) (fun _ _ _ h => h) (Or.inl ⟨by rfl, ?_⟩) ?_ ?_
                    rotate_left
                    ·intro w'
                     go_simp
                     with_reducible rfl
                    rotate_left
                    ·simp only [Act.put, List.setIfInBounds_toArray, List.set_cons_zero, List.set_cons_succ, i64_w, i32_w]
                     rfl
                    refine pure_ (i := 14) (N := some 96) (v := ?_) (a' := ?_) #[true, true, true, true, true, true, true, true, true, true, true, true, true, true, true, false, false, false, false, false, false, false, false, false, false, false, false, false, false] rfl rfl (any_of HT_.out (by kernel_rfl)) (fun _ _ _ h => h) (Or.inl ⟨by rfl, ?_⟩) ?_ ?_
                    rotate_left
                    ·intro w'
                     go_simp
                     with_reducible rfl
                    rotate_left
                    ·simp only [Act.put, List.setIfInBounds_toArray, List.set_cons_zero, List.set_cons_succ, i64_w, i32_w]
                     rfl
                    refine pure_ (i := 15) (N := some 97) (v := undef) (a' := ?_) #[true, true, true, true, true, true, true, true, true, true, true, true, true, true, true, true, false, false, false, false, false, false, false, false, false, false, false, false, false] rfl rfl (any_of HT_.out (by kernel_rfl)) (fun _ _ _ h => h) (Or.inr ⟨by rfl, rfl⟩) ?_ ?_
                    rotate_left
                    ·simp only [Act.put, List.setIfInBounds_toArray, List.set_cons_zero, List.set_cons_succ, i64_w, i32_w]
                     rfl
                    refine pure_ (i := 16) (N := some 98) (v := undef) (a' := ?_) #[true, true, true, true, true, true, true, true, true, true, true, true, true, true, true, true, true, false, false, false, false, false, false, false, false, false, false, false, false] rfl rfl (any_of HT_.out (by kernel_rfl)) (fun _ _ _ h => h) (Or.inr ⟨by rfl, rfl⟩) ?_ ?_
                    rotate_left
                    ·simp only [Act.put, List.setIfInBounds_toArray, List.set_cons_zero, List.set_cons_succ, i64_w, i32_w]
                     rfl
                    refine pure_ (i := 17) (N := some 99) (v := undef) (a' := ?_) #[true, true, true, true, true, true, true, true, true, true, true, true, true, true, true, true, true, true, false, false, false, false, false, false, false, false, false, false, false] rfl rfl (any_of HT_.out (by kernel_rfl)) (fun _ _ _ h => h) (Or.inr ⟨by rfl, rfl⟩) ?_ ?_
                    rotate_left
                    ·simp only [Act.put, List.setIfInBounds_toArray, List.set_cons_zero, List.set_cons_succ, i64_w, i32_w]
                     rfl
                    refine pure_ (i := 18) (N := some 100) (v := undef) (a' := ?_) #[true, true, true, true, true, true, true, true, true, true, true, true, true, true, true, true, true, true, true, false, false, false, false, false, false, false, false, false, false] rfl rfl (any_of HT_.out (by kernel_rfl)) (fun _ _ _ h => h) (Or.inr ⟨by rfl, rfl⟩) ?_ ?_
                    rotate_left
                    ·simp only [Act.put, List.setIfInBounds_toArray, List.set_cons_zero, List.set_cons_succ, i64_w, i32_w]
                     rfl
                    refine pure_ (i := 19) (N := some 101) (v := undef) (a' := ?_) #[true, true, true, true, true, true, true, true, true, true, true, true, true, true, true, true, true, true, true, true, false, false, false, false, false, false, false, false, false] rfl rfl (any_of HT_.out (by kernel_rfl)) (fun _ _ _ h => h) (Or.inr ⟨by rfl, rfl⟩) ?_ ?_
                    rotate_left
                    ·simp only [Act.put, List.setIfInBounds_toArray, List.set_cons_zero, List.set_cons_succ, i64_w, i32_w]
                     rfl
                    refine pure_ (i := 20) (N := some 102) (v := undef) (a' := ?_) #[true, true, true, true, true, true, true, true, true, true, true, true, true, true, true, true, true, true, true, true, true, false, false, false, false, false, false, false, false] rfl rfl (any_of HT_.out (by kernel_rfl)) (fun _ _ _ h => h) (Or.inr ⟨by rfl, rfl⟩) ?_ ?_
                    rotate_left
                    ·simp only [Act.put, List.setIfInBounds_toArray, List.set_cons_zero, List.set_cons_succ, i64_w, i32_w]
                     rfl
                    refine pure_ (i := 21) (N := some 103) (v := undef) (a' := ?_) #[true, true, true, true, true, true, true, true, true, true, true, true, true, true, true, true, true, true, true, true, true, true, false, false, false, false, false, false, false] rfl rfl (any_of HT_.out (by kernel_rfl)) (fun _ _ _ h => h) (Or.inr ⟨by rfl, rfl⟩) ?_ ?_
                    rotate_left
                    ·simp only [Act.put, List.setIfInBounds_toArray, List.set_cons_zero, List.set_cons_succ, i64_w, i32_w]
                     rfl
                    refine pure_ (i := 22) (N := some 104) (v := undef) (a' := ?_) #[true, true, true, true, true, true, true, true, true, true, true, true, true, true, true, true, true, true, true, true, true, true, true, false, false, false, false, false, false] rfl rfl (any_of HT_.out (by kernel_rfl)) (fun _ _ _ h => h) (Or.inr ⟨by rfl, rfl⟩) ?_ ?_
                    rotate_left
                    ·simp only [Act.put, List.setIfInBounds_toArray, List.set_cons_zero, List.set_cons_succ, i64_w, i32_w]
                     rfl
                    refine pure_ (i := 23) (N := some 105) (v := undef) (a' := ?_) #[true, true, true, true, true, true, true, true, true, true, true, true, true, true, true, true, true, true, true, true, true, true, true, true, false, false, false, false, false] rfl rfl (any_of HT_.out (by kernel_rfl)) (fun _ _ _ h => h) (Or.inr ⟨by rfl, rfl⟩) ?_ ?_
                    rotate_left
                    ·simp only [Act.put, List.setIfInBounds_toArray, List.set_cons_zero, List.set_cons_succ, i64_w, i32_w]
                     rfl
                    refine pure_ (i := 24) (N := some 106) (v := undef) (a' := ?_) #[true, true, true, true, true, true, true, true, true, true, true, true, true, true, true, true, true, true, true, true, true, true, true, true, true, false, false, false, false] rfl rfl (any_of HT_.out (by kernel_rfl)) (fun _ _ _ h => h) (Or.inr ⟨by rfl, rfl⟩) ?_ ?_
                    rotate_left
                    ·simp only [Act.put, List.setIfInBounds_toArray, List.set_cons_zero, List.set_cons_succ, i64_w, i32_w]
                     rfl
                    refine pure_ (i := 25) (N := some 107) (v := undef) (a' := ?_) #[true, true, true, true, true, true, true, true, true, true, true, true, true, true, true, true, true, true, true, true, true, true, true, true, true, true, false, false, false] rfl rfl (any_of HT_.out (by kernel_rfl)) (fun _ _ _ h => h) (Or.inr ⟨by rfl, rfl⟩) ?_ ?_
                    rotate_left
                    ·simp only [Act.put, List.setIfInBounds_toArray, List.set_cons_zero, List.set_cons_succ, i64_w, i32_w]
                     rfl
                    refine pure_ (i := 26) (N := some 108) (v := ?_) (a' := ?_) #[true, true, true, true, true, true, true, true, true, true, true, true, true, true, true, true, true, true, true, true, true, true, true, true, true, true, true, false, false] rfl rfl (any_of HT_.out (by kernel_rfl)) (fun _ _ _ h => h) (Or.inl ⟨by rfl, ?_⟩) ?_ ?_
                    rotate_left
                    ·intro w'
                     go_simp
                     with_reducible rfl
                    rotate_left
                    ·simp only [Act.put, List.setIfInBounds_toArray, List.set_cons_zero, List.set_cons_succ, i64_w, i32_w]
                     rfl
                    refine pure_ (i := 27) (N := some 109) (v := ?_) (a' := ?_) #[true, true, true, true, true, true, true, true, true, true, true, true, true, true, true, true, true, true, true, true, true, true, true, true, true, true, true, true, false] rfl rfl (any_of HT_.out (by kernel_rfl)) (fun _ _ _ h => h) (Or.inl ⟨by rfl, ?_⟩) ?_ ?_
                    rotate_left
                    ·intro w'
                     go_simp
                     with_reducible rfl
                    rotate_left
                    ·simp only [Act.put, List.setIfInBounds_toArray, List.set_cons_zero, List.set_cons_succ, i64_w, i32_w]
                     rfl
                    refine pure_ (i := 28) (N := some 8) (v := ?_) (a' := ?_) #[true, true, true, true, true, true, true, true, true, true, true, true, true, true, true, true, true, true, true, true, true, true, true, true, true, true, true, true, true] rfl rfl (any_of HT_.out (by kernel_rfl)) (fun _ _ _ h => h) (Or.inl ⟨by rfl, ?_⟩) ?_ ?_
                    rotate_left
                    ·intro w'
                     go_simp
                     with_reducible rfl
                    rotate_left
                    ·simp only [Act.put, List.setIfInBounds_toArray, List.set_cons_zero, List.set_cons_succ, i64_w, i32_w]
                     rfl
                    refine done_ (done_of HT_.out (by kernel_rfl)) ?_
                    try go_wp2
                    go_roundg k2
                    case measure => have := HK1.out; have := HK2.out; omega
                    case rel => exact ⟨(false), (wrap64 (x9_2 + 1)), (by first | rfl | (simp; done) | (simp [*]; done)), (by first | rfl | (simp; done) | (simp [*]; done)), H', ⟨by have := HK1.out; have := HK2.out; omega⟩, ⟨by (with_reducible repeat (first | apply zd | apply ze | apply zf)); exact HO_4.out⟩, ⟨by (with_reducible repeat (first | apply zd | apply ze | apply zf)); exact HO_408000.out⟩, ⟨by (with_reducible repeat (first | apply zd | apply ze | apply zf)); exact HO_408001.out⟩, ⟨by (with_reducible repeat (first | apply zd | apply ze | apply zf)); exact HO_422000.out⟩, ⟨by (with_reducible repeat (first | apply zd | apply ze | apply zf)); exact HO_422001.out⟩, ⟨by (with_reducible repeat (first | refine za ?_ _ | refine zb ?_ | refine zc ?_ _)); exact BK407.out⟩, ⟨by (with_reducible repeat (first | refine za ?_ _ | refine zb ?_ | refine zc ?_ _)); exact BK421.out⟩, ⟨by repeat (first | (with_reducible first | exact HB.out | apply zg | apply zh | apply zi | refine zs ?_ GE407.out | refine zs ?_ GE421.out) | exact HB.out)⟩⟩
                 ·rw [if_neg c42] at H
                  exact absurd H (by simp)
                ·rw [if_neg c41] at H
                 exact absurd H (by simp)
              ·replace c36 := Bool.eq_false_iff.mpr c36
               subst c36
               have H1 : (laws_FnFalls.l1 k2 l0 t408 (wrap64 ((Int.tmod (rd t411 0) 8) - 1)) x7_1 x8_2 (wrap64 (x9_2 + 1)) t401 t404 t415 t418) = some r := by rw [if_neg (show ¬ (false = true) by decide)] at H; exact H
               clear H
               have H := H1
               clear H1
               have H' := zj H
               clear H
               have hnb57 := NB407_421.out
               have hnc57 := NB421_407.out
               have hcz58_0 : wr.cell? ⟨gb407, 0, none⟩ = some (.slice (some ad423) t401.length co11) := (zq BK407.out 0).trans rfl
               have hcz58_1 : wr.cell? ⟨gb407, 1, none⟩ = some (.slice Ao13 t404.length co13) := (zq BK407.out 1).trans rfl
               have hfz58_0 := zv BK407.out 0
               have hfz58_1 := zv BK407.out 1
               have p424 : 0 ≤ (x9_2 : Int) := of_decide_eq_true (by first | (with_reducible assumption) | assumption)
               have q424 : x9_2 < (t404.length : Int) := of_decide_eq_true (by first | (with_reducible assumption) | assumption)
               obtain ⟨ad424, e424, hx424_0, hx424_1⟩ := at_T74 (Kd.R_reads' HO_408001.out).2.2 x9_2 p424 q424
               cases e424
               replace p424 := eq_true p424
               replace q424 := eq_true q424
               have p425 : 0 ≤ (x9_2 : Int) := of_decide_eq_true (by first | (with_reducible assumption) | assumption)
               have q425 : x9_2 < (t404.length : Int) := of_decide_eq_true (by first | (with_reducible assumption) | assumption)
               obtain ⟨ad425, e425, hx425_0, hx425_1⟩ := at_T74 (Kd.R_reads' HO_408001.out).2.2 x9_2 p425 q425
               obtain rfl : ad424 = ad425 := (by injection e425)
               replace p425 := eq_true p425
               replace q425 := eq_true q425
               have p426 : 0 ≤ (x9_2 : Int) := of_decide_eq_true (by first | (with_reducible assumption) | assumption)
               have q426 : x9_2 < (t408.length : Int) := of_decide_eq_true (by first | (with_reducible assumption) | assumption)
               obtain ⟨ad426, e426, hx426_0⟩ := Kd.at_bool (Kd.R_reads' HO_4.out).2.2 x9_2 p426 q426
               (try rw [← Nbq35.out] at hx426_0)
               cases e426
               replace p426 := eq_true p426
               replace q426 := eq_true q426
               go_wp2
               go_roundg k2
               case measure => have := HK1.out; have := HK2.out; omega
               case rel => exact ⟨(x8_2), (wrap64 (x9_2 + 1)), (by first | rfl | (simp; done) | (simp [*]; done)), (by first | rfl | (simp; done) | (simp [*]; done)), H', ⟨by have := HK1.out; have := HK2.out; omega⟩, ⟨by (with_reducible repeat (first | apply zd | apply ze | apply zf)); exact HO_4.out⟩, ⟨by (with_reducible repeat (first | apply zd | apply ze | apply zf)); exact HO_408000.out⟩, ⟨by (with_reducible repeat (first | apply zd | apply ze | apply zf)); exact HO_408001.out⟩, ⟨by (with_reducible repeat (first | apply zd | apply ze | apply zf)); exact HO_422000.out⟩, ⟨by (with_reducible repeat (first | apply zd | apply ze | apply zf)); exact HO_422001.out⟩, ⟨by (with_reducible repeat (first | refine za ?_ _ | refine zb ?_ | refine zc ?_ _)); exact BK407.out⟩, ⟨by (with_reducible repeat (first | refine za ?_ _ | refine zb ?_ | refine zc ?_ _)); exact BK421.out⟩, ⟨by repeat (first | (with_reducible first | exact HB.out | apply zg | apply zh | apply zi | refine zs ?_ GE407.out | refine zs ?_ GE421.out) | exact HB.out)⟩⟩
             ·rw [if_neg c34] at H
              have c34b0 : decide (x9_2 < (t408.length : Int)) = false := decide_eq_false c34
              clear c34
              have H' := zj H
              clear H
              have hnb59 := NB407_421.out
              have hnc59 := NB421_407.out
              have hcz60_0 : wr.cell? ⟨gb407, 0, none⟩ = some (.slice (some ad423) t401.length co11) := (zq BK407.out 0).trans rfl
              have hcz60_1 : wr.cell? ⟨gb407, 1, none⟩ = some (.slice Ao13 t404.length co13) := (zq BK407.out 1).trans rfl
              have hfz60_0 := zv BK407.out 0
              have hfz60_1 := zv BK407.out 1
              have p424 : 0 ≤ (x9_2 : Int) := of_decide_eq_true (by first | (with_reducible assumption) | assumption)
              have q424 : x9_2 < (t404.length : Int) := of_decide_eq_true (by first | (with_reducible assumption) | assumption)
              obtain ⟨ad424, e424, hx424_0, hx424_1⟩ := at_T74 (Kd.R_reads' HO_408001.out).2.2 x9_2 p424 q424
              cases e424
              replace p424 := eq_true p424
              replace q424 := eq_true q424
              have p425 : 0 ≤ (x9_2 : Int) := of_decide_eq_true (by first | (with_reducible assumption) | assumption)
              have q425 : x9_2 < (t404.length : Int) := of_decide_eq_true (by first | (with_reducible assumption) | assumption)
              obtain ⟨ad425, e425, hx425_0, hx425_1⟩ := at_T74 (Kd.R_reads' HO_408001.out).2.2 x9_2 p425 q425
              obtain rfl : ad424 = ad425 := (by injection e425)
              replace p425 := eq_true p425
              replace q425 := eq_true q425
              go_wp2
              go_roundg k2
              case measure => have := HK1.out; have := HK2.out; omega
              case rel => exact ⟨(x8_2), (wrap64 (x9_2 + 1)), (by first | rfl | (simp; done) | (simp [*]; done)), (by first | rfl | (simp; done) | (simp [*]; done)), H', ⟨by have := HK1.out; have := HK2.out; omega⟩, ⟨by (with_reducible repeat (first | apply zd | apply ze | apply zf)); exact HO_4.out⟩, ⟨by (with_reducible repeat (first | apply zd | apply ze | apply zf)); exact HO_408000.out⟩, ⟨by (with_reducible repeat (first | apply zd | apply ze | apply zf)); exact HO_408001.out⟩, ⟨by (with_reducible repeat (first | apply zd | apply ze | apply zf)); exact HO_422000.out⟩, ⟨by (with_reducible repeat (first | apply zd | apply ze | apply zf)); exact HO_422001.out⟩, ⟨by (with_reducible repeat (first | refine za ?_ _ | refine zb ?_ | refine zc ?_ _)); exact BK407.out⟩, ⟨by (with_reducible repeat (first | refine za ?_ _ | refine zb ?_ | refine zc ?_ _)); exact BK421.out⟩, ⟨by repeat (first | (with_reducible first | exact HB.out | apply zg | apply zh | apply zi | refine zs ?_ GE407.out | refine zs ?_ GE421.out) | exact HB.out)⟩⟩
            ·rw [if_neg c33] at H
             have c33b0 : (((rd_T74 t404 x9_2).f0) == x7_1) = false := beq_eq_false_iff_ne.mpr c33
             have c33b1 : (((rd_T74 t404 x9_2).f0) != x7_1) = true := bne_iff_ne.mpr c33
             have H' := zj H
             clear H
             have hnb61 := NB407_421.out
             have hnc61 := NB421_407.out
             have hcz62_0 : wr.cell? ⟨gb407, 0, none⟩ = some (.slice (some ad423) t401.length co11) := (zq BK407.out 0).trans rfl
             have hcz62_1 : wr.cell? ⟨gb407, 1, none⟩ = some (.slice Ao13 t404.length co13) := (zq BK407.out 1).trans rfl
             have hfz62_0 := zv BK407.out 0
             have hfz62_1 := zv BK407.out 1
             have p424 : 0 ≤ (x9_2 : Int) := of_decide_eq_true (by first | (with_reducible assumption) | assumption)
             have q424 : x9_2 < (t404.length : Int) := of_decide_eq_true (by first | (with_reducible assumption) | assumption)
             obtain ⟨ad424, e424, hx424_0, hx424_1⟩ := at_T74 (Kd.R_reads' HO_408001.out).2.2 x9_2 p424 q424
             cases e424
             replace p424 := eq_true p424
             replace q424 := eq_true q424
             have p425 : 0 ≤ (x9_2 : Int) := of_decide_eq_true (by first | (with_reducible assumption) | assumption)
             have q425 : x9_2 < (t404.length : Int) := of_decide_eq_true (by first | (with_reducible assumption) | assumption)
             obtain ⟨ad425, e425, hx425_0, hx425_1⟩ := at_T74 (Kd.R_reads' HO_408001.out).2.2 x9_2 p425 q425
             obtain rfl : ad424 = ad425 := (by injection e425)
             replace p425 := eq_true p425
             replace q425 := eq_true q425
             go_wp2
             go_roundg k2
             case measure => have := HK1.out; have := HK2.out; omega
             case rel => exact ⟨(x8_2), (wrap64 (x9_2 + 1)), (by first | rfl | (simp; done) | (simp [*]; done)), (by first | rfl | (simp; done) | (simp [*]; done)), H', ⟨by have := HK1.out; have := HK2.out; omega⟩, ⟨by (with_reducible repeat (first | apply zd | apply ze | apply zf)); exact HO_4.out⟩, ⟨by (with_reducible repeat (first | apply zd | apply ze | apply zf)); exact HO_408000.out⟩, ⟨by (with_reducible repeat (first | apply zd | apply ze | apply zf)); exact HO_408001.out⟩, ⟨by (with_reducible repeat (first | apply zd | apply ze | apply zf)); exact HO_422000.out⟩, ⟨by (with_reducible repeat (first | apply zd | apply ze | apply zf)); exact HO_422001.out⟩, ⟨by (with_reducible repeat (first | refine za ?_ _ | refine zb ?_ | refine zc ?_ _)); exact BK407.out⟩, ⟨by (with_reducible repeat (first | refine za ?_ _ | refine zb ?_ | refine zc ?_ _)); exact BK421.out⟩, ⟨by repeat (first | (with_reducible first | exact HB.out | apply zg | apply zh | apply zi | refine zs ?_ GE407.out | refine zs ?_ GE421.out) | exact HB.out)⟩⟩
           ·rw [if_neg c32] at H
            exact absurd H (by simp)
          ·rw [if_neg c31] at H
           have c31b0 : decide (x9_2 < (t404.length : Int)) = false := decide_eq_false c31
           clear c31
           by_cases c63 : x8_2 = true
           ·subst c63
            have H1 : (laws_FnFalls.l0 k2 l0 t408 (wrap64 ((Int.tmod (rd t411 0) 8) - 1)) (wrap64 (x7_1 + 1)) t401 t404 t415 t418) = some r := by rw [if_pos rfl] at H; exact H
            clear H
            have H := H1
            clear H1
            have H' := zj H
            clear H
            have hnb64 := NB407_421.out
            have hnc64 := NB421_407.out
            have hcz65_0 : wr.cell? ⟨gb407, 0, none⟩ = some (.slice (some ad423) t401.length co11) := (zq BK407.out 0).trans rfl
            have hcz65_1 : wr.cell? ⟨gb407, 1, none⟩ = some (.slice Ao13 t404.length co13) := (zq BK407.out 1).trans rfl
            have hfz65_0 := zv BK407.out 0
            have hfz65_1 := zv BK407.out 1
            go_wp2
            go_roundg k2
            case measure => have := HK1.out; have := HK2.out; omega
            case rel => exact ⟨(wrap64 (x7_1 + 1)), (by first | rfl | (simp; done) | (simp [*]; done)), H', ⟨by have := HK1.out; have := HK2.out; omega⟩, ⟨by (with_reducible repeat (first | apply zd | apply ze | apply zf)); exact HO_4.out⟩, ⟨by (with_reducible repeat (first | apply zd | apply ze | apply zf)); exact HO_408000.out⟩, ⟨by (with_reducible repeat (first | apply zd | apply ze | apply zf)); exact HO_408001.out⟩, ⟨by (with_reducible repeat (first | apply zd | apply ze | apply zf)); exact HO_422000.out⟩, ⟨by (with_reducible repeat (first | apply zd | apply ze | apply zf)); exact HO_422001.out⟩, ⟨by (with_reducible repeat (first | refine za ?_ _ | refine zb ?_ | refine zc ?_ _)); exact BK407.out⟩, ⟨by (with_reducible repeat (first | refine za ?_ _ | refine zb ?_ | refine zc ?_ _)); exact BK421.out⟩, ⟨by repeat (first | (with_reducible first | exact HB.out | apply zg | apply zh | apply zi | refine zs ?_ GE407.out | refine zs ?_ GE421.out) | exact HB.out)⟩⟩
           ·replace c63 := Bool.eq_false_iff.mpr c63
            subst c63
            have H1 : (none) = some r := by rw [if_neg (show ¬ (false = true) by decide)] at H; exact H
            clear H
            have H := H1
            clear H1
            exact absurd H (by simp)
       ·rw [if_neg c27] at H
        exact absurd H (by simp)
      ·rw [if_neg c26] at H
       exact absurd H (by simp)
     ·rw [if_neg c25] at H
      have c25b0 : decide (x7_1 < (t401.length : Int)) = false := decide_eq_false c25
      clear c25
      obtain ⟨y429, hy429⟩ : ∃ y_ : List Bool, y_ = (([] : List Bool)) := ⟨_, rfl⟩
      replace H : ((impl_FallDisk.f k1 t401 t404 y429 (-1)).bind fun bt432 => ((spec_DrawFallDisk.f k1 l0).bind fun bt439 => (if (t418.length : Int) = 0 then (if (t415.length : Int) = (t401.length : Int) then ((laws_sameTexts.f k1 bt432.1 t401).bind fun t450 => (if t450 = true then ((impl_FallDisk.f k1 bt439.1 bt439.2.1 bt439.2.2.1 bt439.2.2.2).bind fun bt451 => ((spec_FallDisk.f k1 bt439.1 bt439.2.1 bt439.2.2.1 bt439.2.2.2).bind fun bt457 => ((laws_sameDisk.f k1 bt451.1 bt451.2 bt457.1 bt457.2).bind fun t463 => (some t463)))) else (none))) else (none)) else (none)))) = some r := by first | (rw [hy429]; with_reducible exact H) | (have H2_ := (Option.bind_some _ _).symm.trans H; rw [hy429]; with_reducible exact H2_) | (have H2_ := (Option.bind_some _ _).symm.trans H; with_reducible exact H2_) | with_reducible exact H | (rw [hy429]; exact H) | exact H
      have Ny429 := zj hy429
      clear hy429
      replace H := Option.bind_eq_some_iff.mp H
      obtain ⟨⟨t432, t435⟩, A660, H⟩ := H
      replace H : ((spec_DrawFallDisk.f k1 l0).bind fun bt439 => (if (t418.length : Int) = 0 then (if (t415.length : Int) = (t401.length : Int) then ((laws_sameTexts.f k1 t432 t401).bind fun t450 => (if t450 = true then ((impl_FallDisk.f k1 bt439.1 bt439.2.1 bt439.2.2.1 bt439.2.2.2).bind fun bt451 => ((spec_FallDisk.f k1 bt439.1 bt439.2.1 bt439.2.2.1 bt439.2.2.2).bind fun bt457 => ((laws_sameDisk.f k1 bt451.1 bt451.2 bt457.1 bt457.2).bind fun t463 => (some t463)))) else (none))) else (none)) else (none))) = some r := H
      have A66 := zj A660
      clear A660
      replace H := Option.bind_eq_some_iff.mp H
      obtain ⟨⟨t439, t442, t445, t448⟩, A670, H⟩ := H
      replace H : (if (t418.length : Int) = 0 then (if (t415.length : Int) = (t401.length : Int) then ((laws_sameTexts.f k1 t432 t401).bind fun t450 => (if t450 = true then ((impl_FallDisk.f k1 t439 t442 t445 t448).bind fun bt451 => ((spec_FallDisk.f k1 t439 t442 t445 t448).bind fun bt457 => ((laws_sameDisk.f k1 bt451.1 bt451.2 bt457.1 bt457.2).bind fun t463 => (some t463)))) else (none))) else (none)) else (none)) = some r := H
      have A67 := zj A670
      clear A670
      by_cases c68 : (t418.length : Int) = 0
      ·rw [if_pos c68] at H
       have c68b0 : ((t418.length : Int) == 0) = true := beq_iff_eq.mpr c68
       have c68b1 : ((t418.length : Int) != 0) = false := bne_eq_false_iff_eq.mpr c68
       clear c68
       by_cases c69 : (t415.length : Int) = (t401.length : Int)
       ·rw [if_pos c69] at H
        have c69b0 : ((t415.length : Int) == (t401.length : Int)) = true := beq_iff_eq.mpr c69
        have c69b1 : ((t415.length : Int) != (t401.length : Int)) = false := bne_eq_false_iff_eq.mpr c69
        have c69b2 : (t415.length == t401.length) = true := by first | simpa using c69 | (simp at c69 ⊢; omega)
        clear c69
        replace H := Option.bind_eq_some_iff.mp H
        obtain ⟨t450, A700, H⟩ := H
        replace H : (if t450 = true then ((impl_FallDisk.f k1 t439 t442 t445 t448).bind fun bt451 => ((spec_FallDisk.f k1 t439 t442 t445 t448).bind fun bt457 => ((laws_sameDisk.f k1 bt451.1 bt451.2 bt457.1 bt457.2).bind fun t463 => (some t463)))) else (none)) = some r := H
        have A70 := zj A700
        clear A700
        by_cases c71 : t450 = true
        ·subst c71
         have H1 : ((impl_FallDisk.f k1 t439 t442 t445 t448).bind fun bt451 => ((spec_FallDisk.f k1 t439 t442 t445 t448).bind fun bt457 => ((laws_sameDisk.f k1 bt451.1 bt451.2 bt457.1 bt457.2).bind fun t463 => (some t463)))) = some r := by rw [if_pos rfl] at H; exact H
         clear H
         have H := H1
         clear H1
         replace H := Option.bind_eq_some_iff.mp H
         obtain ⟨⟨t451, t454⟩, A720, H⟩ := H
         replace H : ((spec_FallDisk.f k1 t439 t442 t445 t448).bind fun bt457 => ((laws_sameDisk.f k1 t451 t454 bt457.1 bt457.2).bind fun t463 => (some t463))) = some r := H
         have A72 := zj A720
         clear A720
         replace H := Option.bind_eq_some_iff.mp H
         obtain ⟨⟨t457, t460⟩, A730, H⟩ := H
         replace H : ((laws_sameDisk.f k1 t451 t454 t457 t460).bind fun t463 => (some t463)) = some r := H
         have A73 := zj A730
         clear A730
         replace H := Option.bind_eq_some_iff.mp H
         obtain ⟨t463, A740, H⟩ := H
         replace H : (some t463) = some r := H
         have A74 := zj A740
         clear A740
         obtain rfl := Option.some.inj H
         have hnb75 := NB407_421.out
         have hnc75 := NB421_407.out
         have hcz76_0 : wr.cell? ⟨gb407, 0, none⟩ = some (.slice Ao11 t401.length co11) := (zq BK407.out 0).trans rfl
         have hcz76_1 : wr.cell? ⟨gb407, 1, none⟩ = some (.slice Ao13 t404.length co13) := (zq BK407.out 1).trans rfl
         have hfz76_0 := zv BK407.out 0
         have hfz76_1 := zv BK407.out 1
         try go_wp2_with (first | ((with_reducible refine gate_dst (N := 113) rfl ?_); (try (refine gate_guard (by rfl) ?_; dsimp only)); refine Kd.R_lit Kd.bool _ 4 ?hg (N := 113) ?hd (xs := ([] : List Bool)) (inner := []) (ok := fun _ => True) (okp := fun _ => True) ?hr ?hp (fun _ hk => hk) trivial (Below.refl _ _) (Nat.le_refl _) (by simp) ?_; (case hd => rfl); (case hg => rfl); (case hr => first | (go_simp; done) | (go_simp; rfl)); (case hp => exact (Reps.none _ _)); intro v430 w77 ho78 hb hg_ hnew_; clear hg_ hnew_; (first | rw [← Ny429.out] at ho78 | (simp only [Int.reduceToNat] at ho78; rw [← Ny429.out] at ho78)); have n0_ := zj (Kd.R_elder' (by (with_reducible repeat (first | apply zd | apply ze | apply zf)); exact HO_4.out) (Kd.R_base ho78) hb); have n1_ := zj (zt (by (with_reducible repeat (first | apply zd | apply ze | apply zf)); exact HO_408000.out) hb); have n2_ := zj (zt (by (with_reducible repeat (first | apply zd | apply ze | apply zf)); exact HO_408001.out) hb); have n3_ := zj (zt (by (with_reducible repeat (first | apply zd | apply ze | apply zf)); exact HO_422000.out) hb); have n4_ := zj (zt (by (with_reducible repeat (first | apply zd | apply ze | apply zf)); exact HO_422001.out) hb); have n5_ := zj (Kd.R_lower (Kd.R_new' ho78 (Kd.R_lt (by (with_reducible repeat (first | apply zd | apply ze | apply zf)); exact HO_4.out))) (zk (by repeat (first | (with_reducible first | exact HB.out | apply zg | apply zh | apply zi | refine zs ?_ GE407.out | refine zs ?_ GE421.out) | exact HB.out)))); have n6_ := zj (zo (g := gb407) (o := .cells #[.slice Ao11 t401.length co11, .slice Ao13 t404.length co13] 36 (0, 0)) (by (with_reducible repeat (first | refine za ?_ _ | refine zb ?_ | refine zc ?_ _)); exact BK407.out) hb); have n7_ := zj (zo (g := gb421) (o := .cells #[.slice Ao21 t415.length co21, .slice Ao24 t418.length co24] 36 (0, 0)) (by (with_reducible repeat (first | refine za ?_ _ | refine zb ?_ | refine zc ?_ _)); exact BK421.out) hb); have n8_ := zj (zl (by repeat (first | (with_reducible first | exact HB.out | apply zg | apply zh | apply zi | refine zs ?_ GE407.out | refine zs ?_ GE421.out) | exact HB.out)) hb); clear HO_4; clear HO_408000; clear HO_408001; clear HO_422000; clear HO_422001; clear BK407; clear BK421; clear HB; have HO_4 := n0_; have HO_408000 := n1_; have HO_408001 := n2_; have HO_422000 := n3_; have HO_422001 := n4_; have HO431 := n5_; have BK407 := n6_; have BK421 := n7_; have HB := n8_; clear n0_ n1_ n2_ n3_ n4_ n5_ n6_ n7_ n8_; clear hb ho78; obtain ⟨Ao79, co79, eo79⟩ := Kd.R_slice HO431.out; subst eo79) | ((with_reducible refine gate_callee (f := 45) rfl ?_); refine goesL_ (some 114) rfl rfl Try.func45 (by kernel_rfl) rfl #[.agg #[.slice Ao11 t401.length co11, .slice Ao13 t404.length co13], .slice Ao79 y429.length co79, .int .i64 (-1)] rfl (by (try simp only [List.map_toArray, List.map_cons, List.map_nil]); first | done | rfl | (simp only [List.length_drop, List.length_take]; rfl)) ?_; (with_reducible refine (impl_FallDisk.calls k1 _ _ t401 _ _ t404 _ _ y429 (-1) t432 t435 _ ?side1 ?side2 ?side3 ?side4 ?side5 ?side6 A66.out).mono ?_); (case side1 => repeat (first | exact (Kd.R_reads' HO_408000.out).2.2 | (with_reducible refine Kd.C_alloc ?_ _) | (with_reducible refine Kd.C_drewN ?_ _) | (with_reducible refine Kd.C_drew ?_))); (case side2 => exact (Kd.R_reads' HO_408000.out).2.1); (case side3 => repeat (first | exact (Kd.R_reads' HO_408001.out).2.2 | (with_reducible refine Kd.C_alloc ?_ _) | (with_reducible refine Kd.C_drewN ?_ _) | (with_reducible refine Kd.C_drew ?_))); (case side4 => exact (Kd.R_reads' HO_408001.out).2.1); (case side5 => repeat (first | exact (Kd.R_reads' HO431.out).2.2 | (with_reducible refine Kd.C_alloc ?_ _) | (with_reducible refine Kd.C_drewN ?_ _) | (with_reducible refine Kd.C_drew ?_))); (case side6 => exact (Kd.R_reads' HO431.out).2.1); rintro e w80 ⟨v433, v436, rfl, ho0, ho1, hb⟩; refine ⟨_, rfl, ?_⟩; have n0_ := zj (zt (by (with_reducible repeat (first | apply zd | apply ze | apply zf)); exact HO_4.out) hb); have n1_ := zj (Kd.R_elder' (by (with_reducible repeat (first | apply zd | apply ze | apply zf)); exact HO_408000.out) (Kd.R_base ho0) hb); have n2_ := zj (Kd.R_elder' (by (with_reducible repeat (first | apply zd | apply ze | apply zf)); exact HO_408001.out) (Kd.R_base ho1) hb); have n3_ := zj (Kd.R_elder' (by (with_reducible repeat (first | apply zd | apply ze | apply zf)); exact HO_422000.out) (Kd.R_base ho0) hb); have n4_ := zj (Kd.R_elder' (by (with_reducible repeat (first | apply zd | apply ze | apply zf)); exact HO_422001.out) (Kd.R_base ho1) hb); have n5_ := zj (zt (by (with_reducible repeat (first | apply zd | apply ze | apply zf)); exact HO431.out) hb); have n6_ := zj (Kd.R_lower (Kd.R_new' (Kd.R_new' ho0 (Kd.R_lt (by (with_reducible repeat (first | apply zd | apply ze | apply zf)); exact HO_408000.out))) (Kd.R_lt (by (with_reducible repeat (first | apply zd | apply ze | apply zf)); exact HO_422000.out))) (zk (by repeat (first | (with_reducible first | exact HB.out | apply zg | apply zh | apply zi | refine zs ?_ GE407.out | refine zs ?_ GE421.out) | exact HB.out)))); have n7_ := zj (Kd.R_lower (Kd.R_new' (Kd.R_new' ho1 (Kd.R_lt (by (with_reducible repeat (first | apply zd | apply ze | apply zf)); exact HO_408001.out))) (Kd.R_lt (by (with_reducible repeat (first | apply zd | apply ze | apply zf)); exact HO_422001.out))) (zk (by repeat (first | (with_reducible first | exact HB.out | apply zg | apply zh | apply zi | refine zs ?_ GE407.out | refine zs ?_ GE421.out) | exact HB.out)))); have n8_ := zj (zo (g := gb407) (o := .cells #[.slice Ao11 t401.length co11, .slice Ao13 t404.length co13] 36 (0, 0)) (by (with_reducible repeat (first | refine za ?_ _ | refine zb ?_ | refine zc ?_ _)); exact BK407.out) hb); have n9_ := zj (zo (g := gb421) (o := .cells #[.slice Ao21 t415.length co21, .slice Ao24 t418.length co24] 36 (0, 0)) (by (with_reducible repeat (first | refine za ?_ _ | refine zb ?_ | refine zc ?_ _)); exact BK421.out) hb); have n10_ := zj (zl (by repeat (first | (with_reducible first | exact HB.out | apply zg | apply zh | apply zi | refine zs ?_ GE407.out | refine zs ?_ GE421.out) | exact HB.out)) hb); clear HO_4; clear HO_408000; clear HO_408001; clear HO_422000; clear HO_422001; clear HO431; clear BK407; clear BK421; clear HB; have HO_4 := n0_; have HO_408000 := n1_; have HO_408001 := n2_; have HO_422000 := n3_; have HO_422001 := n4_; have HO431 := n5_; have HO434 := n6_; have HO437 := n7_; have BK407 := n8_; have BK421 := n9_; have HB := n10_; clear n0_ n1_ n2_ n3_ n4_ n5_ n6_ n7_ n8_ n9_ n10_; (try clear hb); (try clear hb2); (try clear hk); (try clear hi); (try clear ho0); (try clear ho1)) | ((with_reducible refine gate_dst (N := 11) rfl ?_); (try (refine gate_guard (by rfl) ?_; dsimp only)); refine box_event ?hg (N := 11) ?hd (cs := #[.slice none 0 0, .slice none 0 0]) (t := 36) ?hr ?_; (case hd => rfl); (case hg => rfl); (case hr => first | (go_simp; done) | (go_simp; rfl)); intro gb438 hg w81 hbox hb; have n0_ := zj (zt (by (with_reducible repeat (first | apply zd | apply ze | apply zf)); exact HO_4.out) hb); have n1_ := zj (zt (by (with_reducible repeat (first | apply zd | apply ze | apply zf)); exact HO_408000.out) hb); have n2_ := zj (zt (by (with_reducible repeat (first | apply zd | apply ze | apply zf)); exact HO_408001.out) hb); have n3_ := zj (zt (by (with_reducible repeat (first | apply zd | apply ze | apply zf)); exact HO_422000.out) hb); have n4_ := zj (zt (by (with_reducible repeat (first | apply zd | apply ze | apply zf)); exact HO_422001.out) hb); have n5_ := zj (zt (by (with_reducible repeat (first | apply zd | apply ze | apply zf)); exact HO431.out) hb); have n6_ := zj (zt (by (with_reducible repeat (first | apply zd | apply ze | apply zf)); exact HO434.out) hb); have n7_ := zj (zt (by (with_reducible repeat (first | apply zd | apply ze | apply zf)); exact HO437.out) hb); have n8_ := zj (zo (g := gb407) (o := .cells #[.slice Ao11 t401.length co11, .slice Ao13 t404.length co13] 36 (0, 0)) (by (with_reducible repeat (first | refine za ?_ _ | refine zb ?_ | refine zc ?_ _)); exact BK407.out) hb); have n9_ := zj (zo (g := gb421) (o := .cells #[.slice Ao21 t415.length co21, .slice Ao24 t418.length co24] 36 (0, 0)) (by (with_reducible repeat (first | refine za ?_ _ | refine zb ?_ | refine zc ?_ _)); exact BK421.out) hb); have n10_ := zj (zl (by repeat (first | (with_reducible first | exact HB.out | apply zg | apply zh | apply zi | refine zs ?_ GE407.out | refine zs ?_ GE421.out) | exact HB.out)) hb); have n11_ := zj (hbox); have n12_ := zj ((by rw [hg]; exact (zk (by repeat (first | (with_reducible first | exact HB.out | apply zg | apply zh | apply zi | refine zs ?_ GE407.out | refine zs ?_ GE421.out) | exact HB.out))) : w.heap.size ≤ gb438)); have n13_ := zj ((by rw [hg]; exact (zk (by repeat (first | (with_reducible first | exact HB.out | apply zg | apply zh | apply zi | refine zs ?_ GE407.out | refine zs ?_ GE421.out) | exact HB.out))) : w.heap.size ≤ gb438)); have n14_ := zj ((by rw [hg]; exact Nat.ne_of_lt (blk_lt (g := gb407) (o := .cells #[.slice Ao11 t401.length co11, .slice Ao13 t404.length co13] 36 (0, 0)) (by (with_reducible repeat (first | refine za ?_ _ | refine zb ?_ | refine zc ?_ _)); exact BK407.out)) : gb407 ≠ gb438)); have n15_ := zj ((by rw [hg]; exact Nat.ne_of_gt (blk_lt (g := gb407) (o := .cells #[.slice Ao11 t401.length co11, .slice Ao13 t404.length co13] 36 (0, 0)) (by (with_reducible repeat (first | refine za ?_ _ | refine zb ?_ | refine zc ?_ _)); exact BK407.out)) : gb438 ≠ gb407)); have n16_ := zj ((by rw [hg]; exact Nat.ne_of_lt (blk_lt (g := gb421) (o := .cells #[.slice Ao21 t415.length co21, .slice Ao24 t418.length co24] 36 (0, 0)) (by (with_reducible repeat (first | refine za ?_ _ | refine zb ?_ | refine zc ?_ _)); exact BK421.out)) : gb421 ≠ gb438)); have n17_ := zj ((by rw [hg]; exact Nat.ne_of_gt (blk_lt (g := gb421) (o := .cells #[.slice Ao21 t415.length co21, .slice Ao24 t418.length co24] 36 (0, 0)) (by (with_reducible repeat (first | refine za ?_ _ | refine zb ?_ | refine zc ?_ _)); exact BK421.out)) : gb438 ≠ gb421)); clear HO_4; clear HO_408000; clear HO_408001; clear HO_422000; clear HO_422001; clear HO431; clear HO434; clear HO437; clear BK407; clear BK421; clear HB; have HO_4 := n0_; have HO_408000 := n1_; have HO_408001 := n2_; have HO_422000 := n3_; have HO_422001 := n4_; have HO431 := n5_; have HO434 := n6_; have HO437 := n7_; have BK407 := n8_; have BK421 := n9_; have HB := n10_; have BK438 := n11_; have GW438 := n12_; have GE438 := n13_; have NB407_438 := n14_; have NB438_407 := n15_; have NB421_438 := n16_; have NB438_421 := n17_; clear n0_ n1_ n2_ n3_ n4_ n5_ n6_ n7_ n8_ n9_ n10_ n11_ n12_ n13_ n14_ n15_ n16_ n17_; clear hb hbox hg; obtain ⟨Ao82, co82, eo82⟩ := Kd.R_slice HO434.out; subst eo82; have hnb83 := NB438_407.out; have hnc83 := NB407_438.out; have hnb84 := NB438_421.out; have hnc84 := NB421_438.out; have hcz85_0 : w81.cell? ⟨gb438, 0, none⟩ = some (.slice none 0 0) := (zq BK438.out 0).trans rfl; have hcz85_1 : w81.cell? ⟨gb438, 1, none⟩ = some (.slice none 0 0) := (zq BK438.out 1).trans rfl; have hfz85_0 := zv BK438.out 0; have hfz85_1 := zv BK438.out 1; obtain ⟨Ao86, co86, eo86⟩ := Kd.R_slice HO437.out; subst eo86) | ((with_reducible refine gate_callee (f := 48) rfl ?_); refine goesL_ (some 117) rfl rfl Try.func48 (by kernel_rfl) rfl #[.slice A0 l0.length c0] rfl (by (try simp only [List.map_toArray, List.map_cons, List.map_nil]); first | done | rfl | (simp only [List.length_drop, List.length_take]; rfl)) ?_; (with_reducible refine (spec_DrawFallDisk.calls k1 _ _ l0 t439 t442 t445 t448 _ ?side1 ?side2 A67.out).mono ?_); (case side1 => exact Kd.C_below HR0.out (by repeat (first | (with_reducible first | exact HB.out | apply zg | apply zh | apply zi | refine zs ?_ GE407.out | refine zs ?_ GE421.out | refine zs ?_ GE438.out) | exact HB.out))); (case side2 => exact HC0.out); rintro e w87 ⟨v440, v443, v446, rfl, ho0, ho1, ho2, hb⟩; refine ⟨_, rfl, ?_⟩; have n0_ := zj (Kd.R_elder' (by (with_reducible repeat (first | apply zd | apply ze | apply zf)); exact (zm (zn (p := ⟨gb438, 1, none⟩) (zn (p := ⟨gb438, 0, none⟩) (zu HO_4.out BK438.out (by decide)) (fun _ hk => hk.2) (.slice Ao82 t432.length co82)) (fun _ hk => hk.2) (.slice Ao86 t435.length co86)) (fun _ h_ => h_.1))) (Kd.R_base ho2) hb); have n1_ := zj (Kd.R_elder' (by (with_reducible repeat (first | apply zd | apply ze | apply zf)); exact (zm (zn (p := ⟨gb438, 1, none⟩) (zn (p := ⟨gb438, 0, none⟩) (zu HO_408000.out BK438.out (by decide)) (fun _ hk => hk.2) (.slice Ao82 t432.length co82)) (fun _ hk => hk.2) (.slice Ao86 t435.length co86)) (fun _ h_ => h_.1))) (Kd.R_base ho0) hb); have n2_ := zj (Kd.R_elder' (by (with_reducible repeat (first | apply zd | apply ze | apply zf)); exact (zm (zn (p := ⟨gb438, 1, none⟩) (zn (p := ⟨gb438, 0, none⟩) (zu HO_408001.out BK438.out (by decide)) (fun _ hk => hk.2) (.slice Ao82 t432.length co82)) (fun _ hk => hk.2) (.slice Ao86 t435.length co86)) (fun _ h_ => h_.1))) (Kd.R_base ho1) hb); have n3_ := zj (Kd.R_elder' (by (with_reducible repeat (first | apply zd | apply ze | apply zf)); exact (zm (zn (p := ⟨gb438, 1, none⟩) (zn (p := ⟨gb438, 0, none⟩) (zu HO_422000.out BK438.out (by decide)) (fun _ hk => hk.2) (.slice Ao82 t432.length co82)) (fun _ hk => hk.2) (.slice Ao86 t435.length co86)) (fun _ h_ => h_.1))) (Kd.R_base ho0) hb); have n4_ := zj (Kd.R_elder' (by (with_reducible repeat (first | apply zd | apply ze | apply zf)); exact (zm (zn (p := ⟨gb438, 1, none⟩) (zn (p := ⟨gb438, 0, none⟩) (zu HO_422001.out BK438.out (by decide)) (fun _ hk => hk.2) (.slice Ao82 t432.length co82)) (fun _ hk => hk.2) (.slice Ao86 t435.length co86)) (fun _ h_ => h_.1))) (Kd.R_base ho1) hb); have n5_ := zj (Kd.R_elder' (by (with_reducible repeat (first | apply zd | apply ze | apply zf)); exact (zm (zn (p := ⟨gb438, 1, none⟩) (zn (p := ⟨gb438, 0, none⟩) (zu HO431.out BK438.out (by decide)) (fun _ hk => hk.2) (.slice Ao82 t432.length co82)) (fun _ hk => hk.2) (.slice Ao86 t435.length co86)) (fun _ h_ => h_.1))) (Kd.R_base ho2) hb); have n6_ := zj (Kd.R_elder' (by (with_reducible repeat (first | apply zd | apply ze | apply zf)); exact (zm (zn (p := ⟨gb438, 1, none⟩) (zn (p := ⟨gb438, 0, none⟩) (zu HO434.out BK438.out (by decide)) (fun _ hk => hk.2) (.slice Ao82 t432.length co82)) (fun _ hk => hk.2) (.slice Ao86 t435.length co86)) (fun _ h_ => h_.1))) (Kd.R_base ho0) hb); have n7_ := zj (Kd.R_elder' (by (with_reducible repeat (first | apply zd | apply ze | apply zf)); exact (zm (zn (p := ⟨gb438, 1, none⟩) (zn (p := ⟨gb438, 0, none⟩) (zu HO437.out BK438.out (by decide)) (fun _ hk => hk.2) (.slice Ao82 t432.length co82)) (fun _ hk => hk.2) (.slice Ao86 t435.length co86)) (fun _ h_ => h_.1))) (Kd.R_base ho1) hb); have n8_ := zj (Kd.R_lower (Kd.R_new' (Kd.R_new' (Kd.R_new' ho0 (Kd.R_lt (by (with_reducible repeat (first | apply zd | apply ze | apply zf)); exact (zm (zn (p := ⟨gb438, 1, none⟩) (zn (p := ⟨gb438, 0, none⟩) (zu HO_408000.out BK438.out (by decide)) (fun _ hk => hk.2) (.slice Ao82 t432.length co82)) (fun _ hk => hk.2) (.slice Ao86 t435.length co86)) (fun _ h_ => h_.1))))) (Kd.R_lt (by (with_reducible repeat (first | apply zd | apply ze | apply zf)); exact (zm (zn (p := ⟨gb438, 1, none⟩) (zn (p := ⟨gb438, 0, none⟩) (zu HO_422000.out BK438.out (by decide)) (fun _ hk => hk.2) (.slice Ao82 t432.length co82)) (fun _ hk => hk.2) (.slice Ao86 t435.length co86)) (fun _ h_ => h_.1))))) (Kd.R_lt (by (with_reducible repeat (first | apply zd | apply ze | apply zf)); exact (zm (zn (p := ⟨gb438, 1, none⟩) (zn (p := ⟨gb438, 0, none⟩) (zu HO434.out BK438.out (by decide)) (fun _ hk => hk.2) (.slice Ao82 t432.length co82)) (fun _ hk => hk.2) (.slice Ao86 t435.length co86)) (fun _ h_ => h_.1))))) (zk (by repeat (first | (with_reducible first | exact HB.out | apply zg | apply zh | apply zi | refine zs ?_ GE407.out | refine zs ?_ GE421.out | refine zs ?_ GE438.out) | exact HB.out)))); have n9_ := zj (Kd.R_lower (Kd.R_new' (Kd.R_new' (Kd.R_new' ho1 (Kd.R_lt (by (with_reducible repeat (first | apply zd | apply ze | apply zf)); exact (zm (zn (p := ⟨gb438, 1, none⟩) (zn (p := ⟨gb438, 0, none⟩) (zu HO_408001.out BK438.out (by decide)) (fun _ hk => hk.2) (.slice Ao82 t432.length co82)) (fun _ hk => hk.2) (.slice Ao86 t435.length co86)) (fun _ h_ => h_.1))))) (Kd.R_lt (by (with_reducible repeat (first | apply zd | apply ze | apply zf)); exact (zm (zn (p := ⟨gb438, 1, none⟩) (zn (p := ⟨gb438, 0, none⟩) (zu HO_422001.out BK438.out (by decide)) (fun _ hk => hk.2) (.slice Ao82 t432.length co82)) (fun _ hk => hk.2) (.slice Ao86 t435.length co86)) (fun _ h_ => h_.1))))) (Kd.R_lt (by (with_reducible repeat (first | apply zd | apply ze | apply zf)); exact (zm (zn (p := ⟨gb438, 1, none⟩) (zn (p := ⟨gb438, 0, none⟩) (zu HO437.out BK438.out (by decide)) (fun _ hk => hk.2) (.slice Ao82 t432.length co82)) (fun _ hk => hk.2) (.slice Ao86 t435.length co86)) (fun _ h_ => h_.1))))) (zk (by repeat (first | (with_reducible first | exact HB.out | apply zg | apply zh | apply zi | refine zs ?_ GE407.out | refine zs ?_ GE421.out | refine zs ?_ GE438.out) | exact HB.out)))); have n10_ := zj (Kd.R_lower (Kd.R_new' (Kd.R_new' ho2 (Kd.R_lt (by (with_reducible repeat (first | apply zd | apply ze | apply zf)); exact (zm (zn (p := ⟨gb438, 1, none⟩) (zn (p := ⟨gb438, 0, none⟩) (zu HO_4.out BK438.out (by decide)) (fun _ hk => hk.2) (.slice Ao82 t432.length co82)) (fun _ hk => hk.2) (.slice Ao86 t435.length co86)) (fun _ h_ => h_.1))))) (Kd.R_lt (by (with_reducible repeat (first | apply zd | apply ze | apply zf)); exact (zm (zn (p := ⟨gb438, 1, none⟩) (zn (p := ⟨gb438, 0, none⟩) (zu HO431.out BK438.out (by decide)) (fun _ hk => hk.2) (.slice Ao82 t432.length co82)) (fun _ hk => hk.2) (.slice Ao86 t435.length co86)) (fun _ h_ => h_.1))))) (zk (by repeat (first | (with_reducible first | exact HB.out | apply zg | apply zh | apply zi | refine zs ?_ GE407.out | refine zs ?_ GE421.out | refine zs ?_ GE438.out) | exact HB.out)))); have n11_ := zj (zo (g := gb407) (o := .cells #[.slice Ao11 t401.length co11, .slice Ao13 t404.length co13] 36 (0, 0)) (by (with_reducible repeat (first | refine za ?_ _ | refine zb ?_ | refine zc ?_ _)); refine zr ?_ NB407_438.out _; (with_reducible repeat (first | refine za ?_ _ | refine zb ?_ | refine zc ?_ _)); refine zr ?_ NB407_438.out _; (with_reducible repeat (first | refine za ?_ _ | refine zb ?_ | refine zc ?_ _)); exact BK407.out) hb); have n12_ := zj (zo (g := gb421) (o := .cells #[.slice Ao21 t415.length co21, .slice Ao24 t418.length co24] 36 (0, 0)) (by (with_reducible repeat (first | refine za ?_ _ | refine zb ?_ | refine zc ?_ _)); refine zr ?_ NB421_438.out _; (with_reducible repeat (first | refine za ?_ _ | refine zb ?_ | refine zc ?_ _)); refine zr ?_ NB421_438.out _; (with_reducible repeat (first | refine za ?_ _ | refine zb ?_ | refine zc ?_ _)); exact BK421.out) hb); have n13_ := zj (zo (g := gb438) (o := .cells #[.slice Ao82 t432.length co82, .slice Ao86 t435.length co86] 36 (0, 0)) (by (with_reducible repeat (first | refine za ?_ _ | refine zb ?_ | refine zc ?_ _)); refine zp (cs := #[.slice Ao82 t432.length co82, .slice none 0 0]) ?_ 1 _ rfl; (with_reducible repeat (first | refine za ?_ _ | refine zb ?_ | refine zc ?_ _)); refine zp (cs := #[.slice none 0 0, .slice none 0 0]) ?_ 0 _ rfl; (with_reducible repeat (first | refine za ?_ _ | refine zb ?_ | refine zc ?_ _)); exact BK438.out) hb); have n14_ := zj (zl (by repeat (first | (with_reducible first | exact HB.out | apply zg | apply zh | apply zi | refine zs ?_ GE407.out | refine zs ?_ GE421.out | refine zs ?_ GE438.out) | exact HB.out)) hb); clear HO_4; clear HO_408000; clear HO_408001; clear HO_422000; clear HO_422001; clear HO431; clear HO434; clear HO437; clear BK407; clear BK421; clear BK438; clear HB; have HO_4 := n0_; have HO_408000 := n1_; have HO_408001 := n2_; have HO_422000 := n3_; have HO_422001 := n4_; have HO431 := n5_; have HO434 := n6_; have HO437 := n7_; have HO441 := n8_; have HO444 := n9_; have HO447 := n10_; have BK407 := n11_; have BK421 := n12_; have BK438 := n13_; have HB := n14_; clear n0_ n1_ n2_ n3_ n4_ n5_ n6_ n7_ n8_ n9_ n10_ n11_ n12_ n13_ n14_; (try clear hb); (try clear hb2); (try clear hk); (try clear hi); (try clear ho0); (try clear ho1); (try clear ho2)) | ((with_reducible refine gate_dst (N := 12) rfl ?_); (try (refine gate_guard (by rfl) ?_; dsimp only)); refine box_event ?hg (N := 12) ?hd (cs := #[.slice none 0 0, .slice none 0 0]) (t := 36) ?hr ?_; (case hd => rfl); (case hg => rfl); (case hr => first | (go_simp; done) | (go_simp; rfl)); intro gb449 hg w88 hbox hb; have n0_ := zj (zt (by (with_reducible repeat (first | apply zd | apply ze | apply zf)); exact HO_4.out) hb); have n1_ := zj (zt (by (with_reducible repeat (first | apply zd | apply ze | apply zf)); exact HO_408000.out) hb); have n2_ := zj (zt (by (with_reducible repeat (first | apply zd | apply ze | apply zf)); exact HO_408001.out) hb); have n3_ := zj (zt (by (with_reducible repeat (first | apply zd | apply ze | apply zf)); exact HO_422000.out) hb); have n4_ := zj (zt (by (with_reducible repeat (first | apply zd | apply ze | apply zf)); exact HO_422001.out) hb); have n5_ := zj (zt (by (with_reducible repeat (first | apply zd | apply ze | apply zf)); exact HO431.out) hb); have n6_ := zj (zt (by (with_reducible repeat (first | apply zd | apply ze | apply zf)); exact HO434.out) hb); have n7_ := zj (zt (by (with_reducible repeat (first | apply zd | apply ze | apply zf)); exact HO437.out) hb); have n8_ := zj (zt (by (with_reducible repeat (first | apply zd | apply ze | apply zf)); exact HO441.out) hb); have n9_ := zj (zt (by (with_reducible repeat (first | apply zd | apply ze | apply zf)); exact HO444.out) hb); have n10_ := zj (zt (by (with_reducible repeat (first | apply zd | apply ze | apply zf)); exact HO447.out) hb); have n11_ := zj (zo (g := gb407) (o := .cells #[.slice Ao11 t401.length co11, .slice Ao13 t404.length co13] 36 (0, 0)) (by (with_reducible repeat (first | refine za ?_ _ | refine zb ?_ | refine zc ?_ _)); exact BK407.out) hb); have n12_ := zj (zo (g := gb421) (o := .cells #[.slice Ao21 t415.length co21, .slice Ao24 t418.length co24] 36 (0, 0)) (by (with_reducible repeat (first | refine za ?_ _ | refine zb ?_ | refine zc ?_ _)); exact BK421.out) hb); have n13_ := zj (zo (g := gb438) (o := .cells #[.slice Ao82 t432.length co82, .slice Ao86 t435.length co86] 36 (0, 0)) (by (with_reducible repeat (first | refine za ?_ _ | refine zb ?_ | refine zc ?_ _)); exact BK438.out) hb); have n14_ := zj (zl (by repeat (first | (with_reducible first | exact HB.out | apply zg | apply zh | apply zi | refine zs ?_ GE407.out | refine zs ?_ GE421.out | refine zs ?_ GE438.out) | exact HB.out)) hb); have n15_ := zj (hbox); have n16_ := zj ((by rw [hg]; exact (zk (by repeat (first | (with_reducible first | exact HB.out | apply zg | apply zh | apply zi | refine zs ?_ GE407.out | refine zs ?_ GE421.out | refine zs ?_ GE438.out) | exact HB.out))) : w.heap.size ≤ gb449)); have n17_ := zj ((by rw [hg]; exact (zk (by repeat (first | (with_reducible first | exact HB.out | apply zg | apply zh | apply zi | refine zs ?_ GE407.out | refine zs ?_ GE421.out | refine zs ?_ GE438.out) | exact HB.out))) : w.heap.size ≤ gb449)); have n18_ := zj ((by rw [hg]; exact Nat.ne_of_lt (blk_lt (g := gb407) (o := .cells #[.slice Ao11 t401.length co11, .slice Ao13 t404.length co13] 36 (0, 0)) (by (with_reducible repeat (first | refine za ?_ _ | refine zb ?_ | refine zc ?_ _)); exact BK407.out)) : gb407 ≠ gb449)); have n19_ := zj ((by rw [hg]; exact Nat.ne_of_gt (blk_lt (g := gb407) (o := .cells #[.slice Ao11 t401.length co11, .slice Ao13 t404.length co13] 36 (0, 0)) (by (with_reducible repeat (first | refine za ?_ _ | refine zb ?_ | refine zc ?_ _)); exact BK407.out)) : gb449 ≠ gb407)); have n20_ := zj ((by rw [hg]; exact Nat.ne_of_lt (blk_lt (g := gb421) (o := .cells #[.slice Ao21 t415.length co21, .slice Ao24 t418.length co24] 36 (0, 0)) (by (with_reducible repeat (first | refine za ?_ _ | refine zb ?_ | refine zc ?_ _)); exact BK421.out)) : gb421 ≠ gb449)); have n21_ := zj ((by rw [hg]; exact Nat.ne_of_gt (blk_lt (g := gb421) (o := .cells #[.slice Ao21 t415.length co21, .slice Ao24 t418.length co24] 36 (0, 0)) (by (with_reducible repeat (first | refine za ?_ _ | refine zb ?_ | refine zc ?_ _)); exact BK421.out)) : gb449 ≠ gb421)); have n22_ := zj ((by rw [hg]; exact Nat.ne_of_lt (blk_lt (g := gb438) (o := .cells #[.slice Ao82 t432.length co82, .slice Ao86 t435.length co86] 36 (0, 0)) (by (with_reducible repeat (first | refine za ?_ _ | refine zb ?_ | refine zc ?_ _)); exact BK438.out)) : gb438 ≠ gb449)); have n23_ := zj ((by rw [hg]; exact Nat.ne_of_gt (blk_lt (g := gb438) (o := .cells #[.slice Ao82 t432.length co82, .slice Ao86 t435.length co86] 36 (0, 0)) (by (with_reducible repeat (first | refine za ?_ _ | refine zb ?_ | refine zc ?_ _)); exact BK438.out)) : gb449 ≠ gb438)); clear HO_4; clear HO_408000; clear HO_408001; clear HO_422000; clear HO_422001; clear HO431; clear HO434; clear HO437; clear HO441; clear HO444; clear HO447; clear BK407; clear BK421; clear BK438; clear HB; have HO_4 := n0_; have HO_408000 := n1_; have HO_408001 := n2_; have HO_422000 := n3_; have HO_422001 := n4_; have HO431 := n5_; have HO434 := n6_; have HO437 := n7_; have HO441 := n8_; have HO444 := n9_; have HO447 := n10_; have BK407 := n11_; have BK421 := n12_; have BK438 := n13_; have HB := n14_; have BK449 := n15_; have GW449 := n16_; have GE449 := n17_; have NB407_449 := n18_; have NB449_407 := n19_; have NB421_449 := n20_; have NB449_421 := n21_; have NB438_449 := n22_; have NB449_438 := n23_; clear n0_ n1_ n2_ n3_ n4_ n5_ n6_ n7_ n8_ n9_ n10_ n11_ n12_ n13_ n14_ n15_ n16_ n17_ n18_ n19_ n20_ n21_ n22_ n23_; clear hb hbox hg; obtain ⟨Ao89, co89, eo89⟩ := Kd.R_slice HO441.out; subst eo89; have hnb90 := NB449_407.out; have hnc90 := NB407_449.out; have hnb91 := NB449_421.out; have hnc91 := NB421_449.out; have hnb92 := NB449_438.out; have hnc92 := NB438_449.out; have hcz93_0 : w88.cell? ⟨gb449, 0, none⟩ = some (.slice none 0 0) := (zq BK449.out 0).trans rfl; have hcz93_1 : w88.cell? ⟨gb449, 1, none⟩ = some (.slice none 0 0) := (zq BK449.out 1).trans rfl; have hfz93_0 := zv BK449.out 0; have hfz93_1 := zv BK449.out 1; obtain ⟨Ao94, co94, eo94⟩ := Kd.R_slice HO444.out; subst eo94))
         have n0_ : Aside0 (Kd.R Kd.bool 4 ((w88.setCell ⟨gb449, 0, none⟩ (.slice Ao89 t439.length co89)).setCell ⟨gb449, 1, none⟩ (.slice Ao94 t442.length co94)) w.heap.size (fun k_ => some k_ ≠ (.slice Ao79 y429.length co79 : Value).ownBlock ∧ some k_ ≠ (v446 : Value).ownBlock) (.slice Ao18 t408.length co18) t408) := ⟨by (with_reducible repeat (first | apply zd | apply ze | apply zf)); exact zm (zn (p := ⟨gb449, 1, none⟩) (zn (p := ⟨gb449, 0, none⟩) (zu HO_4.out BK449.out (by decide)) (fun _ hk => hk.2) (.slice Ao89 t439.length co89)) (fun _ hk => hk.2) (.slice Ao94 t442.length co94)) (fun _ hk => ⟨hk.1.1.2, hk.1.2⟩)⟩
         have n1_ : Aside0 (Kd.R Kd.string 9 ((w88.setCell ⟨gb449, 0, none⟩ (.slice Ao89 t439.length co89)).setCell ⟨gb449, 1, none⟩ (.slice Ao94 t442.length co94)) w.heap.size (fun k_ => some k_ ≠ (.slice Ao21 t415.length co21 : Value).ownBlock ∧ some k_ ≠ (.slice Ao82 t432.length co82 : Value).ownBlock ∧ some k_ ≠ (.slice Ao89 t439.length co89 : Value).ownBlock) (.slice Ao11 t401.length co11) t401) := ⟨by (with_reducible repeat (first | apply zd | apply ze | apply zf)); exact zm (zn (p := ⟨gb449, 1, none⟩) (zn (p := ⟨gb449, 0, none⟩) (zu HO_408000.out BK449.out (by decide)) (fun _ hk => hk.2) (.slice Ao89 t439.length co89)) (fun _ hk => hk.2) (.slice Ao94 t442.length co94)) (fun _ hk => ⟨hk.1.1.1, ⟨hk.1.1.2, hk.1.2⟩⟩)⟩
         have n2_ : Aside0 (Kd.R k74 74 ((w88.setCell ⟨gb449, 0, none⟩ (.slice Ao89 t439.length co89)).setCell ⟨gb449, 1, none⟩ (.slice Ao94 t442.length co94)) w.heap.size (fun k_ => some k_ ≠ (.slice Ao24 t418.length co24 : Value).ownBlock ∧ some k_ ≠ (.slice Ao86 t435.length co86 : Value).ownBlock ∧ some k_ ≠ (.slice Ao94 t442.length co94 : Value).ownBlock) (.slice Ao13 t404.length co13) t404) := ⟨by (with_reducible repeat (first | apply zd | apply ze | apply zf)); exact zm (zn (p := ⟨gb449, 1, none⟩) (zn (p := ⟨gb449, 0, none⟩) (zu HO_408001.out BK449.out (by decide)) (fun _ hk => hk.2) (.slice Ao89 t439.length co89)) (fun _ hk => hk.2) (.slice Ao94 t442.length co94)) (fun _ hk => ⟨hk.1.1.1, ⟨hk.1.1.2, hk.1.2⟩⟩)⟩
         have n3_ : Aside0 (Kd.R Kd.string 9 ((w88.setCell ⟨gb449, 0, none⟩ (.slice Ao89 t439.length co89)).setCell ⟨gb449, 1, none⟩ (.slice Ao94 t442.length co94)) w.heap.size (fun k_ => some k_ ≠ (.slice Ao11 t401.length co11 : Value).ownBlock ∧ some k_ ≠ (.slice Ao82 t432.length co82 : Value).ownBlock ∧ some k_ ≠ (.slice Ao89 t439.length co89 : Value).ownBlock) (.slice Ao21 t415.length co21) t415) := ⟨by (with_reducible repeat (first | apply zd | apply ze | apply zf)); exact zm (zn (p := ⟨gb449, 1, none⟩) (zn (p := ⟨gb449, 0, none⟩) (zu HO_422000.out BK449.out (by decide)) (fun _ hk => hk.2) (.slice Ao89 t439.length co89)) (fun _ hk => hk.2) (.slice Ao94 t442.length co94)) (fun _ hk => ⟨hk.1.1.1, ⟨hk.1.1.2, hk.1.2⟩⟩)⟩
         have n4_ : Aside0 (Kd.R k74 74 ((w88.setCell ⟨gb449, 0, none⟩ (.slice Ao89 t439.length co89)).setCell ⟨gb449, 1, none⟩ (.slice Ao94 t442.length co94)) w.heap.size (fun k_ => some k_ ≠ (.slice Ao13 t404.length co13 : Value).ownBlock ∧ some k_ ≠ (.slice Ao86 t435.length co86 : Value).ownBlock ∧ some k_ ≠ (.slice Ao94 t442.length co94 : Value).ownBlock) (.slice Ao24 t418.length co24) t418) := ⟨by (with_reducible repeat (first | apply zd | apply ze | apply zf)); exact zm (zn (p := ⟨gb449, 1, none⟩) (zn (p := ⟨gb449, 0, none⟩) (zu HO_422001.out BK449.out (by decide)) (fun _ hk => hk.2) (.slice Ao89 t439.length co89)) (fun _ hk => hk.2) (.slice Ao94 t442.length co94)) (fun _ hk => ⟨hk.1.1.1, ⟨hk.1.1.2, hk.1.2⟩⟩)⟩
         have n5_ : Aside0 (Kd.R Kd.bool 4 ((w88.setCell ⟨gb449, 0, none⟩ (.slice Ao89 t439.length co89)).setCell ⟨gb449, 1, none⟩ (.slice Ao94 t442.length co94)) w.heap.size (fun k_ => some k_ ≠ (.slice Ao18 t408.length co18 : Value).ownBlock ∧ some k_ ≠ (v446 : Value).ownBlock) (.slice Ao79 y429.length co79) y429) := ⟨by (with_reducible repeat (first | apply zd | apply ze | apply zf)); exact zm (zn (p := ⟨gb449, 1, none⟩) (zn (p := ⟨gb449, 0, none⟩) (zu HO431.out BK449.out (by decide)) (fun _ hk => hk.2) (.slice Ao89 t439.length co89)) (fun _ hk => hk.2) (.slice Ao94 t442.length co94)) (fun _ hk => ⟨hk.1.1.2, hk.1.2⟩)⟩
         have n6_ : Aside0 (Kd.R Kd.string 9 ((w88.setCell ⟨gb449, 0, none⟩ (.slice Ao89 t439.length co89)).setCell ⟨gb449, 1, none⟩ (.slice Ao94 t442.length co94)) w.heap.size (fun k_ => some k_ ≠ (.slice Ao11 t401.length co11 : Value).ownBlock ∧ some k_ ≠ (.slice Ao21 t415.length co21 : Value).ownBlock ∧ some k_ ≠ (.slice Ao89 t439.length co89 : Value).ownBlock) (.slice Ao82 t432.length co82) t432) := ⟨by (with_reducible repeat (first | apply zd | apply ze | apply zf)); exact zm (zn (p := ⟨gb449, 1, none⟩) (zn (p := ⟨gb449, 0, none⟩) (zu HO434.out BK449.out (by decide)) (fun _ hk => hk.2) (.slice Ao89 t439.length co89)) (fun _ hk => hk.2) (.slice Ao94 t442.length co94)) (fun _ hk => ⟨hk.1.1.1.2, ⟨hk.1.1.2, hk.1.2⟩⟩)⟩
         have n7_ : Aside0 (Kd.R k74 74 ((w88.setCell ⟨gb449, 0, none⟩ (.slice Ao89 t439.length co89)).setCell ⟨gb449, 1, none⟩ (.slice Ao94 t442.length co94)) w.heap.size (fun k_ => some k_ ≠ (.slice Ao13 t404.length co13 : Value).ownBlock ∧ some k_ ≠ (.slice Ao24 t418.length co24 : Value).ownBlock ∧ some k_ ≠ (.slice Ao94 t442.length co94 : Value).ownBlock) (.slice Ao86 t435.length co86) t435) := ⟨by (with_reducible repeat (first | apply zd | apply ze | apply zf)); exact zm (zn (p := ⟨gb449, 1, none⟩) (zn (p := ⟨gb449, 0, none⟩) (zu HO437.out BK449.out (by decide)) (fun _ hk => hk.2) (.slice Ao89 t439.length co89)) (fun _ hk => hk.2) (.slice Ao94 t442.length co94)) (fun _ hk => ⟨hk.1.1.1.2, ⟨hk.1.1.2, hk.1.2⟩⟩)⟩
         have n8_ : Aside0 (Kd.R Kd.string 9 ((w88.setCell ⟨gb449, 0, none⟩ (.slice Ao89 t439.length co89)).setCell ⟨gb449, 1, none⟩ (.slice Ao94 t442.length co94)) w.heap.size (fun k_ => some k_ ≠ (.slice Ao11 t401.length co11 : Value).ownBlock ∧ some k_ ≠ (.slice Ao21 t415.length co21 : Value).ownBlock ∧ some k_ ≠ (.slice Ao82 t432.length co82 : Value).ownBlock) (.slice Ao89 t439.length co89) t439) := ⟨by (with_reducible repeat (first | apply zd | apply ze | apply zf)); exact zm (zn (p := ⟨gb449, 1, none⟩) (zn (p := ⟨gb449, 0, none⟩) (zu HO441.out BK449.out (by decide)) (fun _ hk => hk.2) (.slice Ao89 t439.length co89)) (fun _ hk => hk.2) (.slice Ao94 t442.length co94)) (fun _ hk => ⟨hk.1.1.1.2, ⟨hk.1.1.2, hk.1.2⟩⟩)⟩
         have n9_ : Aside0 (Kd.R k74 74 ((w88.setCell ⟨gb449, 0, none⟩ (.slice Ao89 t439.length co89)).setCell ⟨gb449, 1, none⟩ (.slice Ao94 t442.length co94)) w.heap.size (fun k_ => some k_ ≠ (.slice Ao13 t404.length co13 : Value).ownBlock ∧ some k_ ≠ (.slice Ao24 t418.length co24 : Value).ownBlock ∧ some k_ ≠ (.slice Ao86 t435.length co86 : Value).ownBlock) (.slice Ao94 t442.length co94) t442) := ⟨by (with_reducible repeat (first | apply zd | apply ze | apply zf)); exact zm (zn (p := ⟨gb449, 1, none⟩) (zn (p := ⟨gb449, 0, none⟩) (zu HO444.out BK449.out (by decide)) (fun _ hk => hk.2) (.slice Ao89 t439.length co89)) (fun _ hk => hk.2) (.slice Ao94 t442.length co94)) (fun _ hk => ⟨hk.1.1.1.2, ⟨hk.1.1.2, hk.1.2⟩⟩)⟩
         have n10_ : Aside0 (Kd.R Kd.bool 4 ((w88.setCell ⟨gb449, 0, none⟩ (.slice Ao89 t439.length co89)).setCell ⟨gb449, 1, none⟩ (.slice Ao94 t442.length co94)) w.heap.size (fun k_ => some k_ ≠ (.slice Ao18 t408.length co18 : Value).ownBlock ∧ some k_ ≠ (.slice Ao79 y429.length co79 : Value).ownBlock) v446 t445) := ⟨by (with_reducible repeat (first | apply zd | apply ze | apply zf)); exact zm (zn (p := ⟨gb449, 1, none⟩) (zn (p := ⟨gb449, 0, none⟩) (zu HO447.out BK449.out (by decide)) (fun _ hk => hk.2) (.slice Ao89 t439.length co89)) (fun _ hk => hk.2) (.slice Ao94 t442.length co94)) (fun _ hk => ⟨hk.1.1.2, hk.1.2⟩)⟩
         have n11_ : Aside0 (((w88.setCell ⟨gb449, 0, none⟩ (.slice Ao89 t439.length co89)).setCell ⟨gb449, 1, none⟩ (.slice Ao94 t442.length co94)).heap[gb407]? = some (.cells #[.slice Ao11 t401.length co11, .slice Ao13 t404.length co13] 36 (0, 0))) := ⟨by (with_reducible repeat (first | refine za ?_ _ | refine zb ?_ | refine zc ?_ _)); refine zr ?_ NB407_449.out _; (with_reducible repeat (first | refine za ?_ _ | refine zb ?_ | refine zc ?_ _)); refine zr ?_ NB407_449.out _; (with_reducible repeat (first | refine za ?_ _ | refine zb ?_ | refine zc ?_ _)); exact BK407.out⟩
         have n12_ : Aside0 (((w88.setCell ⟨gb449, 0, none⟩ (.slice Ao89 t439.length co89)).setCell ⟨gb449, 1, none⟩ (.slice Ao94 t442.length co94)).heap[gb421]? = some (.cells #[.slice Ao21 t415.length co21, .slice Ao24 t418.length co24] 36 (0, 0))) := ⟨by (with_reducible repeat (first | refine za ?_ _ | refine zb ?_ | refine zc ?_ _)); refine zr ?_ NB421_449.out _; (with_reducible repeat (first | refine za ?_ _ | refine zb ?_ | refine zc ?_ _)); refine zr ?_ NB421_449.out _; (with_reducible repeat (first | refine za ?_ _ | refine zb ?_ | refine zc ?_ _)); exact BK421.out⟩
         have n13_ : Aside0 (((w88.setCell ⟨gb449, 0, none⟩ (.slice Ao89 t439.length co89)).setCell ⟨gb449, 1, none⟩ (.slice Ao94 t442.length co94)).heap[gb438]? = some (.cells #[.slice Ao82 t432.length co82, .slice Ao86 t435.length co86] 36 (0, 0))) := ⟨by (with_reducible repeat (first | refine za ?_ _ | refine zb ?_ | refine zc ?_ _)); refine zr ?_ NB438_449.out _; (with_reducible repeat (first | refine za ?_ _ | refine zb ?_ | refine zc ?_ _)); refine zr ?_ NB438_449.out _; (with_reducible repeat (first | refine za ?_ _ | refine zb ?_ | refine zc ?_ _)); exact BK438.out⟩
         have n14_ : Aside0 (((w88.setCell ⟨gb449, 0, none⟩ (.slice Ao89 t439.length co89)).setCell ⟨gb449, 1, none⟩ (.slice Ao94 t442.length co94)).heap[gb449]? = some (.cells #[.slice Ao89 t439.length co89, .slice Ao94 t442.length co94] 36 (0, 0))) := ⟨by (with_reducible repeat (first | refine za ?_ _ | refine zb ?_ | refine zc ?_ _)); refine zp (cs := #[.slice Ao89 t439.length co89, .slice none 0 0]) ?_ 1 _ rfl; (with_reducible repeat (first | refine za ?_ _ | refine zb ?_ | refine zc ?_ _)); refine zp (cs := #[.slice none 0 0, .slice none 0 0]) ?_ 0 _ rfl; (with_reducible repeat (first | refine za ?_ _ | refine zb ?_ | refine zc ?_ _)); exact BK449.out⟩
         have n15_ : Aside0 (Below w.heap.size w ((w88.setCell ⟨gb449, 0, none⟩ (.slice Ao89 t439.length co89)).setCell ⟨gb449, 1, none⟩ (.slice Ao94 t442.length co94))) := ⟨by repeat (first | (with_reducible first | exact HB.out | apply zg | apply zh | apply zi | refine zs ?_ GE407.out | refine zs ?_ GE421.out | refine zs ?_ GE438.out | refine zs ?_ GE449.out) | exact HB.out)⟩
         (try clear HO_4)
         (try clear HO_408000)
         (try clear HO_408001)
         (try clear HO_422000)
         (try clear HO_422001)
         (try clear HO431)
         (try clear HO434)
         (try clear HO437)
         (try clear HO441)
         (try clear HO444)
         (try clear HO447)
         (try clear BK407)
         (try clear BK421)
         (try clear BK438)
         (try clear BK449)
         (try clear HB)
         generalize ((w88.setCell ⟨gb449, 0, none⟩ (.slice Ao89 t439.length co89)).setCell ⟨gb449, 1, none⟩ (.slice Ao94 t442.length co94)) = w95 at n0_ n1_ n2_ n3_ n4_ n5_ n6_ n7_ n8_ n9_ n10_ n11_ n12_ n13_ n14_ n15_ ⊢
         have HO_4 := n0_
         have HO_408000 := n1_
         have HO_408001 := n2_
         have HO_422000 := n3_
         have HO_422001 := n4_
         have HO431 := n5_
         have HO434 := n6_
         have HO437 := n7_
         have HO441 := n8_
         have HO444 := n9_
         have HO447 := n10_
         have BK407 := n11_
         have BK421 := n12_
         have BK438 := n13_
         have BK449 := n14_
         have HB := n15_
         clear n0_ n1_ n2_ n3_ n4_ n5_ n6_ n7_ n8_ n9_ n10_ n11_ n12_ n13_ n14_ n15_
         have n0_ := zj (zf HO_4.out)
         have n1_ := zj (zf HO_408000.out)
         have n2_ := zj (zf HO_408001.out)
         have n3_ := zj (zf HO_422000.out)
         have n4_ := zj (zf HO_422001.out)
         have n5_ := zj (zf HO431.out)
         have n6_ := zj (zf HO434.out)
         have n7_ := zj (zf HO437.out)
         have n8_ := zj (zf HO441.out)
         have n9_ := zj (zf HO444.out)
         have n10_ := zj (zf HO447.out)
         have n11_ := zj (zb BK407.out)
         have n12_ := zj (zb BK421.out)
         have n13_ := zj (zb BK438.out)
         have n14_ := zj (zb BK449.out)
         have n15_ := zj (zi HB.out)
         clear HO_4
         clear HO_408000
         clear HO_408001
         clear HO_422000
         clear HO_422001
         clear HO431
         clear HO434
         clear HO437
         clear HO441
         clear HO444
         clear HO447
         clear BK407
         clear BK421
         clear BK438
         clear BK449
         clear HB
         have HO_4 := n0_
         have HO_408000 := n1_
         have HO_408001 := n2_
         have HO_422000 := n3_
         have HO_422001 := n4_
         have HO431 := n5_
         have HO434 := n6_
         have HO437 := n7_
         have HO441 := n8_
         have HO444 := n9_
         have HO447 := n10_
         have BK407 := n11_
         have BK421 := n12_
         have BK438 := n13_
         have BK449 := n14_
         have HB := n15_
         clear n0_ n1_ n2_ n3_ n4_ n5_ n6_ n7_ n8_ n9_ n10_ n11_ n12_ n13_ n14_ n15_
         refine start_ (n := 32) (S := fun w' => w'.cell? ⟨gb421, 0, none⟩ = some (.slice Ao21 t415.length co21) ∧ w'.cell? ⟨gb421, 1, none⟩ = some (.slice Ao24 t418.length co24) ∧ w'.cell? ⟨gb407, 0, none⟩ = some (.slice Ao11 t401.length co11) ∧ w'.cell? ⟨gb407, 1, none⟩ = some (.slice Ao13 t404.length co13) ∧ w'.cell? ⟨gb438, 0, none⟩ = some (.slice Ao82 t432.length co82) ∧ w'.cell? ⟨gb438, 1, none⟩ = some (.slice Ao86 t435.length co86) ∧ w'.cell? ⟨gb449, 0, none⟩ = some (.slice Ao89 t439.length co89) ∧ w'.cell? ⟨gb449, 1, none⟩ = some (.slice Ao94 t442.length co94)) (ds := []) #[false, false, false, false, false, false, false, false, false, false, false, false, false, false, false, false, false, false, false, false, false, false, false, false, false, false, false, false, false, false, false, false] (by kernel_rfl) rfl rfl ⟨(zq BK421.out 0).trans rfl, (zq BK421.out 1).trans rfl, (zq BK407.out 0).trans rfl, (zq BK407.out 1).trans rfl, (zq BK438.out 0).trans rfl, (zq BK438.out 1).trans rfl, (zq BK449.out 0).trans rfl, (zq BK449.out 1).trans rfl⟩ (fun hHeld => ?_); refine with_tabW laws_FnFalls.tab21 laws_FnFalls.bits21 (fun HT_ HW_ => ?_)
         generalize w95.drew = w96 at HO_4 HO_408000 HO_408001 HO_422000 HO_422001 HO431 HO434 HO437 HO441 HO444 HO447 BK407 BK421 BK438 BK449 HB hHeld ⊢
         refine pure_ (i := 0) (N := some 121) (v := ?_) (a' := ?_) #[true, false, false, false, false, false, false, false, false, false, false, false, false, false, false, false, false, false, false, false, false, false, false, false, false, false, false, false, false, false, false, false] rfl rfl (any_of HT_.out (by kernel_rfl)) (fun _ _ _ h => h) (Or.inl ⟨by rfl, ?_⟩) ?_ ?_
         rotate_left
         ·intro w'
          go_simp
          with_reducible rfl
         rotate_left
         ·simp only [Act.put, List.setIfInBounds_toArray, List.set_cons_zero, List.set_cons_succ, i64_w, i32_w]
          rfl
         refine take_ (i := 1) (N := some 122) (v := ?_) (a' := ?_) #[true, true, false, false, false, false, false, false, false, false, false, false, false, false, false, false, false, false, false, false, false, false, false, false, false, false, false, false, false, false, false, false] rfl rfl (take_ofW HT_.out HW_.out (by kernel_rfl)) (fun _ _ _ h => h) (Or.inl ⟨by rfl, ?_⟩) hHeld ?_ ?_
         rotate_left
         ·rintro w' ⟨s0, s1, s2, s3, s4, s5, s6, s7⟩
          go_simp
          with_reducible rfl
         rotate_left
         ·simp only [Act.put, List.setIfInBounds_toArray, List.set_cons_zero, List.set_cons_succ, i64_w, i32_w]
          rfl
         refine pure_ (i := 2) (N := some 123) (v := ?_) (a' := ?_) #[true, true, true, false, false, false, false, false, false, false, false, false, false, false, false, false, false, false, false, false, false, false, false, false, false, false, false, false, false, false, false, false] rfl rfl (any_of HT_.out (by kernel_rfl)) (fun _ _ _ h => h) (Or.inl ⟨by rfl, ?_⟩) ?_ ?_
         rotate_left
         ·intro w'
          go_simp
          with_reducible rfl
         rotate_left
         ·simp only [Act.put, List.setIfInBounds_toArray, List.set_cons_zero, List.set_cons_succ, i64_w, i32_w]
          rfl
         refine pure_ (i := 3) (N := some 124) (v := ?_) (a' := ?_) #[true, true, true, true, false, false, false, false, false, false, false, false, false, false, false, false, false, false, false, false, false, false, false, false, false, false, false, false, false, false, false, false] rfl rfl (any_of HT_.out (by kernel_rfl)) (fun _ _ _ h => h) (Or.inl ⟨by rfl, ?_⟩) ?_ ?_
         rotate_left
         ·intro w'
          go_simp
          with_reducible rfl
         rotate_left
         ·simp only [Act.put, List.setIfInBounds_toArray, List.set_cons_zero, List.set_cons_succ, i64_w, i32_w]
          rfl
         refine pure_ (i := 4) (N := some 125) (v := ?_) (a' := ?_) #[true, true, true, true, true, false, false, false, false, false, false, false, false, false, false, false, false, false, false, false, false, false, false, false, false, false, false, false, false, false, false, false] rfl rfl (any_of HT_.out (by kernel_rfl)) (fun _ _ _ h => h) (Or.inl ⟨by rfl, ?_⟩) ?_ ?_
         rotate_left
         ·intro w'
          go_simp
          with_reducible rfl
         rotate_left
         ·simp only [Act.put, List.setIfInBounds_toArray, List.set_cons_zero, List.set_cons_succ, i64_w, i32_w]
          rfl
         refine pure_ (i := 5) (N := some 126) (v := ?_) (a' := ?_) #[true, true, true, true, true, true, false, false, false, false, false, false, false, false, false, false, false, false, false, false, false, false, false, false, false, false, false, false, false, false, false, false] rfl rfl (any_of HT_.out (by kernel_rfl)) (fun _ _ _ h => h) (Or.inl ⟨by rfl, ?_⟩) ?_ ?_
         rotate_left
         ·intro w'
          go_simp
          with_reducible rfl
         rotate_left
         ·simp only [Act.put, List.setIfInBounds_toArray, List.set_cons_zero, List.set_cons_succ, i64_w, i32_w]
          rfl
         refine pure_ (i := 8) (N := some 129) (v := ?_) (a' := ?_) #[true, true, true, true, true, true, false, false, true, false, false, false, false, false, false, false, false, false, false, false, false, false, false, false, false, false, false, false, false, false, false, false] rfl rfl (any_of HT_.out (by kernel_rfl)) (fun _ _ _ h => h) (Or.inl ⟨by rfl, ?_⟩) ?_ ?_
         rotate_left
         ·intro w'
          go_simp
          with_reducible rfl
         rotate_left
         ·simp only [Act.put, List.setIfInBounds_toArray, List.set_cons_zero, List.set_cons_succ, i64_w, i32_w]
          rfl
         refine take_ (i := 6) (N := some 127) (v := ?_) (a' := ?_) #[true, true, true, true, true, true, true, false, true, false, false, false, false, false, false, false, false, false, false, false, false, false, false, false, false, false, false, false, false, false, false, false] rfl rfl (take_ofW HT_.out HW_.out (by kernel_rfl)) (fun _ _ _ h => h) (Or.inl ⟨by rfl, ?_⟩) hHeld ?_ ?_
         rotate_left
         ·rintro w' ⟨s0, s1, s2, s3, s4, s5, s6, s7⟩
          go_simp
          with_reducible rfl
         rotate_left
         ·simp only [Act.put, List.setIfInBounds_toArray, List.set_cons_zero, List.set_cons_succ, i64_w, i32_w]
          rfl
         refine pure_ (i := 7) (N := some 128) (v := ?_) (a' := ?_) #[true, true, true, true, true, true, true, true, true, false, false, false, false, false, false, false, false, false, false, false, false, false, false, false, false, false, false, false, false, false, false, false] rfl rfl (any_of HT_.out (by kernel_rfl)) (fun _ _ _ h => h) (Or.inl ⟨by rfl, ?_⟩) ?_ ?_
         rotate_left
         ·intro w'
          go_simp
          with_reducible rfl
         rotate_left
         ·simp only [Act.put, List.setIfInBounds_toArray, List.set_cons_zero, List.set_cons_succ, i64_w, i32_w]
          rfl
         refine take_ (i := 9) (N := some 130) (v := ?_) (a' := ?_) #[true, true, true, true, true, true, true, true, true, true, false, false, false, false, false, false, false, false, false, false, false, false, false, false, false, false, false, false, false, false, false, false] rfl rfl (take_ofW HT_.out HW_.out (by kernel_rfl)) (fun _ _ _ h => h) (Or.inl ⟨by rfl, ?_⟩) hHeld ?_ ?_
         rotate_left
         ·rintro w' ⟨s0, s1, s2, s3, s4, s5, s6, s7⟩
          go_simp
          with_reducible rfl
         rotate_left
         ·simp only [Act.put, List.setIfInBounds_toArray, List.set_cons_zero, List.set_cons_succ, i64_w, i32_w]
          rfl
         refine pure_ (i := 10) (N := some 131) (v := ?_) (a' := ?_) #[true, true, true, true, true, true, true, true, true, true, true, false, false, false, false, false, false, false, false, false, false, false, false, false, false, false, false, false, false, false, false, false] rfl rfl (any_of HT_.out (by kernel_rfl)) (fun _ _ _ h => h) (Or.inl ⟨by rfl, ?_⟩) ?_ ?_
         rotate_left
         ·intro w'
          go_simp
          with_reducible rfl
         rotate_left
         ·simp only [Act.put, List.setIfInBounds_toArray, List.set_cons_zero, List.set_cons_succ, i64_w, i32_w]
          rfl
         refine pure_ (i := 11) (N := some 132) (v := ?_) (a' := ?_) #[true, true, true, true, true, true, true, true, true, true, true, true, false, false, false, false, false, false, false, false, false, false, false, false, false, false, false, false, false, false, false, false] rfl rfl (any_of HT_.out (by kernel_rfl)) (fun _ _ _ h => h) (Or.inl ⟨by rfl, ?_⟩) ?_ ?_
         rotate_left
         ·intro w'
          go_simp
          with_reducible rfl
         rotate_left
         ·simp only [Act.put, List.setIfInBounds_toArray, List.set_cons_zero, List.set_cons_succ, i64_w, i32_w]
          rfl
         refine pure_ (i := 12) (N := some 133) (v := ?_) (a' := ?_) #[true, true, true, true, true, true, true, true, true, true, true, true, true, false, false, false, false, false, false, false, false, false, false, false, false, false, false, false, false, false, false, false] rfl rfl (any_of HT_.out (by kernel_rfl)) (fun _ _ _ h => h) (Or.inl ⟨by rfl, ?_⟩) ?_ ?_
         rotate_left
         ·intro w'
          go_simp
          with_reducible rfl
         rotate_left
         ·simp only [Act.put, List.setIfInBounds_toArray, List.set_cons_zero, List.set_cons_succ, i64_w, i32_w]
          rfl
         refine pure_ (i := 13) (N := some 134) (v := ?_) (a' := ?_) #[true, true, true, true, true, true, true, true, true, true, true, true, true, true, false, false, false, false, false, false, false, false, false, false, false, false, false, false, false, false, false, false] rfl rfl (any_of HT_.out (by kernel_rfl)) (fun _ _ _ h => h) (Or.inl ⟨by rfl, ?_⟩) ?_ ?_
         rotate_left
         ·intro w'
          go_simp
          with_reducible rfl
         rotate_left
         ·simp only [Act.put, List.setIfInBounds_toArray, List.set_cons_zero, List.set_cons_succ, i64_w, i32_w]
          rfl
         refine pure_ (i := 14) (N := some 135) (v := ?_) (a' := ?_) #[true, true, true, true, true, true, true, true, true, true, true, true, true, true, true, false, false, false, false, false, false, false, false, false, false, false, false, false, false, false, false, false] rfl rfl (any_of HT_.out (by kernel_rfl)) (fun _ _ _ h => h) (Or.inl ⟨by rfl, ?_⟩) ?_ ?_
         rotate_left
         ·intro w'
          go_simp
          with_reducible rfl
         rotate_left
         ·simp only [Act.put, List.setIfInBounds_toArray, List.set_cons_zero, List.set_cons_succ, i64_w, i32_w]
          rfl
         refine pure_ (i := 16) (N := some 137) (v := ?_) (a' := ?_) #[true, true, true, true, true, true, true, true, true, true, true, true, true, true, true, false, true, false, false, false, false, false, false, false, false, false, false, false, false, false, false, false] rfl rfl (any_of HT_.out (by kernel_rfl)) (fun _ _ _ h => h) (Or.inl ⟨by rfl, ?_⟩) ?_ ?_
         rotate_left
         ·intro w'
          go_simp
          with_reducible rfl
         rotate_left
         ·simp only [Act.put, List.setIfInBounds_toArray, List.set_cons_zero, List.set_cons_succ, i64_w, i32_w]
          rfl
         refine take_ (i := 15) (N := some 136) (v := ?_) (a' := ?_) #[true, true, true, true, true, true, true, true, true, true, true, true, true, true, true, true, true, false, false, false, false, false, false, false, false, false, false, false, false, false, false, false] rfl rfl (take_ofW HT_.out HW_.out (by kernel_rfl)) (fun _ _ _ h => h) (Or.inl ⟨by rfl, ?_⟩) hHeld ?_ ?_
         rotate_left
         ·rintro w' ⟨s0, s1, s2, s3, s4, s5, s6, s7⟩
          go_simp
          with_reducible rfl
         rotate_left
         ·simp only [Act.put, List.setIfInBounds_toArray, List.set_cons_zero, List.set_cons_succ, i64_w, i32_w]
          rfl
         refine take_ (i := 17) (N := some 138) (v := ?_) (a' := ?_) #[true, true, true, true, true, true, true, true, true, true, true, true, true, true, true, true, true, true, false, false, false, false, false, false, false, false, false, false, false, false, false, false] rfl rfl (take_ofW HT_.out HW_.out (by kernel_rfl)) (fun _ _ _ h => h) (Or.inl ⟨by rfl, ?_⟩) hHeld ?_ ?_
         rotate_left
         ·rintro w' ⟨s0, s1, s2, s3, s4, s5, s6, s7⟩
          go_simp
          with_reducible rfl
         rotate_left
         ·simp only [Act.put, List.setIfInBounds_toArray, List.set_cons_zero, List.set_cons_succ, i64_w, i32_w]
          rfl
         refine one_ (i := 18) (N := some 139) #[true, true, true, true, true, true, true, true, true, true, true, true, true, true, true, true, true, true, true, false, false, false, false, false, false, false, false, false, false, false, false, false] rfl rfl (one_of HT_.out (by kernel_rfl)) (by decide) (fun K hK => ?_)
         refine goes_ Try.func49 (by kernel_rfl) rfl #[.slice Ao82 t432.length co82, .slice Ao11 t401.length co11] (by rfl) rfl rfl (by (try simp only [List.map_toArray, List.map_cons, List.map_nil]); first | done | rfl | (simp only [List.length_drop, List.length_take]; rfl)) ?_
         with_reducible refine (laws_sameTexts.calls k1 _ _ t432 _ _ t401 true _ ?side1 ?side2 ?side3 ?side4 A70.out).mono ?_
         (case side1 => repeat (first | exact (Kd.R_reads' HO434.out).2.2 | (with_reducible refine Kd.C_alloc ?_ _) | (with_reducible refine Kd.C_drewN ?_ _) | (with_reducible refine Kd.C_drew ?_)))
         (case side2 => exact (Kd.R_reads' HO434.out).2.1)
         (case side3 => repeat (first | exact (Kd.R_reads' HO_408000.out).2.2 | (with_reducible refine Kd.C_alloc ?_ _) | (with_reducible refine Kd.C_drewN ?_ _) | (with_reducible refine Kd.C_drew ?_)))
         (case side4 => exact (Kd.R_reads' HO_408000.out).2.1)
         rintro e w' ⟨rfl, ⟨nd, rfl⟩⟩
         refine ⟨_, rfl, ?_⟩
         obtain ⟨Ao97, co97, eo97⟩ := Kd.R_slice HO447.out
         (first | subst eo97 | (injection eo97 with f1_ f2_ f3_; have f4_ := f1_.symm; have f5_ := f3_.symm; clear f1_ f2_ f3_; subst f4_; subst f5_))
         refine hK.out _ _ ⟨(zq BK421.out 0).trans rfl, (zq BK421.out 1).trans rfl, (zq BK407.out 0).trans rfl, (zq BK407.out 1).trans rfl, (zq BK438.out 0).trans rfl, (zq BK438.out 1).trans rfl, (zq BK449.out 0).trans rfl, (zq BK449.out 1).trans rfl⟩ (fun hHeld => ?_)
         clear hK K
         refine norm_ (a' := ?_) ?_ ?_
         rotate_left
         ·show Act.put _ (some 139) _ = _
          simp only [Act.put, List.setIfInBounds_toArray, List.set_cons_zero, List.set_cons_succ, i64_w, i32_w]
          rfl
         refine pure_ (i := 19) (N := some 140) (v := ?_) (a' := ?_) #[true, true, true, true, true, true, true, true, true, true, true, true, true, true, true, true, true, true, true, true, false, false, false, false, false, false, false, false, false, false, false, false] rfl rfl (any_of HT_.out (by kernel_rfl)) (fun _ _ _ h => h) (Or.inl ⟨by rfl, ?_⟩) ?_ ?_
         rotate_left
         ·intro w'
          go_simp
          with_reducible rfl
         rotate_left
         ·simp only [Act.put, List.setIfInBounds_toArray, List.set_cons_zero, List.set_cons_succ, i64_w, i32_w]
          rfl
         refine pure_ (i := 20) (N := some 141) (v := ?_) (a' := ?_) #[true, true, true, true, true, true, true, true, true, true, true, true, true, true, true, true, true, true, true, true, true, false, false, false, false, false, false, false, false, false, false, false] rfl rfl (any_of HT_.out (by kernel_rfl)) (fun _ _ _ h => h) (Or.inl ⟨by rfl, ?_⟩) ?_ ?_
         rotate_left
         ·intro w'
          go_simp
          with_reducible rfl
         rotate_left
         ·simp only [Act.put, List.setIfInBounds_toArray, List.set_cons_zero, List.set_cons_succ, i64_w, i32_w]
          rfl
         refine pure_ (i := 22) (N := some 143) (v := ?_) (a' := ?_) #[true, true, true, true, true, true, true, true, true, true, true, true, true, true, true, true, true, true, true, true, true, false, true, false, false, false, false, false, false, false, false, false] rfl rfl (any_of HT_.out (by kernel_rfl)) (fun _ _ _ h => h) (Or.inl ⟨by rfl, ?_⟩) ?_ ?_
         rotate_left
         ·intro w'
          go_simp
          with_reducible rfl
         rotate_left
         ·simp only [Act.put, List.setIfInBounds_toArray, List.set_cons_zero, List.set_cons_succ, i64_w, i32_w]
          rfl
         refine pure_ (i := 23) (N := some 144) (v := ?_) (a' := ?_) #[true, true, true, true, true, true, true, true, true, true, true, true, true, true, true, true, true, true, true, true, true, false, true, true, false, false, false, false, false, false, false, false] rfl rfl (any_of HT_.out (by kernel_rfl)) (fun _ _ _ h => h) (Or.inl ⟨by rfl, ?_⟩) ?_ ?_
         rotate_left
         ·intro w'
          go_simp
          with_reducible rfl
         rotate_left
         ·simp only [Act.put, List.setIfInBounds_toArray, List.set_cons_zero, List.set_cons_succ, i64_w, i32_w]
          rfl
         refine pure_ (i := 26) (N := some 147) (v := ?_) (a' := ?_) #[true, true, true, true, true, true, true, true, true, true, true, true, true, true, true, true, true, true, true, true, true, false, true, true, false, false, true, false, false, false, false, false] rfl rfl (any_of HT_.out (by kernel_rfl)) (fun _ _ _ h => h) (Or.inl ⟨by rfl, ?_⟩) ?_ ?_
         rotate_left
         ·intro w'
          go_simp
          with_reducible rfl
         rotate_left
         ·simp only [Act.put, List.setIfInBounds_toArray, List.set_cons_zero, List.set_cons_succ, i64_w, i32_w]
          rfl
         refine pure_ (i := 27) (N := some 148) (v := ?_) (a' := ?_) #[true, true, true, true, true, true, true, true, true, true, true, true, true, true, true, true, true, true, true, true, true, false, true, true, false, false, true, true, false, false, false, false] rfl rfl (any_of HT_.out (by kernel_rfl)) (fun _ _ _ h => h) (Or.inl ⟨by rfl, ?_⟩) ?_ ?_
         rotate_left
         ·intro w'
          go_simp
          with_reducible rfl
         rotate_left
         ·simp only [Act.put, List.setIfInBounds_toArray, List.set_cons_zero, List.set_cons_succ, i64_w, i32_w]
          rfl
         refine take_ (i := 21) (N := some 142) (v := ?_) (a' := ?_) #[true, true, true, true, true, true, true, true, true, true, true, true, true, true, true, true, true, true, true, true, true, true, true, true, false, false, true, true, false, false, false, false] rfl rfl (take_ofW HT_.out HW_.out (by kernel_rfl)) (fun _ _ _ h => h) (Or.inl ⟨by rfl, ?_⟩) hHeld ?_ ?_
         rotate_left
         ·rintro w' ⟨s0, s1, s2, s3, s4, s5, s6, s7⟩
          go_simp
          with_reducible rfl
         rotate_left
         ·simp only [Act.put, List.setIfInBounds_toArray, List.set_cons_zero, List.set_cons_succ, i64_w, i32_w]
          rfl
         refine take_ (i := 25) (N := some 146) (v := ?_) (a' := ?_) #[true, true, true, true, true, true, true, true, true, true, true, true, true, true, true, true, true, true, true, true, true, true, true, true, false, true, true, true, false, false, false, false] rfl rfl (take_ofW HT_.out HW_.out (by kernel_rfl)) (fun _ _ _ h => h) (Or.inl ⟨by rfl, ?_⟩) hHeld ?_ ?_
         rotate_left
         ·rintro w' ⟨s0, s1, s2, s3, s4, s5, s6, s7⟩
          go_simp
          with_reducible rfl
         rotate_left
         ·simp only [Act.put, List.setIfInBounds_toArray, List.set_cons_zero, List.set_cons_succ, i64_w, i32_w]
          rfl
         refine one_ (i := 24) (N := some 145) #[true, true, true, true, true, true, true, true, true, true, true, true, true, true, true, true, true, true, true, true, true, true, true, true, true, true, true, true, false, false, false, false] rfl rfl (one_of HT_.out (by kernel_rfl)) (by decide) (fun K hK => ?_)
         refine goes_ Try.func45 (by kernel_rfl) rfl #[.agg #[.slice Ao89 t439.length co89, .slice Ao94 t442.length co94], .slice Ao97 t445.length co97, .int .i64 t448] (by rfl) rfl rfl (by (try simp only [List.map_toArray, List.map_cons, List.map_nil]); first | done | rfl | (simp only [List.length_drop, List.length_take]; rfl)) ?_
         with_reducible refine (impl_FallDisk.calls k1 _ _ t439 _ _ t442 _ _ t445 t448 t451 t454 _ ?side1 ?side2 ?side3 ?side4 ?side5 ?side6 A72.out).mono ?_
         (case side1 => repeat (first | exact (Kd.R_reads' HO441.out).2.2 | (with_reducible refine Kd.C_alloc ?_ _) | (with_reducible refine Kd.C_drewN ?_ _) | (with_reducible refine Kd.C_drew ?_)))
         (case side2 => exact (Kd.R_reads' HO441.out).2.1)
         (case side3 => repeat (first | exact (Kd.R_reads' HO444.out).2.2 | (with_reducible refine Kd.C_alloc ?_ _) | (with_reducible refine Kd.C_drewN ?_ _) | (with_reducible refine Kd.C_drew ?_)))
         (case side4 => exact (Kd.R_reads' HO444.out).2.1)
         (case side5 => repeat (first | exact (Kd.R_reads' HO447.out).2.2 | (with_reducible refine Kd.C_alloc ?_ _) | (with_reducible refine Kd.C_drewN ?_ _) | (with_reducible refine Kd.C_drew ?_)))
         (case side6 => exact (Kd.R_reads' HO447.out).2.1)
         rintro e w98 ⟨v452, v455, rfl, ho0, ho1, hb⟩
         refine ⟨_, rfl, ?_⟩
         have n0_ := zj (zt (by (with_reducible repeat (first | apply zd | apply ze | apply zf)); exact HO_4.out) hb)
         have n1_ := zj (Kd.R_elder' (by (with_reducible repeat (first | apply zd | apply ze | apply zf)); exact HO_408000.out) (Kd.R_base ho0) hb)
         have n2_ := zj (Kd.R_elder' (by (with_reducible repeat (first | apply zd | apply ze | apply zf)); exact HO_408001.out) (Kd.R_base ho1) hb)
         have n3_ := zj (Kd.R_elder' (by (with_reducible repeat (first | apply zd | apply ze | apply zf)); exact HO_422000.out) (Kd.R_base ho0) hb)
         have n4_ := zj (Kd.R_elder' (by (with_reducible repeat (first | apply zd | apply ze | apply zf)); exact HO_422001.out) (Kd.R_base ho1) hb)
         have n5_ := zj (zt (by (with_reducible repeat (first | apply zd | apply ze | apply zf)); exact HO431.out) hb)
         have n6_ := zj (Kd.R_elder' (by (with_reducible repeat (first | apply zd | apply ze | apply zf)); exact HO434.out) (Kd.R_base ho0) hb)
         have n7_ := zj (Kd.R_elder' (by (with_reducible repeat (first | apply zd | apply ze | apply zf)); exact HO437.out) (Kd.R_base ho1) hb)
         have n8_ := zj (Kd.R_elder' (by (with_reducible repeat (first | apply zd | apply ze | apply zf)); exact HO441.out) (Kd.R_base ho0) hb)
         have n9_ := zj (Kd.R_elder' (by (with_reducible repeat (first | apply zd | apply ze | apply zf)); exact HO444.out) (Kd.R_base ho1) hb)
         have n10_ := zj (zt (by (with_reducible repeat (first | apply zd | apply ze | apply zf)); exact HO447.out) hb)
         have n11_ := zj (Kd.R_lower (Kd.R_new' (Kd.R_new' (Kd.R_new' (Kd.R_new' ho0 (Kd.R_lt (by (with_reducible repeat (first | apply zd | apply ze | apply zf)); exact HO_408000.out))) (Kd.R_lt (by (with_reducible repeat (first | apply zd | apply ze | apply zf)); exact HO_422000.out))) (Kd.R_lt (by (with_reducible repeat (first | apply zd | apply ze | apply zf)); exact HO434.out))) (Kd.R_lt (by (with_reducible repeat (first | apply zd | apply ze | apply zf)); exact HO441.out))) (zk (by repeat (first | (with_reducible first | exact HB.out | apply zg | apply zh | apply zi | refine zs ?_ GE407.out | refine zs ?_ GE421.out | refine zs ?_ GE438.out | refine zs ?_ GE449.out) | exact HB.out))))
         have n12_ := zj (Kd.R_lower (Kd.R_new' (Kd.R_new' (Kd.R_new' (Kd.R_new' ho1 (Kd.R_lt (by (with_reducible repeat (first | apply zd | apply ze | apply zf)); exact HO_408001.out))) (Kd.R_lt (by (with_reducible repeat (first | apply zd | apply ze | apply zf)); exact HO_422001.out))) (Kd.R_lt (by (with_reducible repeat (first | apply zd | apply ze | apply zf)); exact HO437.out))) (Kd.R_lt (by (with_reducible repeat (first | apply zd | apply ze | apply zf)); exact HO444.out))) (zk (by repeat (first | (with_reducible first | exact HB.out | apply zg | apply zh | apply zi | refine zs ?_ GE407.out | refine zs ?_ GE421.out | refine zs ?_ GE438.out | refine zs ?_ GE449.out) | exact HB.out))))
         have n13_ := zj (zo (g := gb407) (o := .cells #[.slice Ao11 t401.length co11, .slice Ao13 t404.length co13] 36 (0, 0)) (by (with_reducible repeat (first | refine za ?_ _ | refine zb ?_ | refine zc ?_ _)); exact BK407.out) hb)
         have n14_ := zj (zo (g := gb421) (o := .cells #[.slice Ao21 t415.length co21, .slice Ao24 t418.length co24] 36 (0, 0)) (by (with_reducible repeat (first | refine za ?_ _ | refine zb ?_ | refine zc ?_ _)); exact BK421.out) hb)
         have n15_ := zj (zo (g := gb438) (o := .cells #[.slice Ao82 t432.length co82, .slice Ao86 t435.length co86] 36 (0, 0)) (by (with_reducible repeat (first | refine za ?_ _ | refine zb ?_ | refine zc ?_ _)); exact BK438.out) hb)
         have n16_ := zj (zo (g := gb449) (o := .cells #[.slice Ao89 t439.length co89, .slice Ao94 t442.length co94] 36 (0, 0)) (by (with_reducible repeat (first | refine za ?_ _ | refine zb ?_ | refine zc ?_ _)); exact BK449.out) hb)
         have n17_ := zj (zl (by repeat (first | (with_reducible first | exact HB.out | apply zg | apply zh | apply zi | refine zs ?_ GE407.out | refine zs ?_ GE421.out | refine zs ?_ GE438.out | refine zs ?_ GE449.out) | exact HB.out)) hb)
         clear HO_4
         clear HO_408000
         clear HO_408001
         clear HO_422000
         clear HO_422001
         clear HO431
         clear HO434
         clear HO437
         clear HO441
         clear HO444
         clear HO447
         clear BK407
         clear BK421
         clear BK438
         clear BK449
         clear HB
         have HO_4 := n0_
         have HO_408000 := n1_
         have HO_408001 := n2_
         have HO_422000 := n3_
         have HO_422001 := n4_
         have HO431 := n5_
         have HO434 := n6_
         have HO437 := n7_
         have HO441 := n8_
         have HO444 := n9_
         have HO447 := n10_
         have HO453 := n11_
         have HO456 := n12_
         have BK407 := n13_
         have BK421 := n14_
         have BK438 := n15_
         have BK449 := n16_
         have HB := n17_
         clear n0_ n1_ n2_ n3_ n4_ n5_ n6_ n7_ n8_ n9_ n10_ n11_ n12_ n13_ n14_ n15_ n16_ n17_
         (try clear hb)
         (try clear hb2)
         (try clear hk)
         (try clear hi)
         (try clear ho0)
         (try clear ho1)
         refine hK.out _ _ ⟨(zq BK421.out 0).trans rfl, (zq BK421.out 1).trans rfl, (zq BK407.out 0).trans rfl, (zq BK407.out 1).trans rfl, (zq BK438.out 0).trans rfl, (zq BK438.out 1).trans rfl, (zq BK449.out 0).trans rfl, (zq BK449.out 1).trans rfl⟩ (fun hHeld => ?_)
         clear hK K
         refine norm_ (a' := ?_) ?_ ?_
         rotate_left
         ·show Act.put _ (some 145) _ = _
          simp only [Act.put, List.setIfInBounds_toArray, List.set_cons_zero, List.set_cons_succ, i64_w, i32_w]
          rfl
         refine one_ (i := 28) (N := some 149) #[true, true, true, true, true, true, true, true, true, true, true, true, true, true, true, true, true, true, true, true, true, true, true, true, true, true, true, true, true, false, false, false] rfl rfl (one_of HT_.out (by kernel_rfl)) (by decide) (fun K hK => ?_)
         refine goes_ Try.func50 (by kernel_rfl) rfl #[.agg #[.slice Ao89 t439.length co89, .slice Ao94 t442.length co94], .slice Ao97 t445.length co97, .int .i64 t448] (by rfl) rfl rfl (by (try simp only [List.map_toArray, List.map_cons, List.map_nil]); first | done | rfl | (simp only [List.length_drop, List.length_take]; rfl)) ?_
         with_reducible refine (spec_FallDisk.calls k1 _ _ t439 _ _ t442 _ _ t445 t448 t457 t460 _ ?side1 ?side2 ?side3 ?side4 ?side5 ?side6 A73.out).mono ?_
         (case side1 => repeat (first | exact (Kd.R_reads' HO441.out).2.2 | (with_reducible refine Kd.C_alloc ?_ _) | (with_reducible refine Kd.C_drewN ?_ _) | (with_reducible refine Kd.C_drew ?_)))
         (case side2 => exact (Kd.R_reads' HO441.out).2.1)
         (case side3 => repeat (first | exact (Kd.R_reads' HO444.out).2.2 | (with_reducible refine Kd.C_alloc ?_ _) | (with_reducible refine Kd.C_drewN ?_ _) | (with_reducible refine Kd.C_drew ?_)))
         (case side4 => exact (Kd.R_reads' HO444.out).2.1)
         (case side5 => repeat (first | exact (Kd.R_reads' HO447.out).2.2 | (with_reducible refine Kd.C_alloc ?_ _) | (with_reducible refine Kd.C_drewN ?_ _) | (with_reducible refine Kd.C_drew ?_)))
         (case side6 => exact (Kd.R_reads' HO447.out).2.1)
         rintro e w99 ⟨v458, v461, rfl, ho0, ho1, hb⟩
         refine ⟨_, rfl, ?_⟩
         have n0_ := zj (zt (by (with_reducible repeat (first | apply zd | apply ze | apply zf)); exact HO_4.out) hb)
         have n1_ := zj (Kd.R_elder' (by (with_reducible repeat (first | apply zd | apply ze | apply zf)); exact HO_408000.out) (Kd.R_base ho0) hb)
         have n2_ := zj (Kd.R_elder' (by (with_reducible repeat (first | apply zd | apply ze | apply zf)); exact HO_408001.out) (Kd.R_base ho1) hb)
         have n3_ := zj (Kd.R_elder' (by (with_reducible repeat (first | apply zd | apply ze | apply zf)); exact HO_422000.out) (Kd.R_base ho0) hb)
         have n4_ := zj (Kd.R_elder' (by (with_reducible repeat (first | apply zd | apply ze | apply zf)); exact HO_422001.out) (Kd.R_base ho1) hb)
         have n5_ := zj (zt (by (with_reducible repeat (first | apply zd | apply ze | apply zf)); exact HO431.out) hb)
         have n6_ := zj (Kd.R_elder' (by (with_reducible repeat (first | apply zd | apply ze | apply zf)); exact HO434.out) (Kd.R_base ho0) hb)
         have n7_ := zj (Kd.R_elder' (by (with_reducible repeat (first | apply zd | apply ze | apply zf)); exact HO437.out) (Kd.R_base ho1) hb)
         have n8_ := zj (Kd.R_elder' (by (with_reducible repeat (first | apply zd | apply ze | apply zf)); exact HO441.out) (Kd.R_base ho0) hb)
         have n9_ := zj (Kd.R_elder' (by (with_reducible repeat (first | apply zd | apply ze | apply zf)); exact HO444.out) (Kd.R_base ho1) hb)
         have n10_ := zj (zt (by (with_reducible repeat (first | apply zd | apply ze | apply zf)); exact HO447.out) hb)
         have n11_ := zj (Kd.R_elder' (by (with_reducible repeat (first | apply zd | apply ze | apply zf)); exact HO453.out) (Kd.R_base ho0) hb)
         have n12_ := zj (Kd.R_elder' (by (with_reducible repeat (first | apply zd | apply ze | apply zf)); exact HO456.out) (Kd.R_base ho1) hb)
         have n13_ := zj (Kd.R_lower (Kd.R_new' (Kd.R_new' (Kd.R_new' (Kd.R_new' (Kd.R_new' ho0 (Kd.R_lt (by (with_reducible repeat (first | apply zd | apply ze | apply zf)); exact HO_408000.out))) (Kd.R_lt (by (with_reducible repeat (first | apply zd | apply ze | apply zf)); exact HO_422000.out))) (Kd.R_lt (by (with_reducible repeat (first | apply zd | apply ze | apply zf)); exact HO434.out))) (Kd.R_lt (by (with_reducible repeat (first | apply zd | apply ze | apply zf)); exact HO441.out))) (Kd.R_lt (by (with_reducible repeat (first | apply zd | apply ze | apply zf)); exact HO453.out))) (zk (by repeat (first | (with_reducible first | exact HB.out | apply zg | apply zh | apply zi | refine zs ?_ GE407.out | refine zs ?_ GE421.out | refine zs ?_ GE438.out | refine zs ?_ GE449.out) | exact HB.out))))
         have n14_ := zj (Kd.R_lower (Kd.R_new' (Kd.R_new' (Kd.R_new' (Kd.R_new' (Kd.R_new' ho1 (Kd.R_lt (by (with_reducible repeat (first | apply zd | apply ze | apply zf)); exact HO_408001.out))) (Kd.R_lt (by (with_reducible repeat (first | apply zd | apply ze | apply zf)); exact HO_422001.out))) (Kd.R_lt (by (with_reducible repeat (first | apply zd | apply ze | apply zf)); exact HO437.out))) (Kd.R_lt (by (with_reducible repeat (first | apply zd | apply ze | apply zf)); exact HO444.out))) (Kd.R_lt (by (with_reducible repeat (first | apply zd | apply ze | apply zf)); exact HO456.out))) (zk (by repeat (first | (with_reducible first | exact HB.out | apply zg | apply zh | apply zi | refine zs ?_ GE407.out | refine zs ?_ GE421.out | refine zs ?_ GE438.out | refine zs ?_ GE449.out) | exact HB.out))))
         have n15_ := zj (zo (g := gb407) (o := .cells #[.slice Ao11 t401.length co11, .slice Ao13 t404.length co13] 36 (0, 0)) (by (with_reducible repeat (first | refine za ?_ _ | refine zb ?_ | refine zc ?_ _)); exact BK407.out) hb)
         have n16_ := zj (zo (g := gb421) (o := .cells #[.slice Ao21 t415.length co21, .slice Ao24 t418.length co24] 36 (0, 0)) (by (with_reducible repeat (first | refine za ?_ _ | refine zb ?_ | refine zc ?_ _)); exact BK421.out) hb)
         have n17_ := zj (zo (g := gb438) (o := .cells #[.slice Ao82 t432.length co82, .slice Ao86 t435.length co86] 36 (0, 0)) (by (with_reducible repeat (first | refine za ?_ _ | refine zb ?_ | refine zc ?_ _)); exact BK438.out) hb)
         have n18_ := zj (zo (g := gb449) (o := .cells #[.slice Ao89 t439.length co89, .slice Ao94 t442.length co94] 36 (0, 0)) (by (with_reducible repeat (first | refine za ?_ _ | refine zb ?_ | refine zc ?_ _)); exact BK449.out) hb)
         have n19_ := zj (zl (by repeat (first | (with_reducible first | exact HB.out | apply zg | apply zh | apply zi | refine zs ?_ GE407.out | refine zs ?_ GE421.out | refine zs ?_ GE438.out | refine zs ?_ GE449.out) | exact HB.out)) hb)
         clear HO_4
         clear HO_408000
         clear HO_408001
         clear HO_422000
         clear HO_422001
         clear HO431
         clear HO434
         clear HO437
         clear HO441
         clear HO444
         clear HO447
         clear HO453
         clear HO456
         clear BK407
         clear BK421
         clear BK438
         clear BK449
         clear HB
         have HO_4 := n0_
         have HO_408000 := n1_
         have HO_408001 := n2_
         have HO_422000 := n3_
         have HO_422001 := n4_
         have HO431 := n5_
         have HO434 := n6_
         have HO437 := n7_
         have HO441 := n8_
         have HO444 := n9_
         have HO447 := n10_
         have HO453 := n11_
         have HO456 := n12_
         have HO459 := n13_
         have HO462 := n14_
         have BK407 := n15_
         have BK421 := n16_
         have BK438 := n17_
         have BK449 := n18_
         have HB := n19_
         clear n0_ n1_ n2_ n3_ n4_ n5_ n6_ n7_ n8_ n9_ n10_ n11_ n12_ n13_ n14_ n15_ n16_ n17_ n18_ n19_
         (try clear hb)
         (try clear hb2)
         (try clear hk)
         (try clear hi)
         (try clear ho0)
         (try clear ho1)
         obtain ⟨Ao100, co100, eo100⟩ := Kd.R_slice HO453.out
         (first | subst eo100 | (injection eo100 with f1_ f2_ f3_; have f4_ := f1_.symm; have f5_ := f3_.symm; clear f1_ f2_ f3_; subst f4_; subst f5_))
         obtain ⟨Ao101, co101, eo101⟩ := Kd.R_slice HO456.out
         (first | subst eo101 | (injection eo101 with f1_ f2_ f3_; have f4_ := f1_.symm; have f5_ := f3_.symm; clear f1_ f2_ f3_; subst f4_; subst f5_))
         obtain ⟨Ao102, co102, eo102⟩ := Kd.R_slice HO459.out
         (first | subst eo102 | (injection eo102 with f1_ f2_ f3_; have f4_ := f1_.symm; have f5_ := f3_.symm; clear f1_ f2_ f3_; subst f4_; subst f5_))
         obtain ⟨Ao103, co103, eo103⟩ := Kd.R_slice HO462.out
         (first | subst eo103 | (injection eo103 with f1_ f2_ f3_; have f4_ := f1_.symm; have f5_ := f3_.symm; clear f1_ f2_ f3_; subst f4_; subst f5_))
         refine hK.out _ _ ⟨(zq BK421.out 0).trans rfl, (zq BK421.out 1).trans rfl, (zq BK407.out 0).trans rfl, (zq BK407.out 1).trans rfl, (zq BK438.out 0).trans rfl, (zq BK438.out 1).trans rfl, (zq BK449.out 0).trans rfl, (zq BK449.out 1).trans rfl⟩ (fun hHeld => ?_)
         clear hK K
         refine norm_ (a' := ?_) ?_ ?_
         rotate_left
         ·show Act.put _ (some 149) _ = _
          simp only [Act.put, List.setIfInBounds_toArray, List.set_cons_zero, List.set_cons_succ, i64_w, i32_w]
          rfl
         refine one_ (i := 29) (N := some 150) #[true, true, true, true, true, true, true, true, true, true, true, true, true, true, true, true, true, true, true, true, true, true, true, true, true, true, true, true, true, true, false, false] rfl rfl (one_of HT_.out (by kernel_rfl)) (by decide) (fun K hK => ?_)
         refine goes_ Try.func44 (by kernel_rfl) rfl #[.agg #[.slice Ao100 t451.length co100, .slice Ao101 t454.length co101], .agg #[.slice Ao102 t457.length co102, .slice Ao103 t460.length co103]] (by rfl) rfl rfl (by (try simp only [List.map_toArray, List.map_cons, List.map_nil]); first | done | rfl | (simp only [List.length_drop, List.length_take]; rfl)) ?_
         with_reducible refine (laws_sameDisk.calls k1 _ _ t451 _ _ t454 _ _ t457 _ _ t460 t463 _ ?side1 ?side2 ?side3 ?side4 ?side5 ?side6 ?side7 ?side8 A74.out).mono ?_
         (case side1 => repeat (first | exact (Kd.R_reads' HO453.out).2.2 | (with_reducible refine Kd.C_alloc ?_ _) | (with_reducible refine Kd.C_drewN ?_ _) | (with_reducible refine Kd.C_drew ?_)))
         (case side2 => exact (Kd.R_reads' HO453.out).2.1)
         (case side3 => repeat (first | exact (Kd.R_reads' HO456.out).2.2 | (with_reducible refine Kd.C_alloc ?_ _) | (with_reducible refine Kd.C_drewN ?_ _) | (with_reducible refine Kd.C_drew ?_)))
         (case side4 => exact (Kd.R_reads' HO456.out).2.1)
         (case side5 => repeat (first | exact (Kd.R_reads' HO459.out).2.2 | (with_reducible refine Kd.C_alloc ?_ _) | (with_reducible refine Kd.C_drewN ?_ _) | (with_reducible refine Kd.C_drew ?_)))
         (case side6 => exact (Kd.R_reads' HO459.out).2.1)
         (case side7 => repeat (first | exact (Kd.R_reads' HO462.out).2.2 | (with_reducible refine Kd.C_alloc ?_ _) | (with_reducible refine Kd.C_drewN ?_ _) | (with_reducible refine Kd.C_drew ?_)))
         (case side8 => exact (Kd.R_reads' HO462.out).2.1)
         rintro e w104 ⟨rfl, hb⟩
         refine ⟨_, rfl, ?_⟩
         have n0_ := zj (zt (by (with_reducible repeat (first | apply zd | apply ze | apply zf)); exact HO_4.out) hb)
         have n1_ := zj (zt (by (with_reducible repeat (first | apply zd | apply ze | apply zf)); exact HO_408000.out) hb)
         have n2_ := zj (zt (by (with_reducible repeat (first | apply zd | apply ze | apply zf)); exact HO_408001.out) hb)
         have n3_ := zj (zt (by (with_reducible repeat (first | apply zd | apply ze | apply zf)); exact HO_422000.out) hb)
         have n4_ := zj (zt (by (with_reducible repeat (first | apply zd | apply ze | apply zf)); exact HO_422001.out) hb)
         have n5_ := zj (zt (by (with_reducible repeat (first | apply zd | apply ze | apply zf)); exact HO431.out) hb)
         have n6_ := zj (zt (by (with_reducible repeat (first | apply zd | apply ze | apply zf)); exact HO434.out) hb)
         have n7_ := zj (zt (by (with_reducible repeat (first | apply zd | apply ze | apply zf)); exact HO437.out) hb)
         have n8_ := zj (zt (by (with_reducible repeat (first | apply zd | apply ze | apply zf)); exact HO441.out) hb)
         have n9_ := zj (zt (by (with_reducible repeat (first | apply zd | apply ze | apply zf)); exact HO444.out) hb)
         have n10_ := zj (zt (by (with_reducible repeat (first | apply zd | apply ze | apply zf)); exact HO447.out) hb)
         have n11_ := zj (zt (by (with_reducible repeat (first | apply zd | apply ze | apply zf)); exact HO453.out) hb)
         have n12_ := zj (zt (by (with_reducible repeat (first | apply zd | apply ze | apply zf)); exact HO456.out) hb)
         have n13_ := zj (zt (by (with_reducible repeat (first | apply zd | apply ze | apply zf)); exact HO459.out) hb)
         have n14_ := zj (zt (by (with_reducible repeat (first | apply zd | apply ze | apply zf)); exact HO462.out) hb)
         have n15_ := zj (zo (g := gb407) (o := .cells #[.slice Ao11 t401.length co11, .slice Ao13 t404.length co13] 36 (0, 0)) (by (with_reducible repeat (first | refine za ?_ _ | refine zb ?_ | refine zc ?_ _)); exact BK407.out) hb)
         have n16_ := zj (zo (g := gb421) (o := .cells #[.slice Ao21 t415.length co21, .slice Ao24 t418.length co24] 36 (0, 0)) (by (with_reducible repeat (first | refine za ?_ _ | refine zb ?_ | refine zc ?_ _)); exact BK421.out) hb)
         have n17_ := zj (zo (g := gb438) (o := .cells #[.slice Ao82 t432.length co82, .slice Ao86 t435.length co86] 36 (0, 0)) (by (with_reducible repeat (first | refine za ?_ _ | refine zb ?_ | refine zc ?_ _)); exact BK438.out) hb)
         have n18_ := zj (zo (g := gb449) (o := .cells #[.slice Ao89 t439.length co89, .slice Ao94 t442.length co94] 36 (0, 0)) (by (with_reducible repeat (first | refine za ?_ _ | refine zb ?_ | refine zc ?_ _)); exact BK449.out) hb)
         have n19_ := zj (zl (by repeat (first | (with_reducible first | exact HB.out | apply zg | apply zh | apply zi | refine zs ?_ GE407.out | refine zs ?_ GE421.out | refine zs ?_ GE438.out | refine zs ?_ GE449.out) | exact HB.out)) hb)
         clear HO_4
         clear HO_408000
         clear HO_408001
         clear HO_422000
         clear HO_422001
         clear HO431
         clear HO434
         clear HO437
         clear HO441
         clear HO444
         clear HO447
         clear HO453
         clear HO456
         clear HO459
         clear HO462
         clear BK407
         clear BK421
         clear BK438
         clear BK449
         clear HB
         have HO_4 := n0_
         have HO_408000 := n1_
         have HO_408001 := n2_
         have HO_422000 := n3_
         have HO_422001 := n4_
         have HO431 := n5_
         have HO434 := n6_
         have HO437 := n7_
         have HO441 := n8_
         have HO444 := n9_
         have HO447 := n10_
         have HO453 := n11_
         have HO456 := n12_
         have HO459 := n13_
         have HO462 := n14_
         have BK407 := n15_
         have BK421 := n16_
         have BK438 := n17_
         have BK449 := n18_
         have HB := n19_
         clear n0_ n1_ n2_ n3_ n4_ n5_ n6_ n7_ n8_ n9_ n10_ n11_ n12_ n13_ n14_ n15_ n16_ n17_ n18_ n19_
         (try clear hb)
         (try clear hb2)
         (try clear hk)
         (try clear hi)
         refine hK.out _ _ ⟨(zq BK421.out 0).trans rfl, (zq BK421.out 1).trans rfl, (zq BK407.out 0).trans rfl, (zq BK407.out 1).trans rfl, (zq BK438.out 0).trans rfl, (zq BK438.out 1).trans rfl, (zq BK449.out 0).trans rfl, (zq BK449.out 1).trans rfl⟩ (fun hHeld => ?_)
         clear hK K
         refine norm_ (a' := ?_) ?_ ?_
         rotate_left
         ·show Act.put _ (some 150) _ = _
          simp only [Act.put, List.setIfInBounds_toArray, List.set_cons_zero, List.set_cons_succ, i64_w, i32_w]
          rfl
         refine pure_ (i := 30) (N := some 151) (v := ?_) (a' := ?_) #[true, true, true, true, true, true, true, true, true, true, true, true, true, true, true, true, true, true, true, true, true, true, true, true, true, true, true, true, true, true, true, false] rfl rfl (any_of HT_.out (by kernel_rfl)) (fun _ _ _ h => h) (Or.inl ⟨by rfl, ?_⟩) ?_ ?_
         rotate_left
         ·intro w'
          go_simp
          with_reducible rfl
         rotate_left
         ·simp only [Act.put, List.setIfInBounds_toArray, List.set_cons_zero, List.set_cons_succ, i64_w, i32_w]
          rfl
         refine pure_ (i := 31) (N := some 2) (v := ?_) (a' := ?_) #[true, true, true, true, true, true, true, true, true, true, true, true, true, true, true, true, true, true, true, true, true, true, true, true, true, true, true, true, true, true, true, true] rfl rfl (any_of HT_.out (by kernel_rfl)) (fun _ _ _ h => h) (Or.inl ⟨by rfl, ?_⟩) ?_ ?_
         rotate_left
         ·intro w'
          go_simp
          with_reducible rfl
         rotate_left
         ·simp only [Act.put, List.setIfInBounds_toArray, List.set_cons_zero, List.set_cons_succ, i64_w, i32_w]
          rfl
         refine done_ (done_of HT_.out (by kernel_rfl)) ?_
         try go_wp2
         go_ret
         exact ⟨by first | rfl | (simp [errW_none, errW_some] <;> rfl) | (simp [*, errW_none, errW_some] <;> rfl), by repeat (first | (with_reducible first | exact HB.out | apply zg | apply zh | apply zi | refine zs ?_ GE407.out | refine zs ?_ GE421.out | refine zs ?_ GE438.out | refine zs ?_ GE449.out) | exact HB.out)⟩
        ·replace c71 := Bool.eq_false_iff.mpr c71
         subst c71
         have H1 : (none) = some r := by rw [if_neg (show ¬ (false = true) by decide)] at H; exact H
         clear H
         have H := H1
         clear H1
         exact absurd H (by simp)
       ·rw [if_neg c69] at H
        exact absurd H (by simp)
      ·rw [if_neg c68] at H
       exact absurd H (by simp)
  ·rw [if_neg c7] at H
   exact absurd H (by simp)

/-- THE ONE PURE STATEMENT of laws_FnFalls: yours. -/
def laws_FnFalls.Pure : Prop := ∀ (l0 : List Int), l0.length ≤ maxLen → l0.length * 1 ≤ 140737488351232 → (∀ x ∈ l0, (Lit.int .u8 x).wf = true) → ∃ k, laws_FnFalls.f k l0 = some true
theorem laws_FnFalls.walk (P : laws_FnFalls.Pure) (a0 : Option Addr) (len0 cap0 : Nat) (z0 : List Int) (w : World) (w0 : (a0 = none ∧ len0 = 0 ∧ cap0 = 0 ∧ z0 = []) ∨ ∃ x, a0 = some x ∧ len0 ≤ cap0 ∧ cap0 ≤ maxLen ∧ z0.length = cap0 ∧ (∀ i, i < z0.length → w.cell? (x.add i) = some (.int .u8 (z0.getD i 0))) ∧ ∀ n ∈ z0, (Lit.int .u8 n).wf = true) (y0 : len0 * 1 ≤ 140737488351232) :
  Calls Try.prog 9 #[.slice a0 len0 cap0] w fun e w' => e = .returned (.bool true) ∧ Below w.heap.size w w' := by
 obtain ⟨l0, rfl, hr0, hm0, hw0, hc0⟩ := ReadsInt.ofRowC w0
 obtain ⟨k, h⟩ := P l0 hm0 y0 hw0
 refine (laws_FnFalls.calls k _ _ l0 true w (Kd.C_of_reads (d := (0 : Int)) (h1 := fun _ => rfl) hr0) hc0 h).mono ?_
 rintro e w' ⟨rfl, hd⟩
 exact ⟨rfl, hd⟩

end Go.Proofs.Ytbjlpmhhcigkdaa.VFnFalls
