-- Written by a program of this repo (wip/myprint.py), over the kit's print; functions that the print does not take stand in it by hand-proved contracts.
import Derived.Test.YtbjlpmhhcigkdaaVFnFallsx0
import Derived.Test.YtbjlpmhhcigkdaaVFnFallsx4
import Derived.Test.YtbjlpmhhcigkdaaVFnFallsx5
import Derived.Test.YtbjlpmhhcigkdaaVFnFallsx7
import Derived.Test.YtbjlpmhhcigkdaaVFnFallsx8
namespace Go.Proofs.Ytbjlpmhhcigkdaa.VFnFalls
open Go.RowKit Go.Proofs.YtbjlpmhhcigkdaaW.PrintWords Go.Proofs.YtbjlpmhhcigkdaaW.PrintLast Go.Proofs.YtbjlpmhhcigkdaaW.PrintMore
attribute [local go_sem] max2_int min2_int max_two min_two max_three min_three max_four min_four   -- for this text's walks alone
attribute [local go_sem high] str_leq str_gtr str_geq str_lss
set_option linter.unusedVariables false
set_option linter.unusedSimpArgs false

/-! ### spec_l03Any: function 99 -/
def spec_l03Any.f (k : Nat) (s0_0 : List Int) (s0_1 : Int) (s0_2 : Int) : Option (List ByteArray × (List (S74)) × Int × Int) := (spec_l03Disk.f k s0_0 s0_1 s0_2).bind fun bt316 => ((spec_l03Copy.f bt316.1 bt316.2.1).bind fun bt324 => ((spec_l01Below.f s0_0 bt316.2.2.1 bt316.2.2.2 12).bind fun bt331 => (if bt331.1 = 0 then ((spec_l01Below.f s0_0 bt331.2.1 bt331.2.2 4).bind fun bt334 => (if 0 ≤ bt334.1 then (if bt334.1 ≤ (bt324.1.length : Int) then (some ((bt324.1.take (bt334.1 : Int).toNat), bt324.2, bt334.2.1, bt334.2.2)) else (none)) else (none))) else (if bt331.1 = 1 then ((spec_l01PickInt.f s0_0 bt331.2.1 bt331.2.2 (([(-1), 0, 40] : List Int))).bind fun bt343 => (if bt324.2.length < 5864062014805 then (some (bt324.1, (bt324.2 ++ [(⟨bt343.1, (⟨#[120]⟩ : ByteArray)⟩ : S74)]), bt343.2.1, bt343.2.2)) else (none))) else (if bt331.1 = 2 then ((spec_l01Below.f s0_0 bt331.2.1 bt331.2.2 2).bind fun bt349 => ((spec_l01Long.f k (wrap64 (240 + bt349.1)) 65).bind fun t352 => (if 0 < (bt324.1.length : Int) then (some ((bt324.1.set (0 : Int).toNat t352), bt324.2, bt349.2.1, bt349.2.2)) else (none)))) else (some (bt324.1, bt324.2, bt331.2.1, bt331.2.2)))))))
theorem spec_l03Any.mono : ∀ a0 a1 a2 k, LeO (spec_l03Any.f k a0 a1 a2) (spec_l03Any.f (k + 1) a0 a1 a2) := by
 intro a0 a1 a2 k
 unfold spec_l03Any.f
 repeat' first
   | (with_reducible exact spec_l01Long.mono _ _ _)
   | (with_reducible exact spec_l03Disk.mono _ _ _ _)
   | (with_reducible exact LeO.refl _)
   | (with_reducible exact LeO.none _)
   | (with_reducible refine LeO.ite ?_ ?_)
   | (with_reducible refine LeO.bind ?_ (fun _ => ?_))
   | exact spec_l01Long.mono _ _ _
   | exact spec_l03Disk.mono _ _ _ _
   | exact LeO.none _
   | refine LeO.ite ?_ ?_
   | refine LeO.bind ?_ (fun _ => ?_)
def spec_l03Any.T6 : Bool × List (List Nat × List Nat) := (true, [([], []), ([0], [0]), ([], []), ([], []), ([2, 3], [2, 3]), ([4], [4]), ([5], [5]), ([1, 6, 4], [1, 6]), ([0, 1, 2, 3, 4, 5, 6, 7], []), ([8, 7, 7, 0, 1, 2, 3, 4, 5, 6, 7], [7, 8])])
def spec_l03Any.B6 : List Nat := [0, 1, 0, 0, 12, 28, 60, 127, 255, 511]
theorem spec_l03Any.tab6 : rtab .any (opsOf Try.f99 6) = spec_l03Any.T6 := by kernel_rfl
theorem spec_l03Any.bits6 : waitsOk spec_l03Any.T6.2 spec_l03Any.B6 = true := by kernel_rfl
def spec_l03Any.T8 : Bool × List (List Nat × List Nat) := (true, [([], []), ([0], [0]), ([], []), ([2], [2]), ([3], [3]), ([4, 3], [4]), ([1, 0, 1, 2, 3, 4, 5], [1]), ([6, 5, 5, 0, 1, 2, 3, 4, 5], [5, 6])])
def spec_l03Any.B8 : List Nat := [0, 1, 0, 4, 12, 28, 63, 127]
theorem spec_l03Any.tab8 : rtab .any (opsOf Try.f99 8) = spec_l03Any.T8 := by kernel_rfl
theorem spec_l03Any.bits8 : waitsOk spec_l03Any.T8.2 spec_l03Any.B8 = true := by kernel_rfl
set_option maxHeartbeats 8000000 in
set_option maxRecDepth 100000 in
theorem spec_l03Any.calls (k : Nat) (g : Nat) (s0_0 : List Int) (s0_1 : Int) (s0_2 : Int) (r1 : List ByteArray) (r2 : List (S74)) (r3 : Int) (r4 : Int) (w0 w : World) (hI : IsS146 w0 w g s0_0 s0_1 s0_2) (hB : Below w0.heap.size w0 w) (h : spec_l03Any.f k s0_0 s0_1 s0_2 = some (r1, r2, r3, r4)) :
  Calls Try.prog 99 #[.pointer (some ⟨g, 0, none⟩)] w fun e w' => ∃ v0_ v1_ : Value, e = .returned (.agg #[v0_, v1_]) ∧ Kd.R Kd.string 9 w' w.heap.size (fun _ => True) v0_ r1 ∧ Kd.R k74 74 w' w.heap.size (fun _ => True) v1_ r2 ∧ IsS146 w0 w' g s0_0 r3 r4 ∧ Below w0.heap.size w0 w' ∧ KeepBut w w' g none := by
 have hu36 := Try.underlying36
 have hu74 := Try.underlying74
 have HI0 := zj hI
 have HK := zj (KeepBut.refl w g none)
 have HL := zj hB.size
 clear hI
 have HW0 := zj hB.size
 have HB := zj hB
 clear hB
 have H : ((spec_l03Disk.f k s0_0 s0_1 s0_2).bind fun bt316 => ((spec_l03Copy.f bt316.1 bt316.2.1).bind fun bt324 => ((spec_l01Below.f s0_0 bt316.2.2.1 bt316.2.2.2 12).bind fun bt331 => (if bt331.1 = 0 then ((spec_l01Below.f s0_0 bt331.2.1 bt331.2.2 4).bind fun bt334 => (if 0 ≤ bt334.1 then (if bt334.1 ≤ (bt324.1.length : Int) then (some ((bt324.1.take (bt334.1 : Int).toNat), bt324.2, bt334.2.1, bt334.2.2)) else (none)) else (none))) else (if bt331.1 = 1 then ((spec_l01PickInt.f s0_0 bt331.2.1 bt331.2.2 (([(-1), 0, 40] : List Int))).bind fun bt343 => (if bt324.2.length < 5864062014805 then (some (bt324.1, (bt324.2 ++ [(⟨bt343.1, (⟨#[120]⟩ : ByteArray)⟩ : S74)]), bt343.2.1, bt343.2.2)) else (none))) else (if bt331.1 = 2 then ((spec_l01Below.f s0_0 bt331.2.1 bt331.2.2 2).bind fun bt349 => ((spec_l01Long.f k (wrap64 (240 + bt349.1)) 65).bind fun t352 => (if 0 < (bt324.1.length : Int) then (some ((bt324.1.set (0 : Int).toNat t352), bt324.2, bt349.2.1, bt349.2.2)) else (none)))) else (some (bt324.1, bt324.2, bt331.2.1, bt331.2.2)))))))) = some (r1, r2, r3, r4) := h
 clear h
 replace H := Option.bind_eq_some_iff.mp H
 obtain ⟨⟨t316, t319, t322, t323⟩, A20, H⟩ := H
 replace H : ((spec_l03Copy.f t316 t319).bind fun bt324 => ((spec_l01Below.f s0_0 t322 t323 12).bind fun bt331 => (if bt331.1 = 0 then ((spec_l01Below.f s0_0 bt331.2.1 bt331.2.2 4).bind fun bt334 => (if 0 ≤ bt334.1 then (if bt334.1 ≤ (bt324.1.length : Int) then (some ((bt324.1.take (bt334.1 : Int).toNat), bt324.2, bt334.2.1, bt334.2.2)) else (none)) else (none))) else (if bt331.1 = 1 then ((spec_l01PickInt.f s0_0 bt331.2.1 bt331.2.2 (([(-1), 0, 40] : List Int))).bind fun bt343 => (if bt324.2.length < 5864062014805 then (some (bt324.1, (bt324.2 ++ [(⟨bt343.1, (⟨#[120]⟩ : ByteArray)⟩ : S74)]), bt343.2.1, bt343.2.2)) else (none))) else (if bt331.1 = 2 then ((spec_l01Below.f s0_0 bt331.2.1 bt331.2.2 2).bind fun bt349 => ((spec_l01Long.f k (wrap64 (240 + bt349.1)) 65).bind fun t352 => (if 0 < (bt324.1.length : Int) then (some ((bt324.1.set (0 : Int).toNat t352), bt324.2, bt349.2.1, bt349.2.2)) else (none)))) else (some (bt324.1, bt324.2, bt331.2.1, bt331.2.2))))))) = some (r1, r2, r3, r4) := H
 have A2 := zj A20
 clear A20
 replace H := Option.bind_eq_some_iff.mp H
 obtain ⟨⟨t324, t327⟩, A30, H⟩ := H
 replace H : ((spec_l01Below.f s0_0 t322 t323 12).bind fun bt331 => (if bt331.1 = 0 then ((spec_l01Below.f s0_0 bt331.2.1 bt331.2.2 4).bind fun bt334 => (if 0 ≤ bt334.1 then (if bt334.1 ≤ (t324.length : Int) then (some ((t324.take (bt334.1 : Int).toNat), t327, bt334.2.1, bt334.2.2)) else (none)) else (none))) else (if bt331.1 = 1 then ((spec_l01PickInt.f s0_0 bt331.2.1 bt331.2.2 (([(-1), 0, 40] : List Int))).bind fun bt343 => (if t327.length < 5864062014805 then (some (t324, (t327 ++ [(⟨bt343.1, (⟨#[120]⟩ : ByteArray)⟩ : S74)]), bt343.2.1, bt343.2.2)) else (none))) else (if bt331.1 = 2 then ((spec_l01Below.f s0_0 bt331.2.1 bt331.2.2 2).bind fun bt349 => ((spec_l01Long.f k (wrap64 (240 + bt349.1)) 65).bind fun t352 => (if 0 < (t324.length : Int) then (some ((t324.set (0 : Int).toNat t352), t327, bt349.2.1, bt349.2.2)) else (none)))) else (some (t324, t327, bt331.2.1, bt331.2.2)))))) = some (r1, r2, r3, r4) := H
 have A3 := zj A30
 clear A30
 replace H := Option.bind_eq_some_iff.mp H
 obtain ⟨⟨t331, t332, t333⟩, A40, H⟩ := H
 replace H : (if t331 = 0 then ((spec_l01Below.f s0_0 t332 t333 4).bind fun bt334 => (if 0 ≤ bt334.1 then (if bt334.1 ≤ (t324.length : Int) then (some ((t324.take (bt334.1 : Int).toNat), t327, bt334.2.1, bt334.2.2)) else (none)) else (none))) else (if t331 = 1 then ((spec_l01PickInt.f s0_0 t332 t333 (([(-1), 0, 40] : List Int))).bind fun bt343 => (if t327.length < 5864062014805 then (some (t324, (t327 ++ [(⟨bt343.1, (⟨#[120]⟩ : ByteArray)⟩ : S74)]), bt343.2.1, bt343.2.2)) else (none))) else (if t331 = 2 then ((spec_l01Below.f s0_0 t332 t333 2).bind fun bt349 => ((spec_l01Long.f k (wrap64 (240 + bt349.1)) 65).bind fun t352 => (if 0 < (t324.length : Int) then (some ((t324.set (0 : Int).toNat t352), t327, bt349.2.1, bt349.2.2)) else (none)))) else (some (t324, t327, t332, t333))))) = some (r1, r2, r3, r4) := H
 have A4 := zj A40
 clear A40
 by_cases c5 : t331 = 0
 ·rw [if_pos c5] at H
  have c5b0 : (t331 == 0) = true := beq_iff_eq.mpr c5
  have c5b1 : (t331 != 0) = false := bne_eq_false_iff_eq.mpr c5
  clear c5
  replace H := Option.bind_eq_some_iff.mp H
  obtain ⟨⟨t334, t335, t336⟩, A60, H⟩ := H
  replace H : (if 0 ≤ t334 then (if t334 ≤ (t324.length : Int) then (some ((t324.take (t334 : Int).toNat), t327, t335, t336)) else (none)) else (none)) = some (r1, r2, r3, r4) := H
  have A6 := zj A60
  clear A60
  by_cases c7 : 0 ≤ t334
  ·rw [if_pos c7] at H
   have c7b0 := eq_true c7
   have c7b1 : decide (0 ≤ t334) = true := decide_eq_true c7
   clear c7
   by_cases c8 : t334 ≤ (t324.length : Int)
   ·rw [if_pos c8] at H
    have c8b0 := eq_true c8
    have c8b1 : decide (t334 ≤ (t324.length : Int)) = true := decide_eq_true c8
    clear c8
    obtain ⟨y337, hy337⟩ : ∃ y_ : List ByteArray, y_ = (t324.take (t334 : Int).toNat) := ⟨_, rfl⟩
    replace H : (some (y337, t327, t335, t336)) = some (r1, r2, r3, r4) := by first | (rw [hy337]; with_reducible exact H) | (have H2_ := (Option.bind_some _ _).symm.trans H; rw [hy337]; with_reducible exact H2_) | (have H2_ := (Option.bind_some _ _).symm.trans H; with_reducible exact H2_) | with_reducible exact H | (rw [hy337]; exact H) | exact H
    have Ny337 := zj hy337
    clear hy337
    simp only [Option.some.injEq, Prod.mk.injEq] at H
    obtain ⟨rfl, rfl, rfl, rfl⟩ := H
    go_enter Try.func99, Try.ntmps99
    try go_wp2_with (first | ((with_reducible refine gate_dst (N := 2) rfl ?_); refine box_event ?hg (N := 2) ?hd (cs := #[.slice none 0 0, .slice none 0 0]) (t := 36) ?hr ?_; (case hd => rfl); (case hg => rfl); (case hr => first | (go_simp; done) | (go_simp; rfl)); intro gb315 hg w9 hbox hb; have n0_ := zj (IsS146.below (by repeat (first | (with_reducible first | exact HI0.out | apply IsS146.alloc | apply IsS146.drewN | apply IsS146.drew | apply IsS146.set_1 | apply IsS146.set_2) | exact HI0.out)) hb); have n1_ := zj (KeepBut.trans (by repeat (first | (with_reducible first | exact HK.out | apply KeepBut.set_ | apply keep_drewN | apply keep_drew | apply keep_alloc) | exact HK.out)) (KeepBut.of_below hb g none) (.inl rfl)); have n2_ := zj (zl (by repeat (first | (with_reducible first | exact HB.out | apply zg | apply zh | apply zi | refine zs ?_ (IsS146.ge HI0.out)) | exact HB.out)) hb); have n3_ := zj (hbox); have n4_ := zj ((by rw [hg]; exact (keep_size (w := w) (g := g) (row := none) (by repeat (first | (with_reducible first | exact HK.out | apply KeepBut.set_ | apply keep_drewN | apply keep_drew | apply keep_alloc) | exact HK.out))) : w.heap.size ≤ gb315)); have n5_ := zj ((Nat.le_trans HW0.out (by rw [hg]; exact (keep_size (w := w) (g := g) (row := none) (by repeat (first | (with_reducible first | exact HK.out | apply KeepBut.set_ | apply keep_drewN | apply keep_drew | apply keep_alloc) | exact HK.out))) : w.heap.size ≤ gb315) : w0.heap.size ≤ gb315)); have n6_ := zj ((by rw [hg]; exact Nat.ne_of_lt (IsS146.lt (show IsS146 w0 _ g s0_0 s0_1 s0_2 from by repeat (first | (with_reducible first | exact HI0.out | apply IsS146.alloc | apply IsS146.drewN | apply IsS146.drew | apply IsS146.set_1 | apply IsS146.set_2) | exact HI0.out))) : g ≠ gb315)); have n7_ := zj ((by rw [hg]; exact Nat.ne_of_gt (IsS146.lt (show IsS146 w0 _ g s0_0 s0_1 s0_2 from by repeat (first | (with_reducible first | exact HI0.out | apply IsS146.alloc | apply IsS146.drewN | apply IsS146.drew | apply IsS146.set_1 | apply IsS146.set_2) | exact HI0.out))) : gb315 ≠ g)); clear HI0; clear HK; clear HB; have HI0 := n0_; have HK := n1_; have HB := n2_; have BK315 := n3_; have GW315 := n4_; have GE315 := n5_; have NB0_315 := n6_; have NB315_0 := n7_; clear n0_ n1_ n2_ n3_ n4_ n5_ n6_ n7_; clear hb hbox hg) | ((with_reducible refine gate_callee (f := 71) rfl ?_); refine goesL_ (some 5) rfl rfl Try.func71 (by kernel_rfl) rfl #[.pointer (some ⟨g, 0, none⟩)] rfl (by (try simp only [List.map_toArray, List.map_cons, List.map_nil]); first | done | rfl | (simp only [List.length_drop, List.length_take]; rfl)) ?_; (with_reducible refine (spec_l03Disk.calls k g s0_0 s0_1 s0_2 t316 t319 t322 t323 w0 _ ?side1 ?side2 A2.out).mono ?_); (case side1 => repeat (first | (with_reducible first | exact HI0.out | apply IsS146.alloc | apply IsS146.drewN | apply IsS146.drew | apply IsS146.set_1 | apply IsS146.set_2 | apply IsS146.far (hne := NB0_315.out)) | apply IsS146.far (hne := NB0_315.out) | exact HI0.out)); (case side2 => repeat (first | (with_reducible first | exact HB.out | apply zg | apply zh | apply zi | refine zs ?_ (IsS146.ge HI0.out) | refine zs ?_ GE315.out) | exact HB.out)); rintro e w10 ⟨v317, v320, rfl, ho0, ho1, hi, hb, hk⟩; refine ⟨_, rfl, ?_⟩; have n0_ := zj (KeepBut.blk hk (g' := gb315) (o := .cells #[.slice none 0 0, .slice none 0 0] 36 (0, 0)) (by (with_reducible repeat (first | refine za ?_ _ | refine zb ?_ | refine zc ?_ _)); exact BK315.out) NB315_0.out (by simp)); have n1_ := zj (Kd.R_lower ho0 (keep_size (w := w) (g := g) (row := none) (by repeat (first | (with_reducible first | exact HK.out | apply KeepBut.set_ | apply keep_drewN | apply keep_drew | apply keep_alloc | refine keep_far ?_ GW315.out _) | exact HK.out)))); have n2_ := zj (Kd.R_lower ho1 (keep_size (w := w) (g := g) (row := none) (by repeat (first | (with_reducible first | exact HK.out | apply KeepBut.set_ | apply keep_drewN | apply keep_drew | apply keep_alloc | refine keep_far ?_ GW315.out _) | exact HK.out)))); have n3_ := zj (KeepBut.trans (by repeat (first | (with_reducible first | exact HK.out | apply KeepBut.set_ | apply keep_drewN | apply keep_drew | apply keep_alloc | refine keep_far ?_ GW315.out _) | exact HK.out)) hk (.inl rfl)); have n4_ := zj (hb); have n5_ := zj (hi); clear BK315; clear HK; clear HB; clear HI0; have BK315 := n0_; have HO318 := n1_; have HO321 := n2_; have HK := n3_; have HB := n4_; have HI0 := n5_; clear n0_ n1_ n2_ n3_ n4_ n5_; (try clear hb); (try clear hb2); (try clear hk); (try clear hi); (try clear ho0); (try clear ho1); obtain ⟨Ao11, co11, eo11⟩ := Kd.R_slice HO318.out; subst eo11; obtain ⟨Ao12, co12, eo12⟩ := Kd.R_slice HO321.out; subst eo12) | ((with_reducible refine gate_callee (f := 102) rfl ?_); refine goesL_ (some 6) rfl rfl Try.func102 (by kernel_rfl) rfl #[.agg #[.slice Ao11 t316.length co11, .slice Ao12 t319.length co12]] rfl (by (try simp only [List.map_toArray, List.map_cons, List.map_nil]); first | done | rfl | (simp only [List.length_drop, List.length_take]; rfl)) ?_; (with_reducible refine (spec_l03Copy.calls _ _ t316 _ _ t319 t324 t327 _ ?side1 ?side2 ?side3 ?side4 A3.out).mono ?_); (case side1 => repeat (first | exact (Kd.R_reads' HO318.out).2.2 | (with_reducible refine Kd.C_alloc ?_ _) | (with_reducible refine Kd.C_drewN ?_ _) | (with_reducible refine Kd.C_drew ?_))); (case side2 => exact (Kd.R_reads' HO318.out).2.1); (case side3 => repeat (first | exact (Kd.R_reads' HO321.out).2.2 | (with_reducible refine Kd.C_alloc ?_ _) | (with_reducible refine Kd.C_drewN ?_ _) | (with_reducible refine Kd.C_drew ?_))); (case side4 => exact (Kd.R_reads' HO321.out).2.1); rintro e w13 ⟨v325, v328, rfl, ho0, ho1, hb⟩; refine ⟨_, rfl, ?_⟩; have n0_ := zj (Kd.R_elder' (by (with_reducible repeat (first | apply zd | apply ze | apply zf)); exact HO318.out) (Kd.R_base ho0) hb); have n1_ := zj (Kd.R_elder' (by (with_reducible repeat (first | apply zd | apply ze | apply zf)); exact HO321.out) (Kd.R_base ho1) hb); have n2_ := zj (Kd.R_lower (Kd.R_new' ho0 (Kd.R_lt (by (with_reducible repeat (first | apply zd | apply ze | apply zf)); exact HO318.out))) (keep_size (w := w) (g := g) (row := none) (by repeat (first | (with_reducible first | exact HK.out | apply KeepBut.set_ | apply keep_drewN | apply keep_drew | apply keep_alloc | refine keep_far ?_ GW315.out _) | exact HK.out)))); have n3_ := zj (Kd.R_lower (Kd.R_new' ho1 (Kd.R_lt (by (with_reducible repeat (first | apply zd | apply ze | apply zf)); exact HO321.out))) (keep_size (w := w) (g := g) (row := none) (by repeat (first | (with_reducible first | exact HK.out | apply KeepBut.set_ | apply keep_drewN | apply keep_drew | apply keep_alloc | refine keep_far ?_ GW315.out _) | exact HK.out)))); have n4_ := zj (IsS146.below (by repeat (first | (with_reducible first | exact HI0.out | apply IsS146.alloc | apply IsS146.drewN | apply IsS146.drew | apply IsS146.set_1 | apply IsS146.set_2 | apply IsS146.far (hne := NB0_315.out)) | apply IsS146.far (hne := NB0_315.out) | exact HI0.out)) hb); have n5_ := zj (zo (g := gb315) (o := .cells #[.slice none 0 0, .slice none 0 0] 36 (0, 0)) (by (with_reducible repeat (first | refine za ?_ _ | refine zb ?_ | refine zc ?_ _)); exact BK315.out) hb); have n6_ := zj (KeepBut.trans (by repeat (first | (with_reducible first | exact HK.out | apply KeepBut.set_ | apply keep_drewN | apply keep_drew | apply keep_alloc | refine keep_far ?_ GW315.out _) | exact HK.out)) (KeepBut.of_below hb g none) (.inl rfl)); have n7_ := zj (zl (by repeat (first | (with_reducible first | exact HB.out | apply zg | apply zh | apply zi | refine zs ?_ (IsS146.ge HI0.out) | refine zs ?_ GE315.out) | exact HB.out)) hb); clear HO318; clear HO321; clear HI0; clear BK315; clear HK; clear HB; have HO318 := n0_; have HO321 := n1_; have HO326 := n2_; have HO329 := n3_; have HI0 := n4_; have BK315 := n5_; have HK := n6_; have HB := n7_; clear n0_ n1_ n2_ n3_ n4_ n5_ n6_ n7_; (try clear hb); (try clear hb2); (try clear hk); (try clear hi); (try clear ho0); (try clear ho1)) | ((with_reducible refine gate_dst (N := 3) rfl ?_); refine box_event ?hg (N := 3) ?hd (cs := #[.slice none 0 0, .slice none 0 0]) (t := 36) ?hr ?_; (case hd => rfl); (case hg => rfl); (case hr => first | (go_simp; done) | (go_simp; rfl)); intro gb330 hg w14 hbox hb; have n0_ := zj (zt (by (with_reducible repeat (first | apply zd | apply ze | apply zf)); exact HO318.out) hb); have n1_ := zj (zt (by (with_reducible repeat (first | apply zd | apply ze | apply zf)); exact HO321.out) hb); have n2_ := zj (zt (by (with_reducible repeat (first | apply zd | apply ze | apply zf)); exact HO326.out) hb); have n3_ := zj (zt (by (with_reducible repeat (first | apply zd | apply ze | apply zf)); exact HO329.out) hb); have n4_ := zj (IsS146.below (by repeat (first | (with_reducible first | exact HI0.out | apply IsS146.alloc | apply IsS146.drewN | apply IsS146.drew | apply IsS146.set_1 | apply IsS146.set_2 | apply IsS146.far (hne := NB0_315.out)) | apply IsS146.far (hne := NB0_315.out) | exact HI0.out)) hb); have n5_ := zj (zo (g := gb315) (o := .cells #[.slice none 0 0, .slice none 0 0] 36 (0, 0)) (by (with_reducible repeat (first | refine za ?_ _ | refine zb ?_ | refine zc ?_ _)); exact BK315.out) hb); have n6_ := zj (KeepBut.trans (by repeat (first | (with_reducible first | exact HK.out | apply KeepBut.set_ | apply keep_drewN | apply keep_drew | apply keep_alloc | refine keep_far ?_ GW315.out _) | exact HK.out)) (KeepBut.of_below hb g none) (.inl rfl)); have n7_ := zj (zl (by repeat (first | (with_reducible first | exact HB.out | apply zg | apply zh | apply zi | refine zs ?_ (IsS146.ge HI0.out) | refine zs ?_ GE315.out) | exact HB.out)) hb); have n8_ := zj (hbox); have n9_ := zj ((by rw [hg]; exact (keep_size (w := w) (g := g) (row := none) (by repeat (first | (with_reducible first | exact HK.out | apply KeepBut.set_ | apply keep_drewN | apply keep_drew | apply keep_alloc | refine keep_far ?_ GW315.out _) | exact HK.out))) : w.heap.size ≤ gb330)); have n10_ := zj ((Nat.le_trans HW0.out (by rw [hg]; exact (keep_size (w := w) (g := g) (row := none) (by repeat (first | (with_reducible first | exact HK.out | apply KeepBut.set_ | apply keep_drewN | apply keep_drew | apply keep_alloc | refine keep_far ?_ GW315.out _) | exact HK.out))) : w.heap.size ≤ gb330) : w0.heap.size ≤ gb330)); have n11_ := zj ((by rw [hg]; exact Nat.ne_of_lt (blk_lt (g := gb315) (o := .cells #[.slice none 0 0, .slice none 0 0] 36 (0, 0)) (by (with_reducible repeat (first | refine za ?_ _ | refine zb ?_ | refine zc ?_ _)); exact BK315.out)) : gb315 ≠ gb330)); have n12_ := zj ((by rw [hg]; exact Nat.ne_of_gt (blk_lt (g := gb315) (o := .cells #[.slice none 0 0, .slice none 0 0] 36 (0, 0)) (by (with_reducible repeat (first | refine za ?_ _ | refine zb ?_ | refine zc ?_ _)); exact BK315.out)) : gb330 ≠ gb315)); have n13_ := zj ((by rw [hg]; exact Nat.ne_of_lt (IsS146.lt (show IsS146 w0 _ g s0_0 t322 t323 from by repeat (first | (with_reducible first | exact HI0.out | apply IsS146.alloc | apply IsS146.drewN | apply IsS146.drew | apply IsS146.set_1 | apply IsS146.set_2 | apply IsS146.far (hne := NB0_315.out)) | apply IsS146.far (hne := NB0_315.out) | exact HI0.out))) : g ≠ gb330)); have n14_ := zj ((by rw [hg]; exact Nat.ne_of_gt (IsS146.lt (show IsS146 w0 _ g s0_0 t322 t323 from by repeat (first | (with_reducible first | exact HI0.out | apply IsS146.alloc | apply IsS146.drewN | apply IsS146.drew | apply IsS146.set_1 | apply IsS146.set_2 | apply IsS146.far (hne := NB0_315.out)) | apply IsS146.far (hne := NB0_315.out) | exact HI0.out))) : gb330 ≠ g)); clear HO318; clear HO321; clear HO326; clear HO329; clear HI0; clear BK315; clear HK; clear HB; have HO318 := n0_; have HO321 := n1_; have HO326 := n2_; have HO329 := n3_; have HI0 := n4_; have BK315 := n5_; have HK := n6_; have HB := n7_; have BK330 := n8_; have GW330 := n9_; have GE330 := n10_; have NB315_330 := n11_; have NB330_315 := n12_; have NB0_330 := n13_; have NB330_0 := n14_; clear n0_ n1_ n2_ n3_ n4_ n5_ n6_ n7_ n8_ n9_ n10_ n11_ n12_ n13_ n14_; clear hb hbox hg; obtain ⟨Ao15, co15, eo15⟩ := Kd.R_slice HO326.out; subst eo15; have hnb16 := NB330_315.out; have hnc16 := NB315_330.out; have hnb17 := NB330_0.out; have hnc17 := NB0_330.out; have hcz18_0 : w14.cell? ⟨gb330, 0, none⟩ = some (.slice none 0 0) := (zq BK330.out 0).trans rfl; have hcz18_1 : w14.cell? ⟨gb330, 1, none⟩ = some (.slice none 0 0) := (zq BK330.out 1).trans rfl; have hfz18_0 := zv BK330.out 0; have hfz18_1 := zv BK330.out 1; obtain ⟨Ao19, co19, eo19⟩ := Kd.R_slice HO329.out; subst eo19) | ((with_reducible refine gate_callee (f := 74) rfl ?_); refine goesL_ (some 8) rfl rfl Try.func74 (by kernel_rfl) rfl #[.pointer (some ⟨g, 0, none⟩), .int .i64 12] rfl (by (try simp only [List.map_toArray, List.map_cons, List.map_nil]); first | done | rfl | (simp only [List.length_drop, List.length_take]; rfl)) ?_; (with_reducible refine (spec_l01Below.calls g s0_0 t322 t323 12 t331 t332 t333 w0 _ ?side1 ?side2 A4.out).mono ?_); (case side1 => repeat (first | (with_reducible first | exact HI0.out | apply IsS146.alloc | apply IsS146.drewN | apply IsS146.drew | apply IsS146.set_1 | apply IsS146.set_2 | apply IsS146.far (hne := NB0_315.out) | apply IsS146.far (hne := NB0_330.out)) | apply IsS146.far (hne := NB0_315.out) | apply IsS146.far (hne := NB0_330.out) | exact HI0.out)); (case side2 => repeat (first | (with_reducible first | exact HB.out | apply zg | apply zh | apply zi | refine zs ?_ (IsS146.ge HI0.out) | refine zs ?_ GE315.out | refine zs ?_ GE330.out) | exact HB.out)); rintro e w20 ⟨rfl, hi, hb, hk⟩; refine ⟨_, rfl, ?_⟩; have n0_ := zj (KeepBut.blk hk (g' := gb315) (o := .cells #[.slice none 0 0, .slice none 0 0] 36 (0, 0)) (by (with_reducible repeat (first | refine za ?_ _ | refine zb ?_ | refine zc ?_ _)); refine zr ?_ NB315_330.out _; (with_reducible repeat (first | refine za ?_ _ | refine zb ?_ | refine zc ?_ _)); refine zr ?_ NB315_330.out _; (with_reducible repeat (first | refine za ?_ _ | refine zb ?_ | refine zc ?_ _)); exact BK315.out) NB315_0.out (by simp)); have n1_ := zj (zm (Kd.R_keep (IsS146.apart (show IsS146 w0 _ g s0_0 t322 t323 from by repeat (first | (with_reducible first | exact HI0.out | apply IsS146.alloc | apply IsS146.drewN | apply IsS146.drew | apply IsS146.set_1 | apply IsS146.set_2 | apply IsS146.far (hne := NB0_315.out) | apply IsS146.far (hne := NB0_330.out)) | apply IsS146.far (hne := NB0_315.out) | apply IsS146.far (hne := NB0_330.out) | exact HI0.out)) (by (with_reducible repeat (first | apply zd | apply ze | apply zf)); exact (zm (zn (p := ⟨gb330, 1, none⟩) (zn (p := ⟨gb330, 0, none⟩) (zu HO318.out BK330.out (by decide)) (fun _ hk => hk.2) (.slice Ao15 t324.length co15)) (fun _ hk => hk.2) (.slice Ao19 t327.length co19)) (fun _ h_ => h_.1))) (by decide)) hk (fun _ h => h.2)) (fun _ h => h.1)); have n2_ := zj (zm (Kd.R_keep (IsS146.apart (show IsS146 w0 _ g s0_0 t322 t323 from by repeat (first | (with_reducible first | exact HI0.out | apply IsS146.alloc | apply IsS146.drewN | apply IsS146.drew | apply IsS146.set_1 | apply IsS146.set_2 | apply IsS146.far (hne := NB0_315.out) | apply IsS146.far (hne := NB0_330.out)) | apply IsS146.far (hne := NB0_315.out) | apply IsS146.far (hne := NB0_330.out) | exact HI0.out)) (by (with_reducible repeat (first | apply zd | apply ze | apply zf)); exact (zm (zn (p := ⟨gb330, 1, none⟩) (zn (p := ⟨gb330, 0, none⟩) (zu HO321.out BK330.out (by decide)) (fun _ hk => hk.2) (.slice Ao15 t324.length co15)) (fun _ hk => hk.2) (.slice Ao19 t327.length co19)) (fun _ h_ => h_.1))) (by decide)) hk (fun _ h => h.2)) (fun _ h => h.1)); have n3_ := zj (zm (Kd.R_keep (IsS146.apart (show IsS146 w0 _ g s0_0 t322 t323 from by repeat (first | (with_reducible first | exact HI0.out | apply IsS146.alloc | apply IsS146.drewN | apply IsS146.drew | apply IsS146.set_1 | apply IsS146.set_2 | apply IsS146.far (hne := NB0_315.out) | apply IsS146.far (hne := NB0_330.out)) | apply IsS146.far (hne := NB0_315.out) | apply IsS146.far (hne := NB0_330.out) | exact HI0.out)) (by (with_reducible repeat (first | apply zd | apply ze | apply zf)); exact (zm (zn (p := ⟨gb330, 1, none⟩) (zn (p := ⟨gb330, 0, none⟩) (zu HO326.out BK330.out (by decide)) (fun _ hk => hk.2) (.slice Ao15 t324.length co15)) (fun _ hk => hk.2) (.slice Ao19 t327.length co19)) (fun _ h_ => h_.1))) (by decide)) hk (fun _ h => h.2)) (fun _ h => h.1)); have n4_ := zj (zm (Kd.R_keep (IsS146.apart (show IsS146 w0 _ g s0_0 t322 t323 from by repeat (first | (with_reducible first | exact HI0.out | apply IsS146.alloc | apply IsS146.drewN | apply IsS146.drew | apply IsS146.set_1 | apply IsS146.set_2 | apply IsS146.far (hne := NB0_315.out) | apply IsS146.far (hne := NB0_330.out)) | apply IsS146.far (hne := NB0_315.out) | apply IsS146.far (hne := NB0_330.out) | exact HI0.out)) (by (with_reducible repeat (first | apply zd | apply ze | apply zf)); exact (zm (zn (p := ⟨gb330, 1, none⟩) (zn (p := ⟨gb330, 0, none⟩) (zu HO329.out BK330.out (by decide)) (fun _ hk => hk.2) (.slice Ao15 t324.length co15)) (fun _ hk => hk.2) (.slice Ao19 t327.length co19)) (fun _ h_ => h_.1))) (by decide)) hk (fun _ h => h.2)) (fun _ h => h.1)); have n5_ := zj (KeepBut.blk hk (g' := gb330) (o := .cells #[.slice Ao15 t324.length co15, .slice Ao19 t327.length co19] 36 (0, 0)) (by (with_reducible repeat (first | refine za ?_ _ | refine zb ?_ | refine zc ?_ _)); refine zp (cs := #[.slice Ao15 t324.length co15, .slice none 0 0]) ?_ 1 _ rfl; (with_reducible repeat (first | refine za ?_ _ | refine zb ?_ | refine zc ?_ _)); refine zp (cs := #[.slice none 0 0, .slice none 0 0]) ?_ 0 _ rfl; (with_reducible repeat (first | refine za ?_ _ | refine zb ?_ | refine zc ?_ _)); exact BK330.out) NB330_0.out (by simp)); have n6_ := zj (KeepBut.trans (by repeat (first | (with_reducible first | exact HK.out | apply KeepBut.set_ | apply keep_drewN | apply keep_drew | apply keep_alloc | refine keep_far ?_ GW315.out _ | refine keep_far ?_ GW330.out _) | exact HK.out)) hk (.inl rfl)); have n7_ := zj (hb); have n8_ := zj (hi); clear BK315; clear HO318; clear HO321; clear HO326; clear HO329; clear BK330; clear HK; clear HB; clear HI0; have BK315 := n0_; have HO318 := n1_; have HO321 := n2_; have HO326 := n3_; have HO329 := n4_; have BK330 := n5_; have HK := n6_; have HB := n7_; have HI0 := n8_; clear n0_ n1_ n2_ n3_ n4_ n5_ n6_ n7_ n8_; (try clear hb); (try clear hb2); (try clear hk); (try clear hi)))
    have n0_ := zj (zf HO318.out)
    have n1_ := zj (zf HO321.out)
    have n2_ := zj (zf HO326.out)
    have n3_ := zj (zf HO329.out)
    have n4_ := zj (zb BK315.out)
    have n5_ := zj (zb BK330.out)
    have n6_ := zj (IsS146.drew HI0.out)
    have n7_ := zj (keep_drew HK.out)
    have n8_ := zj (zi HB.out)
    clear HO318
    clear HO321
    clear HO326
    clear HO329
    clear BK315
    clear BK330
    clear HI0
    clear HK
    clear HB
    have HO318 := n0_
    have HO321 := n1_
    have HO326 := n2_
    have HO329 := n3_
    have BK315 := n4_
    have BK330 := n5_
    have HI0 := n6_
    have HK := n7_
    have HB := n8_
    clear n0_ n1_ n2_ n3_ n4_ n5_ n6_ n7_ n8_
    refine start_ (n := 7) (S := fun w' => w'.cell? ⟨gb330, 0, none⟩ = some (.slice Ao15 t324.length co15) ∧ w'.cell? ⟨gb330, 1, none⟩ = some (.slice Ao19 t327.length co19)) (ds := [6]) #[false, false, false, false, false, false, false] (by kernel_rfl) rfl rfl ⟨(zq BK330.out 0).trans rfl, (zq BK330.out 1).trans rfl⟩ (fun hHeld => ?_)
    generalize w20.drew = w21 at HO318 HO321 HO326 HO329 BK315 BK330 HI0 HK HB hHeld ⊢
    refine pure_ (i := 0) (N := some 11) (v := ?_) (a' := ?_) #[true, false, false, false, false, false, false] rfl rfl (by kernel_rfl) (fun _ _ _ h => h) (Or.inl ⟨by rfl, ?_⟩) ?_ ?_
    rotate_left
    ·intro w'
     go_simp
     with_reducible rfl
    rotate_left
    ·simp only [Act.put, List.setIfInBounds_toArray, List.set_cons_zero, List.set_cons_succ, i64_w, i32_w]
     rfl
    refine pure_ (i := 2) (N := some 13) (v := ?_) (a' := ?_) #[true, false, true, false, false, false, false] rfl rfl (by kernel_rfl) (fun _ _ _ h => h) (Or.inl ⟨by rfl, ?_⟩) ?_ ?_
    rotate_left
    ·intro w'
     go_simp
     with_reducible rfl
    rotate_left
    ·simp only [Act.put, List.setIfInBounds_toArray, List.set_cons_zero, List.set_cons_succ, i64_w, i32_w]
     rfl
    refine take_ (i := 1) (N := some 12) (v := ?_) (a' := ?_) #[true, true, true, false, false, false, false] rfl rfl (by kernel_rfl) (fun _ _ _ h => h) (Or.inl ⟨by rfl, ?_⟩) hHeld ?_ ?_
    rotate_left
    ·rintro w' ⟨s0, s1⟩
     go_simp
     with_reducible rfl
    rotate_left
    ·simp only [Act.put, List.setIfInBounds_toArray, List.set_cons_zero, List.set_cons_succ, i64_w, i32_w]
     rfl
    refine one_ (i := 3) (N := some 14) #[true, true, true, true, false, false, false] rfl rfl (by kernel_rfl) (by decide) (fun K hK => ?_)
    refine goes_ Try.func74 (by kernel_rfl) rfl #[.pointer (some ⟨g, 0, none⟩), .int .i64 4] (by rfl) rfl rfl (by (try simp only [List.map_toArray, List.map_cons, List.map_nil]); first | done | rfl | (simp only [List.length_drop, List.length_take]; rfl)) ?_
    with_reducible refine (spec_l01Below.calls g s0_0 t332 t333 4 t334 t335 t336 w0 _ ?side1 ?side2 A6.out).mono ?_
    (case side1 => repeat (first | (with_reducible first | exact HI0.out | apply IsS146.alloc | apply IsS146.drewN | apply IsS146.drew | apply IsS146.set_1 | apply IsS146.set_2 | apply IsS146.far (hne := NB0_315.out) | apply IsS146.far (hne := NB0_330.out)) | apply IsS146.far (hne := NB0_315.out) | apply IsS146.far (hne := NB0_330.out) | exact HI0.out))
    (case side2 => repeat (first | (with_reducible first | exact HB.out | apply zg | apply zh | apply zi | refine zs ?_ (IsS146.ge HI0.out) | refine zs ?_ GE315.out | refine zs ?_ GE330.out) | exact HB.out))
    rintro e w22 ⟨rfl, hi, hb, hk⟩
    refine ⟨_, rfl, ?_⟩
    have n0_ := zj (KeepBut.blk hk (g' := gb315) (o := .cells #[.slice none 0 0, .slice none 0 0] 36 (0, 0)) (by (with_reducible repeat (first | refine za ?_ _ | refine zb ?_ | refine zc ?_ _)); exact BK315.out) NB315_0.out (by simp))
    have n1_ := zj (zm (Kd.R_keep (IsS146.apart (show IsS146 w0 _ g s0_0 t332 t333 from by repeat (first | (with_reducible first | exact HI0.out | apply IsS146.alloc | apply IsS146.drewN | apply IsS146.drew | apply IsS146.set_1 | apply IsS146.set_2 | apply IsS146.far (hne := NB0_315.out) | apply IsS146.far (hne := NB0_330.out)) | apply IsS146.far (hne := NB0_315.out) | apply IsS146.far (hne := NB0_330.out) | exact HI0.out)) (by (with_reducible repeat (first | apply zd | apply ze | apply zf)); exact HO318.out) (by decide)) hk (fun _ h => h.2)) (fun _ h => h.1))
    have n2_ := zj (zm (Kd.R_keep (IsS146.apart (show IsS146 w0 _ g s0_0 t332 t333 from by repeat (first | (with_reducible first | exact HI0.out | apply IsS146.alloc | apply IsS146.drewN | apply IsS146.drew | apply IsS146.set_1 | apply IsS146.set_2 | apply IsS146.far (hne := NB0_315.out) | apply IsS146.far (hne := NB0_330.out)) | apply IsS146.far (hne := NB0_315.out) | apply IsS146.far (hne := NB0_330.out) | exact HI0.out)) (by (with_reducible repeat (first | apply zd | apply ze | apply zf)); exact HO321.out) (by decide)) hk (fun _ h => h.2)) (fun _ h => h.1))
    have n3_ := zj (zm (Kd.R_keep (IsS146.apart (show IsS146 w0 _ g s0_0 t332 t333 from by repeat (first | (with_reducible first | exact HI0.out | apply IsS146.alloc | apply IsS146.drewN | apply IsS146.drew | apply IsS146.set_1 | apply IsS146.set_2 | apply IsS146.far (hne := NB0_315.out) | apply IsS146.far (hne := NB0_330.out)) | apply IsS146.far (hne := NB0_315.out) | apply IsS146.far (hne := NB0_330.out) | exact HI0.out)) (by (with_reducible repeat (first | apply zd | apply ze | apply zf)); exact HO326.out) (by decide)) hk (fun _ h => h.2)) (fun _ h => h.1))
    have n4_ := zj (zm (Kd.R_keep (IsS146.apart (show IsS146 w0 _ g s0_0 t332 t333 from by repeat (first | (with_reducible first | exact HI0.out | apply IsS146.alloc | apply IsS146.drewN | apply IsS146.drew | apply IsS146.set_1 | apply IsS146.set_2 | apply IsS146.far (hne := NB0_315.out) | apply IsS146.far (hne := NB0_330.out)) | apply IsS146.far (hne := NB0_315.out) | apply IsS146.far (hne := NB0_330.out) | exact HI0.out)) (by (with_reducible repeat (first | apply zd | apply ze | apply zf)); exact HO329.out) (by decide)) hk (fun _ h => h.2)) (fun _ h => h.1))
    have n5_ := zj (KeepBut.blk hk (g' := gb330) (o := .cells #[.slice Ao15 t324.length co15, .slice Ao19 t327.length co19] 36 (0, 0)) (by (with_reducible repeat (first | refine za ?_ _ | refine zb ?_ | refine zc ?_ _)); exact BK330.out) NB330_0.out (by simp))
    have n6_ := zj (KeepBut.trans (by repeat (first | (with_reducible first | exact HK.out | apply KeepBut.set_ | apply keep_drewN | apply keep_drew | apply keep_alloc | refine keep_far ?_ GW315.out _ | refine keep_far ?_ GW330.out _) | exact HK.out)) hk (.inl rfl))
    have n7_ := zj (hb)
    have n8_ := zj (hi)
    clear BK315
    clear HO318
    clear HO321
    clear HO326
    clear HO329
    clear BK330
    clear HK
    clear HB
    clear HI0
    have BK315 := n0_
    have HO318 := n1_
    have HO321 := n2_
    have HO326 := n3_
    have HO329 := n4_
    have BK330 := n5_
    have HK := n6_
    have HB := n7_
    have HI0 := n8_
    clear n0_ n1_ n2_ n3_ n4_ n5_ n6_ n7_ n8_
    (try clear hb)
    (try clear hb2)
    (try clear hk)
    (try clear hi)
    have q23 : (t334 : Int) ≤ ((t324.length : Int) : Int) := of_decide_eq_true (by first | (with_reducible assumption) | assumption)
    obtain ⟨i023, hi023, _, hsz23, _⟩ := info_parts info9
    have hcut23 := cut_to (P := Try.prog) 22 9 .i64 Try.underlying22 hi023 Ao15 t324.length co15 t334 (of_decide_eq_true (by first | (with_reducible assumption) | assumption)) q23 (Kd.R_reads' HO326.out).2.1
    have hr23 := Kd.R_take (m := (t334 : Int).toNat) HO326.out (by omega)
    have hy23 : y337.length = (t334 : Int).toNat := (by rw [Ny337.out, List.length_take]; omega)
    rw [← Ny337.out] at hr23
    rw [← hy23] at hr23 hcut23
    clear hy23 hi023 hsz23 HO326
    have HO339 := zj hr23
    clear hr23
    replace q23 := eq_true q23
    refine hK.out _ _ ⟨(zq BK330.out 0).trans rfl, (zq BK330.out 1).trans rfl⟩ (fun hHeld => ?_)
    clear hK K
    refine norm_ (a' := ?_) ?_ ?_
    rotate_left
    ·show Act.put _ (some 14) _ = _
     simp only [Act.put, List.setIfInBounds_toArray, List.set_cons_zero, List.set_cons_succ, i64_w, i32_w]
     rfl
    refine pure_ (i := 4) (N := some 15) (v := ?_) (a' := ?_) #[true, true, true, true, true, false, false] rfl rfl (by kernel_rfl) (fun _ _ _ h => h) (Or.inl ⟨by rfl, ?_⟩) ?_ ?_
    rotate_left
    ·intro w'
     go_simp
     with_reducible rfl
    rotate_left
    ·simp only [Act.put, List.setIfInBounds_toArray, List.set_cons_zero, List.set_cons_succ, i64_w, i32_w]
     rfl
    refine pure_ (i := 5) (N := some 16) (v := ?_) (a' := ?_) #[true, true, true, true, true, true, false] rfl rfl (by kernel_rfl) (fun _ _ _ h => h) (Or.inl ⟨by rfl, ?_⟩) ?_ ?_
    rotate_left
    ·intro w'
     go_simp
     with_reducible rfl
    rotate_left
    ·simp only [Act.put, List.setIfInBounds_toArray, List.set_cons_zero, List.set_cons_succ, i64_w, i32_w]
     rfl
    refine last_ (i := 6) (N := none) #[true, true, true, true, true, true, true] rfl rfl (by kernel_rfl) (by decide) (fun K hK => ?_)
    have hs24 : w22.cell? ⟨gb330, 0, none⟩ = some (.slice Ao15 t324.length co15) := (zq BK330.out 0).trans rfl
    have hfs24 := zv BK330.out 0
    have hns24_0 := NB315_330.out
    have hms24_0 := NB330_315.out
    refine skip_ (w1 := ?_) (by rfl) rfl ?_ ?_
    rotate_left
    ·go_simp
     rfl
    refine hK.out _ _ ?_
    clear hK K
    refine done_ (by kernel_rfl) ?_
    have hcz25_0 : w22.cell? ⟨gb330, 0, none⟩ = some (.slice Ao15 t324.length co15) := (zq BK330.out 0).trans rfl
    have hcz25_1 : w22.cell? ⟨gb330, 1, none⟩ = some (.slice Ao19 t327.length co19) := (zq BK330.out 1).trans rfl
    have hfz25_0 := zv BK330.out 0
    have hfz25_1 := zv BK330.out 1
    have hnb26 := NB315_0.out
    have hnc26 := NB0_315.out
    have hcz27_0 : w22.cell? ⟨gb315, 0, none⟩ = some (.slice none 0 0) := (zq BK315.out 0).trans rfl
    have hcz27_1 : w22.cell? ⟨gb315, 1, none⟩ = some (.slice none 0 0) := (zq BK315.out 1).trans rfl
    have hfz27_0 := zv BK315.out 0
    have hfz27_1 := zv BK315.out 1
    try go_wp2
    refine bodyPost_ret (results_cell_row rfl _ _ gb315 36 #[.slice Ao15 y337.length co15, .slice Ao19 t327.length co19] (0, 0) _ rfl (by (with_reducible repeat (first | refine za ?_ _ | refine zb ?_ | refine zc ?_ _)); refine zp (cs := #[.slice Ao15 y337.length co15, .slice none 0 0]) ?_ 1 _ rfl; (with_reducible repeat (first | refine za ?_ _ | refine zb ?_ | refine zc ?_ _)); refine zp (cs := #[.slice none 0 0, .slice none 0 0]) ?_ 0 _ rfl; (with_reducible repeat (first | refine za ?_ _ | refine zb ?_ | refine zc ?_ _)); refine zr ?_ NB315_330.out _; (with_reducible repeat (first | refine za ?_ _ | refine zb ?_ | refine zc ?_ _)); exact BK315.out) Try.underlying36 rfl (by kernel_rfl)) rfl ?_
    exact ⟨_, _, by first | rfl | (simp [errW_none, errW_some] <;> rfl) | (simp [*, errW_none, errW_some] <;> rfl), by (with_reducible repeat (first | apply zd | apply ze | apply zf)); exact zm (zn (p := ⟨gb315, 1, none⟩) (zn (p := ⟨gb315, 0, none⟩) (zn (p := ⟨gb330, 0, none⟩) (zu (zu HO339.out BK330.out (by decide)) BK315.out (by decide)) (fun _ hk => hk.1.2) (.slice Ao15 y337.length co15)) (fun _ hk => hk.2) (.slice Ao15 y337.length co15)) (fun _ hk => hk.2) (.slice Ao19 t327.length co19)) (fun _ hk => trivial), by (with_reducible repeat (first | apply zd | apply ze | apply zf)); exact zm (zn (p := ⟨gb315, 1, none⟩) (zn (p := ⟨gb315, 0, none⟩) (zn (p := ⟨gb330, 0, none⟩) (zu (zu HO329.out BK330.out (by decide)) BK315.out (by decide)) (fun _ hk => hk.1.2) (.slice Ao15 y337.length co15)) (fun _ hk => hk.2) (.slice Ao15 y337.length co15)) (fun _ hk => hk.2) (.slice Ao19 t327.length co19)) (fun _ hk => trivial), by repeat (first | (with_reducible first | exact HI0.out | apply IsS146.alloc | apply IsS146.drewN | apply IsS146.drew | apply IsS146.set_1 | apply IsS146.set_2 | apply IsS146.far (hne := NB0_315.out) | apply IsS146.far (hne := NB0_330.out)) | apply IsS146.far (hne := NB0_315.out) | apply IsS146.far (hne := NB0_330.out) | exact HI0.out), by repeat (first | (with_reducible first | exact HB.out | apply zg | apply zh | apply zi | refine zs ?_ (IsS146.ge HI0.out) | refine zs ?_ GE315.out | refine zs ?_ GE330.out) | exact HB.out), by repeat (first | (with_reducible first | exact HK.out | apply KeepBut.set_ | apply keep_drewN | apply keep_drew | apply keep_alloc | refine keep_far ?_ GW315.out _ | refine keep_far ?_ GW330.out _) | exact HK.out)⟩
   ·rw [if_neg c8] at H
    exact absurd H (by simp)
  ·rw [if_neg c7] at H
   exact absurd H (by simp)
 ·rw [if_neg c5] at H
  have c5b0 : (t331 == 0) = false := beq_eq_false_iff_ne.mpr c5
  have c5b1 : (t331 != 0) = true := bne_iff_ne.mpr c5
  by_cases c28 : t331 = 1
  ·rw [if_pos c28] at H
   have c28b0 : (t331 == 1) = true := beq_iff_eq.mpr c28
   have c28b1 : (t331 != 1) = false := bne_eq_false_iff_eq.mpr c28
   clear c28
   obtain ⟨y340, hy340⟩ : ∃ y_ : List Int, y_ = (([(-1), 0, 40] : List Int)) := ⟨_, rfl⟩
   replace H : ((spec_l01PickInt.f s0_0 t332 t333 y340).bind fun bt343 => (if t327.length < 5864062014805 then (some (t324, (t327 ++ [(⟨bt343.1, (⟨#[120]⟩ : ByteArray)⟩ : S74)]), bt343.2.1, bt343.2.2)) else (none))) = some (r1, r2, r3, r4) := by first | (rw [hy340]; with_reducible exact H) | (have H2_ := (Option.bind_some _ _).symm.trans H; rw [hy340]; with_reducible exact H2_) | (have H2_ := (Option.bind_some _ _).symm.trans H; with_reducible exact H2_) | with_reducible exact H | (rw [hy340]; exact H) | exact H
   have Ny340 := zj hy340
   clear hy340
   replace H := Option.bind_eq_some_iff.mp H
   obtain ⟨⟨t343, t344, t345⟩, A290, H⟩ := H
   replace H : (if t327.length < 5864062014805 then (some (t324, (t327 ++ [(⟨t343, (⟨#[120]⟩ : ByteArray)⟩ : S74)]), t344, t345)) else (none)) = some (r1, r2, r3, r4) := H
   have A29 := zj A290
   clear A290
   by_cases c30 : t327.length < 5864062014805
   ·rw [if_pos c30] at H
    have LMc30 := zj c30
    clear c30
    obtain ⟨y346, hy346⟩ : ∃ y_ : List (S74), y_ = (t327 ++ [(⟨t343, (⟨#[120]⟩ : ByteArray)⟩ : S74)]) := ⟨_, rfl⟩
    replace H : (some (t324, y346, t344, t345)) = some (r1, r2, r3, r4) := by first | (rw [hy346]; with_reducible exact H) | (have H2_ := (Option.bind_some _ _).symm.trans H; rw [hy346]; with_reducible exact H2_) | (have H2_ := (Option.bind_some _ _).symm.trans H; with_reducible exact H2_) | with_reducible exact H | (rw [hy346]; exact H) | exact H
    have Ny346 := zj hy346
    clear hy346
    simp only [Option.some.injEq, Prod.mk.injEq] at H
    obtain ⟨rfl, rfl, rfl, rfl⟩ := H
    go_enter Try.func99, Try.ntmps99
    try go_wp2_with (first | ((with_reducible refine gate_dst (N := 2) rfl ?_); refine box_event ?hg (N := 2) ?hd (cs := #[.slice none 0 0, .slice none 0 0]) (t := 36) ?hr ?_; (case hd => rfl); (case hg => rfl); (case hr => first | (go_simp; done) | (go_simp; rfl)); intro gb315 hg w31 hbox hb; have n0_ := zj (IsS146.below (by repeat (first | (with_reducible first | exact HI0.out | apply IsS146.alloc | apply IsS146.drewN | apply IsS146.drew | apply IsS146.set_1 | apply IsS146.set_2) | exact HI0.out)) hb); have n1_ := zj (KeepBut.trans (by repeat (first | (with_reducible first | exact HK.out | apply KeepBut.set_ | apply keep_drewN | apply keep_drew | apply keep_alloc) | exact HK.out)) (KeepBut.of_below hb g none) (.inl rfl)); have n2_ := zj (zl (by repeat (first | (with_reducible first | exact HB.out | apply zg | apply zh | apply zi | refine zs ?_ (IsS146.ge HI0.out)) | exact HB.out)) hb); have n3_ := zj (hbox); have n4_ := zj ((by rw [hg]; exact (keep_size (w := w) (g := g) (row := none) (by repeat (first | (with_reducible first | exact HK.out | apply KeepBut.set_ | apply keep_drewN | apply keep_drew | apply keep_alloc) | exact HK.out))) : w.heap.size ≤ gb315)); have n5_ := zj ((Nat.le_trans HW0.out (by rw [hg]; exact (keep_size (w := w) (g := g) (row := none) (by repeat (first | (with_reducible first | exact HK.out | apply KeepBut.set_ | apply keep_drewN | apply keep_drew | apply keep_alloc) | exact HK.out))) : w.heap.size ≤ gb315) : w0.heap.size ≤ gb315)); have n6_ := zj ((by rw [hg]; exact Nat.ne_of_lt (IsS146.lt (show IsS146 w0 _ g s0_0 s0_1 s0_2 from by repeat (first | (with_reducible first | exact HI0.out | apply IsS146.alloc | apply IsS146.drewN | apply IsS146.drew | apply IsS146.set_1 | apply IsS146.set_2) | exact HI0.out))) : g ≠ gb315)); have n7_ := zj ((by rw [hg]; exact Nat.ne_of_gt (IsS146.lt (show IsS146 w0 _ g s0_0 s0_1 s0_2 from by repeat (first | (with_reducible first | exact HI0.out | apply IsS146.alloc | apply IsS146.drewN | apply IsS146.drew | apply IsS146.set_1 | apply IsS146.set_2) | exact HI0.out))) : gb315 ≠ g)); clear HI0; clear HK; clear HB; have HI0 := n0_; have HK := n1_; have HB := n2_; have BK315 := n3_; have GW315 := n4_; have GE315 := n5_; have NB0_315 := n6_; have NB315_0 := n7_; clear n0_ n1_ n2_ n3_ n4_ n5_ n6_ n7_; clear hb hbox hg) | ((with_reducible refine gate_callee (f := 71) rfl ?_); refine goesL_ (some 5) rfl rfl Try.func71 (by kernel_rfl) rfl #[.pointer (some ⟨g, 0, none⟩)] rfl (by (try simp only [List.map_toArray, List.map_cons, List.map_nil]); first | done | rfl | (simp only [List.length_drop, List.length_take]; rfl)) ?_; (with_reducible refine (spec_l03Disk.calls k g s0_0 s0_1 s0_2 t316 t319 t322 t323 w0 _ ?side1 ?side2 A2.out).mono ?_); (case side1 => repeat (first | (with_reducible first | exact HI0.out | apply IsS146.alloc | apply IsS146.drewN | apply IsS146.drew | apply IsS146.set_1 | apply IsS146.set_2 | apply IsS146.far (hne := NB0_315.out)) | apply IsS146.far (hne := NB0_315.out) | exact HI0.out)); (case side2 => repeat (first | (with_reducible first | exact HB.out | apply zg | apply zh | apply zi | refine zs ?_ (IsS146.ge HI0.out) | refine zs ?_ GE315.out) | exact HB.out)); rintro e w32 ⟨v317, v320, rfl, ho0, ho1, hi, hb, hk⟩; refine ⟨_, rfl, ?_⟩; have n0_ := zj (KeepBut.blk hk (g' := gb315) (o := .cells #[.slice none 0 0, .slice none 0 0] 36 (0, 0)) (by (with_reducible repeat (first | refine za ?_ _ | refine zb ?_ | refine zc ?_ _)); exact BK315.out) NB315_0.out (by simp)); have n1_ := zj (Kd.R_lower ho0 (keep_size (w := w) (g := g) (row := none) (by repeat (first | (with_reducible first | exact HK.out | apply KeepBut.set_ | apply keep_drewN | apply keep_drew | apply keep_alloc | refine keep_far ?_ GW315.out _) | exact HK.out)))); have n2_ := zj (Kd.R_lower ho1 (keep_size (w := w) (g := g) (row := none) (by repeat (first | (with_reducible first | exact HK.out | apply KeepBut.set_ | apply keep_drewN | apply keep_drew | apply keep_alloc | refine keep_far ?_ GW315.out _) | exact HK.out)))); have n3_ := zj (KeepBut.trans (by repeat (first | (with_reducible first | exact HK.out | apply KeepBut.set_ | apply keep_drewN | apply keep_drew | apply keep_alloc | refine keep_far ?_ GW315.out _) | exact HK.out)) hk (.inl rfl)); have n4_ := zj (hb); have n5_ := zj (hi); clear BK315; clear HK; clear HB; clear HI0; have BK315 := n0_; have HO318 := n1_; have HO321 := n2_; have HK := n3_; have HB := n4_; have HI0 := n5_; clear n0_ n1_ n2_ n3_ n4_ n5_; (try clear hb); (try clear hb2); (try clear hk); (try clear hi); (try clear ho0); (try clear ho1); obtain ⟨Ao33, co33, eo33⟩ := Kd.R_slice HO318.out; subst eo33; obtain ⟨Ao34, co34, eo34⟩ := Kd.R_slice HO321.out; subst eo34) | ((with_reducible refine gate_callee (f := 102) rfl ?_); refine goesL_ (some 6) rfl rfl Try.func102 (by kernel_rfl) rfl #[.agg #[.slice Ao33 t316.length co33, .slice Ao34 t319.length co34]] rfl (by (try simp only [List.map_toArray, List.map_cons, List.map_nil]); first | done | rfl | (simp only [List.length_drop, List.length_take]; rfl)) ?_; (with_reducible refine (spec_l03Copy.calls _ _ t316 _ _ t319 t324 t327 _ ?side1 ?side2 ?side3 ?side4 A3.out).mono ?_); (case side1 => repeat (first | exact (Kd.R_reads' HO318.out).2.2 | (with_reducible refine Kd.C_alloc ?_ _) | (with_reducible refine Kd.C_drewN ?_ _) | (with_reducible refine Kd.C_drew ?_))); (case side2 => exact (Kd.R_reads' HO318.out).2.1); (case side3 => repeat (first | exact (Kd.R_reads' HO321.out).2.2 | (with_reducible refine Kd.C_alloc ?_ _) | (with_reducible refine Kd.C_drewN ?_ _) | (with_reducible refine Kd.C_drew ?_))); (case side4 => exact (Kd.R_reads' HO321.out).2.1); rintro e w35 ⟨v325, v328, rfl, ho0, ho1, hb⟩; refine ⟨_, rfl, ?_⟩; have n0_ := zj (Kd.R_elder' (by (with_reducible repeat (first | apply zd | apply ze | apply zf)); exact HO318.out) (Kd.R_base ho0) hb); have n1_ := zj (Kd.R_elder' (by (with_reducible repeat (first | apply zd | apply ze | apply zf)); exact HO321.out) (Kd.R_base ho1) hb); have n2_ := zj (Kd.R_lower (Kd.R_new' ho0 (Kd.R_lt (by (with_reducible repeat (first | apply zd | apply ze | apply zf)); exact HO318.out))) (keep_size (w := w) (g := g) (row := none) (by repeat (first | (with_reducible first | exact HK.out | apply KeepBut.set_ | apply keep_drewN | apply keep_drew | apply keep_alloc | refine keep_far ?_ GW315.out _) | exact HK.out)))); have n3_ := zj (Kd.R_lower (Kd.R_new' ho1 (Kd.R_lt (by (with_reducible repeat (first | apply zd | apply ze | apply zf)); exact HO321.out))) (keep_size (w := w) (g := g) (row := none) (by repeat (first | (with_reducible first | exact HK.out | apply KeepBut.set_ | apply keep_drewN | apply keep_drew | apply keep_alloc | refine keep_far ?_ GW315.out _) | exact HK.out)))); have n4_ := zj (IsS146.below (by repeat (first | (with_reducible first | exact HI0.out | apply IsS146.alloc | apply IsS146.drewN | apply IsS146.drew | apply IsS146.set_1 | apply IsS146.set_2 | apply IsS146.far (hne := NB0_315.out)) | apply IsS146.far (hne := NB0_315.out) | exact HI0.out)) hb); have n5_ := zj (zo (g := gb315) (o := .cells #[.slice none 0 0, .slice none 0 0] 36 (0, 0)) (by (with_reducible repeat (first | refine za ?_ _ | refine zb ?_ | refine zc ?_ _)); exact BK315.out) hb); have n6_ := zj (KeepBut.trans (by repeat (first | (with_reducible first | exact HK.out | apply KeepBut.set_ | apply keep_drewN | apply keep_drew | apply keep_alloc | refine keep_far ?_ GW315.out _) | exact HK.out)) (KeepBut.of_below hb g none) (.inl rfl)); have n7_ := zj (zl (by repeat (first | (with_reducible first | exact HB.out | apply zg | apply zh | apply zi | refine zs ?_ (IsS146.ge HI0.out) | refine zs ?_ GE315.out) | exact HB.out)) hb); clear HO318; clear HO321; clear HI0; clear BK315; clear HK; clear HB; have HO318 := n0_; have HO321 := n1_; have HO326 := n2_; have HO329 := n3_; have HI0 := n4_; have BK315 := n5_; have HK := n6_; have HB := n7_; clear n0_ n1_ n2_ n3_ n4_ n5_ n6_ n7_; (try clear hb); (try clear hb2); (try clear hk); (try clear hi); (try clear ho0); (try clear ho1)) | ((with_reducible refine gate_dst (N := 3) rfl ?_); refine box_event ?hg (N := 3) ?hd (cs := #[.slice none 0 0, .slice none 0 0]) (t := 36) ?hr ?_; (case hd => rfl); (case hg => rfl); (case hr => first | (go_simp; done) | (go_simp; rfl)); intro gb330 hg w36 hbox hb; have n0_ := zj (zt (by (with_reducible repeat (first | apply zd | apply ze | apply zf)); exact HO318.out) hb); have n1_ := zj (zt (by (with_reducible repeat (first | apply zd | apply ze | apply zf)); exact HO321.out) hb); have n2_ := zj (zt (by (with_reducible repeat (first | apply zd | apply ze | apply zf)); exact HO326.out) hb); have n3_ := zj (zt (by (with_reducible repeat (first | apply zd | apply ze | apply zf)); exact HO329.out) hb); have n4_ := zj (IsS146.below (by repeat (first | (with_reducible first | exact HI0.out | apply IsS146.alloc | apply IsS146.drewN | apply IsS146.drew | apply IsS146.set_1 | apply IsS146.set_2 | apply IsS146.far (hne := NB0_315.out)) | apply IsS146.far (hne := NB0_315.out) | exact HI0.out)) hb); have n5_ := zj (zo (g := gb315) (o := .cells #[.slice none 0 0, .slice none 0 0] 36 (0, 0)) (by (with_reducible repeat (first | refine za ?_ _ | refine zb ?_ | refine zc ?_ _)); exact BK315.out) hb); have n6_ := zj (KeepBut.trans (by repeat (first | (with_reducible first | exact HK.out | apply KeepBut.set_ | apply keep_drewN | apply keep_drew | apply keep_alloc | refine keep_far ?_ GW315.out _) | exact HK.out)) (KeepBut.of_below hb g none) (.inl rfl)); have n7_ := zj (zl (by repeat (first | (with_reducible first | exact HB.out | apply zg | apply zh | apply zi | refine zs ?_ (IsS146.ge HI0.out) | refine zs ?_ GE315.out) | exact HB.out)) hb); have n8_ := zj (hbox); have n9_ := zj ((by rw [hg]; exact (keep_size (w := w) (g := g) (row := none) (by repeat (first | (with_reducible first | exact HK.out | apply KeepBut.set_ | apply keep_drewN | apply keep_drew | apply keep_alloc | refine keep_far ?_ GW315.out _) | exact HK.out))) : w.heap.size ≤ gb330)); have n10_ := zj ((Nat.le_trans HW0.out (by rw [hg]; exact (keep_size (w := w) (g := g) (row := none) (by repeat (first | (with_reducible first | exact HK.out | apply KeepBut.set_ | apply keep_drewN | apply keep_drew | apply keep_alloc | refine keep_far ?_ GW315.out _) | exact HK.out))) : w.heap.size ≤ gb330) : w0.heap.size ≤ gb330)); have n11_ := zj ((by rw [hg]; exact Nat.ne_of_lt (blk_lt (g := gb315) (o := .cells #[.slice none 0 0, .slice none 0 0] 36 (0, 0)) (by (with_reducible repeat (first | refine za ?_ _ | refine zb ?_ | refine zc ?_ _)); exact BK315.out)) : gb315 ≠ gb330)); have n12_ := zj ((by rw [hg]; exact Nat.ne_of_gt (blk_lt (g := gb315) (o := .cells #[.slice none 0 0, .slice none 0 0] 36 (0, 0)) (by (with_reducible repeat (first | refine za ?_ _ | refine zb ?_ | refine zc ?_ _)); exact BK315.out)) : gb330 ≠ gb315)); have n13_ := zj ((by rw [hg]; exact Nat.ne_of_lt (IsS146.lt (show IsS146 w0 _ g s0_0 t322 t323 from by repeat (first | (with_reducible first | exact HI0.out | apply IsS146.alloc | apply IsS146.drewN | apply IsS146.drew | apply IsS146.set_1 | apply IsS146.set_2 | apply IsS146.far (hne := NB0_315.out)) | apply IsS146.far (hne := NB0_315.out) | exact HI0.out))) : g ≠ gb330)); have n14_ := zj ((by rw [hg]; exact Nat.ne_of_gt (IsS146.lt (show IsS146 w0 _ g s0_0 t322 t323 from by repeat (first | (with_reducible first | exact HI0.out | apply IsS146.alloc | apply IsS146.drewN | apply IsS146.drew | apply IsS146.set_1 | apply IsS146.set_2 | apply IsS146.far (hne := NB0_315.out)) | apply IsS146.far (hne := NB0_315.out) | exact HI0.out))) : gb330 ≠ g)); clear HO318; clear HO321; clear HO326; clear HO329; clear HI0; clear BK315; clear HK; clear HB; have HO318 := n0_; have HO321 := n1_; have HO326 := n2_; have HO329 := n3_; have HI0 := n4_; have BK315 := n5_; have HK := n6_; have HB := n7_; have BK330 := n8_; have GW330 := n9_; have GE330 := n10_; have NB315_330 := n11_; have NB330_315 := n12_; have NB0_330 := n13_; have NB330_0 := n14_; clear n0_ n1_ n2_ n3_ n4_ n5_ n6_ n7_ n8_ n9_ n10_ n11_ n12_ n13_ n14_; clear hb hbox hg; obtain ⟨Ao37, co37, eo37⟩ := Kd.R_slice HO326.out; subst eo37; have hnb38 := NB330_315.out; have hnc38 := NB315_330.out; have hnb39 := NB330_0.out; have hnc39 := NB0_330.out; have hcz40_0 : w36.cell? ⟨gb330, 0, none⟩ = some (.slice none 0 0) := (zq BK330.out 0).trans rfl; have hcz40_1 : w36.cell? ⟨gb330, 1, none⟩ = some (.slice none 0 0) := (zq BK330.out 1).trans rfl; have hfz40_0 := zv BK330.out 0; have hfz40_1 := zv BK330.out 1; obtain ⟨Ao41, co41, eo41⟩ := Kd.R_slice HO329.out; subst eo41) | ((with_reducible refine gate_callee (f := 74) rfl ?_); refine goesL_ (some 8) rfl rfl Try.func74 (by kernel_rfl) rfl #[.pointer (some ⟨g, 0, none⟩), .int .i64 12] rfl (by (try simp only [List.map_toArray, List.map_cons, List.map_nil]); first | done | rfl | (simp only [List.length_drop, List.length_take]; rfl)) ?_; (with_reducible refine (spec_l01Below.calls g s0_0 t322 t323 12 t331 t332 t333 w0 _ ?side1 ?side2 A4.out).mono ?_); (case side1 => repeat (first | (with_reducible first | exact HI0.out | apply IsS146.alloc | apply IsS146.drewN | apply IsS146.drew | apply IsS146.set_1 | apply IsS146.set_2 | apply IsS146.far (hne := NB0_315.out) | apply IsS146.far (hne := NB0_330.out)) | apply IsS146.far (hne := NB0_315.out) | apply IsS146.far (hne := NB0_330.out) | exact HI0.out)); (case side2 => repeat (first | (with_reducible first | exact HB.out | apply zg | apply zh | apply zi | refine zs ?_ (IsS146.ge HI0.out) | refine zs ?_ GE315.out | refine zs ?_ GE330.out) | exact HB.out)); rintro e w42 ⟨rfl, hi, hb, hk⟩; refine ⟨_, rfl, ?_⟩; have n0_ := zj (KeepBut.blk hk (g' := gb315) (o := .cells #[.slice none 0 0, .slice none 0 0] 36 (0, 0)) (by (with_reducible repeat (first | refine za ?_ _ | refine zb ?_ | refine zc ?_ _)); refine zr ?_ NB315_330.out _; (with_reducible repeat (first | refine za ?_ _ | refine zb ?_ | refine zc ?_ _)); refine zr ?_ NB315_330.out _; (with_reducible repeat (first | refine za ?_ _ | refine zb ?_ | refine zc ?_ _)); exact BK315.out) NB315_0.out (by simp)); have n1_ := zj (zm (Kd.R_keep (IsS146.apart (show IsS146 w0 _ g s0_0 t322 t323 from by repeat (first | (with_reducible first | exact HI0.out | apply IsS146.alloc | apply IsS146.drewN | apply IsS146.drew | apply IsS146.set_1 | apply IsS146.set_2 | apply IsS146.far (hne := NB0_315.out) | apply IsS146.far (hne := NB0_330.out)) | apply IsS146.far (hne := NB0_315.out) | apply IsS146.far (hne := NB0_330.out) | exact HI0.out)) (by (with_reducible repeat (first | apply zd | apply ze | apply zf)); exact (zm (zn (p := ⟨gb330, 1, none⟩) (zn (p := ⟨gb330, 0, none⟩) (zu HO318.out BK330.out (by decide)) (fun _ hk => hk.2) (.slice Ao37 t324.length co37)) (fun _ hk => hk.2) (.slice Ao41 t327.length co41)) (fun _ h_ => h_.1))) (by decide)) hk (fun _ h => h.2)) (fun _ h => h.1)); have n2_ := zj (zm (Kd.R_keep (IsS146.apart (show IsS146 w0 _ g s0_0 t322 t323 from by repeat (first | (with_reducible first | exact HI0.out | apply IsS146.alloc | apply IsS146.drewN | apply IsS146.drew | apply IsS146.set_1 | apply IsS146.set_2 | apply IsS146.far (hne := NB0_315.out) | apply IsS146.far (hne := NB0_330.out)) | apply IsS146.far (hne := NB0_315.out) | apply IsS146.far (hne := NB0_330.out) | exact HI0.out)) (by (with_reducible repeat (first | apply zd | apply ze | apply zf)); exact (zm (zn (p := ⟨gb330, 1, none⟩) (zn (p := ⟨gb330, 0, none⟩) (zu HO321.out BK330.out (by decide)) (fun _ hk => hk.2) (.slice Ao37 t324.length co37)) (fun _ hk => hk.2) (.slice Ao41 t327.length co41)) (fun _ h_ => h_.1))) (by decide)) hk (fun _ h => h.2)) (fun _ h => h.1)); have n3_ := zj (zm (Kd.R_keep (IsS146.apart (show IsS146 w0 _ g s0_0 t322 t323 from by repeat (first | (with_reducible first | exact HI0.out | apply IsS146.alloc | apply IsS146.drewN | apply IsS146.drew | apply IsS146.set_1 | apply IsS146.set_2 | apply IsS146.far (hne := NB0_315.out) | apply IsS146.far (hne := NB0_330.out)) | apply IsS146.far (hne := NB0_315.out) | apply IsS146.far (hne := NB0_330.out) | exact HI0.out)) (by (with_reducible repeat (first | apply zd | apply ze | apply zf)); exact (zm (zn (p := ⟨gb330, 1, none⟩) (zn (p := ⟨gb330, 0, none⟩) (zu HO326.out BK330.out (by decide)) (fun _ hk => hk.2) (.slice Ao37 t324.length co37)) (fun _ hk => hk.2) (.slice Ao41 t327.length co41)) (fun _ h_ => h_.1))) (by decide)) hk (fun _ h => h.2)) (fun _ h => h.1)); have n4_ := zj (zm (Kd.R_keep (IsS146.apart (show IsS146 w0 _ g s0_0 t322 t323 from by repeat (first | (with_reducible first | exact HI0.out | apply IsS146.alloc | apply IsS146.drewN | apply IsS146.drew | apply IsS146.set_1 | apply IsS146.set_2 | apply IsS146.far (hne := NB0_315.out) | apply IsS146.far (hne := NB0_330.out)) | apply IsS146.far (hne := NB0_315.out) | apply IsS146.far (hne := NB0_330.out) | exact HI0.out)) (by (with_reducible repeat (first | apply zd | apply ze | apply zf)); exact (zm (zn (p := ⟨gb330, 1, none⟩) (zn (p := ⟨gb330, 0, none⟩) (zu HO329.out BK330.out (by decide)) (fun _ hk => hk.2) (.slice Ao37 t324.length co37)) (fun _ hk => hk.2) (.slice Ao41 t327.length co41)) (fun _ h_ => h_.1))) (by decide)) hk (fun _ h => h.2)) (fun _ h => h.1)); have n5_ := zj (KeepBut.blk hk (g' := gb330) (o := .cells #[.slice Ao37 t324.length co37, .slice Ao41 t327.length co41] 36 (0, 0)) (by (with_reducible repeat (first | refine za ?_ _ | refine zb ?_ | refine zc ?_ _)); refine zp (cs := #[.slice Ao37 t324.length co37, .slice none 0 0]) ?_ 1 _ rfl; (with_reducible repeat (first | refine za ?_ _ | refine zb ?_ | refine zc ?_ _)); refine zp (cs := #[.slice none 0 0, .slice none 0 0]) ?_ 0 _ rfl; (with_reducible repeat (first | refine za ?_ _ | refine zb ?_ | refine zc ?_ _)); exact BK330.out) NB330_0.out (by simp)); have n6_ := zj (KeepBut.trans (by repeat (first | (with_reducible first | exact HK.out | apply KeepBut.set_ | apply keep_drewN | apply keep_drew | apply keep_alloc | refine keep_far ?_ GW315.out _ | refine keep_far ?_ GW330.out _) | exact HK.out)) hk (.inl rfl)); have n7_ := zj (hb); have n8_ := zj (hi); clear BK315; clear HO318; clear HO321; clear HO326; clear HO329; clear BK330; clear HK; clear HB; clear HI0; have BK315 := n0_; have HO318 := n1_; have HO321 := n2_; have HO326 := n3_; have HO329 := n4_; have BK330 := n5_; have HK := n6_; have HB := n7_; have HI0 := n8_; clear n0_ n1_ n2_ n3_ n4_ n5_ n6_ n7_ n8_; (try clear hb); (try clear hb2); (try clear hk); (try clear hi)))
    have n0_ := zj (zf HO318.out)
    have n1_ := zj (zf HO321.out)
    have n2_ := zj (zf HO326.out)
    have n3_ := zj (zf HO329.out)
    have n4_ := zj (zb BK315.out)
    have n5_ := zj (zb BK330.out)
    have n6_ := zj (IsS146.drew HI0.out)
    have n7_ := zj (keep_drew HK.out)
    have n8_ := zj (zi HB.out)
    clear HO318
    clear HO321
    clear HO326
    clear HO329
    clear BK315
    clear BK330
    clear HI0
    clear HK
    clear HB
    have HO318 := n0_
    have HO321 := n1_
    have HO326 := n2_
    have HO329 := n3_
    have BK315 := n4_
    have BK330 := n5_
    have HI0 := n6_
    have HK := n7_
    have HB := n8_
    clear n0_ n1_ n2_ n3_ n4_ n5_ n6_ n7_ n8_
    refine start_ (n := 10) (S := fun w' => w'.cell? ⟨gb330, 0, none⟩ = some (.slice Ao37 t324.length co37) ∧ w'.cell? ⟨gb330, 1, none⟩ = some (.slice Ao41 t327.length co41)) (ds := [9]) #[false, false, false, false, false, false, false, false, false, false] (by kernel_rfl) rfl rfl ⟨(zq BK330.out 0).trans rfl, (zq BK330.out 1).trans rfl⟩ (fun hHeld => ?_); refine with_tabW spec_l03Any.tab6 spec_l03Any.bits6 (fun HT_ HW_ => ?_)
    generalize w42.drew = w43 at HO318 HO321 HO326 HO329 BK315 BK330 HI0 HK HB hHeld ⊢
    refine pure_ (i := 0) (N := some 19) (v := ?_) (a' := ?_) #[true, false, false, false, false, false, false, false, false, false] rfl rfl (any_of HT_.out (by kernel_rfl)) (fun _ _ _ h => h) (Or.inl ⟨by rfl, ?_⟩) ?_ ?_
    rotate_left
    ·intro w'
     go_simp
     with_reducible rfl
    rotate_left
    ·simp only [Act.put, List.setIfInBounds_toArray, List.set_cons_zero, List.set_cons_succ, i64_w, i32_w]
     rfl
    refine pure_ (i := 2) (N := some 21) (v := ?_) (a' := ?_) #[true, false, true, false, false, false, false, false, false, false] rfl rfl (any_of HT_.out (by kernel_rfl)) (fun _ _ _ h => h) (Or.inl ⟨by rfl, ?_⟩) ?_ ?_
    rotate_left
    ·intro w'
     go_simp
     with_reducible rfl
    rotate_left
    ·simp only [Act.put, List.setIfInBounds_toArray, List.set_cons_zero, List.set_cons_succ, i64_w, i32_w]
     rfl
    refine take_ (i := 1) (N := some 20) (v := ?_) (a' := ?_) #[true, true, true, false, false, false, false, false, false, false] rfl rfl (take_ofW HT_.out HW_.out (by kernel_rfl)) (fun _ _ _ h => h) (Or.inl ⟨by rfl, ?_⟩) hHeld ?_ ?_
    rotate_left
    ·rintro w' ⟨s0, s1⟩
     go_simp
     with_reducible rfl
    rotate_left
    ·simp only [Act.put, List.setIfInBounds_toArray, List.set_cons_zero, List.set_cons_succ, i64_w, i32_w]
     rfl
    refine one_ (i := 3) (N := some 22) #[true, true, true, true, false, false, false, false, false, false] rfl rfl (one_of HT_.out (by kernel_rfl)) (by decide) (fun K hK => ?_)
    refine Kd.R_lit_step (Kd.int .i64) _ 3 ?hg (N := 22) ?hd (xs := ([(-1), 0, 40] : List Int)) (inner := [.int .i64 (-1), .int .i64 0, .int .i64 40]) (ok := fun _ => True) (okp := fun _ => True) ?hr ?hp (fun _ hk => hk) trivial (Below.refl _ _) (Nat.le_refl _) (by simp) ?_; (case hd => rfl); (case hg => rfl); (case hr => first | (go_simp; done) | (go_simp; rfl)); (case hp => exact (Reps.one (show Kd.M (Kd.int .i64) _ _ _ (-1) [.int .i64 (-1)] from rfl) (Reps.one (show Kd.M (Kd.int .i64) _ _ _ 0 [.int .i64 0] from rfl) (Reps.one (show Kd.M (Kd.int .i64) _ _ _ 40 [.int .i64 40] from rfl) (Reps.none _ _)))))
    intro v341 w44 ho45 hb hg_ hnew_
    clear hg_ hnew_
    (first | rw [← Ny340.out] at ho45 | (simp only [Int.reduceToNat] at ho45; rw [← Ny340.out] at ho45))
    have n0_ := zj (zt (by (with_reducible repeat (first | apply zd | apply ze | apply zf)); exact HO318.out) hb)
    have n1_ := zj (zt (by (with_reducible repeat (first | apply zd | apply ze | apply zf)); exact HO321.out) hb)
    have n2_ := zj (zt (by (with_reducible repeat (first | apply zd | apply ze | apply zf)); exact HO326.out) hb)
    have n3_ := zj (zt (by (with_reducible repeat (first | apply zd | apply ze | apply zf)); exact HO329.out) hb)
    have n4_ := zj (Kd.R_lower ho45 (keep_size (w := w) (g := g) (row := none) (by repeat (first | (with_reducible first | exact HK.out | apply KeepBut.set_ | apply keep_drewN | apply keep_drew | apply keep_alloc | refine keep_far ?_ GW315.out _ | refine keep_far ?_ GW330.out _) | exact HK.out))))
    have n5_ := zj (IsS146.below (by repeat (first | (with_reducible first | exact HI0.out | apply IsS146.alloc | apply IsS146.drewN | apply IsS146.drew | apply IsS146.set_1 | apply IsS146.set_2 | apply IsS146.far (hne := NB0_315.out) | apply IsS146.far (hne := NB0_330.out)) | apply IsS146.far (hne := NB0_315.out) | apply IsS146.far (hne := NB0_330.out) | exact HI0.out)) hb)
    have n6_ := zj (zo (g := gb315) (o := .cells #[.slice none 0 0, .slice none 0 0] 36 (0, 0)) (by (with_reducible repeat (first | refine za ?_ _ | refine zb ?_ | refine zc ?_ _)); exact BK315.out) hb)
    have n7_ := zj (zo (g := gb330) (o := .cells #[.slice Ao37 t324.length co37, .slice Ao41 t327.length co41] 36 (0, 0)) (by (with_reducible repeat (first | refine za ?_ _ | refine zb ?_ | refine zc ?_ _)); exact BK330.out) hb)
    have n8_ := zj (KeepBut.trans (by repeat (first | (with_reducible first | exact HK.out | apply KeepBut.set_ | apply keep_drewN | apply keep_drew | apply keep_alloc | refine keep_far ?_ GW315.out _ | refine keep_far ?_ GW330.out _) | exact HK.out)) (KeepBut.of_below hb g none) (.inl rfl))
    have n9_ := zj (zl (by repeat (first | (with_reducible first | exact HB.out | apply zg | apply zh | apply zi | refine zs ?_ (IsS146.ge HI0.out) | refine zs ?_ GE315.out | refine zs ?_ GE330.out) | exact HB.out)) hb)
    clear HO318
    clear HO321
    clear HO326
    clear HO329
    clear HI0
    clear BK315
    clear BK330
    clear HK
    clear HB
    have HO318 := n0_
    have HO321 := n1_
    have HO326 := n2_
    have HO329 := n3_
    have HO342 := n4_
    have HI0 := n5_
    have BK315 := n6_
    have BK330 := n7_
    have HK := n8_
    have HB := n9_
    clear n0_ n1_ n2_ n3_ n4_ n5_ n6_ n7_ n8_ n9_
    clear hb ho45
    obtain ⟨Ao46, co46, eo46⟩ := Kd.R_slice HO342.out
    (first | subst eo46 | (injection eo46 with f1_ f2_ f3_; have f4_ := f1_.symm; have f5_ := f3_.symm; clear f1_ f2_ f3_; subst f4_; subst f5_))
    refine hK.out _ _ ⟨(zq BK330.out 0).trans rfl, (zq BK330.out 1).trans rfl⟩ (fun hHeld => ?_)
    clear hK K
    refine norm_ (a' := ?_) ?_ ?_
    rotate_left
    ·show Act.put _ (some 22) _ = _
     simp only [Act.put, List.setIfInBounds_toArray, List.set_cons_zero, List.set_cons_succ, i64_w, i32_w]
     rfl
    refine one_ (i := 4) (N := some 23) #[true, true, true, true, true, false, false, false, false, false] rfl rfl (one_of HT_.out (by kernel_rfl)) (by decide) (fun K hK => ?_)
    refine goes_ Try.func101 (by kernel_rfl) rfl #[.pointer (some ⟨g, 0, none⟩), .slice Ao46 y340.length co46] (by rfl) rfl rfl (by (try simp only [List.map_toArray, List.map_cons, List.map_nil]); first | done | rfl | (simp only [List.length_drop, List.length_take]; rfl)) ?_
    with_reducible refine (spec_l01PickInt.calls g s0_0 t332 t333 _ _ y340 t343 t344 t345 w0 _ ?side1 ?side2 ?side3 ?side4 ?side5 A29.out).mono ?_
    (case side1 => repeat (first | (with_reducible first | exact HI0.out | apply IsS146.alloc | apply IsS146.drewN | apply IsS146.drew | apply IsS146.set_1 | apply IsS146.set_2 | apply IsS146.far (hne := NB0_315.out) | apply IsS146.far (hne := NB0_330.out)) | apply IsS146.far (hne := NB0_315.out) | apply IsS146.far (hne := NB0_330.out) | exact HI0.out))
    (case side2 => repeat (first | (with_reducible first | exact HB.out | apply zg | apply zh | apply zi | refine zs ?_ (IsS146.ge HI0.out) | refine zs ?_ GE315.out | refine zs ?_ GE330.out) | exact HB.out))
    (case side3 => repeat (first | exact (Kd.R_reads' HO342.out).2.2 | (with_reducible refine Kd.C_alloc ?_ _) | (with_reducible refine Kd.C_drewN ?_ _) | (with_reducible refine Kd.C_drew ?_)))
    (case side4 => exact (Kd.R_reads' HO342.out).2.1)
    (case side5 => exact far_slice (IsS146.own_ne HI0.out HO342.out (by decide)))
    rintro e w47 ⟨rfl, hi, hb, hk⟩
    refine ⟨_, rfl, ?_⟩
    have n0_ := zj (KeepBut.blk hk (g' := gb315) (o := .cells #[.slice none 0 0, .slice none 0 0] 36 (0, 0)) (by (with_reducible repeat (first | refine za ?_ _ | refine zb ?_ | refine zc ?_ _)); exact BK315.out) NB315_0.out (by simp))
    have n1_ := zj (zm (Kd.R_keep (IsS146.apart (show IsS146 w0 _ g s0_0 t332 t333 from by repeat (first | (with_reducible first | exact HI0.out | apply IsS146.alloc | apply IsS146.drewN | apply IsS146.drew | apply IsS146.set_1 | apply IsS146.set_2 | apply IsS146.far (hne := NB0_315.out) | apply IsS146.far (hne := NB0_330.out)) | apply IsS146.far (hne := NB0_315.out) | apply IsS146.far (hne := NB0_330.out) | exact HI0.out)) (by (with_reducible repeat (first | apply zd | apply ze | apply zf)); exact HO318.out) (by decide)) hk (fun _ h => h.2)) (fun _ h => h.1))
    have n2_ := zj (zm (Kd.R_keep (IsS146.apart (show IsS146 w0 _ g s0_0 t332 t333 from by repeat (first | (with_reducible first | exact HI0.out | apply IsS146.alloc | apply IsS146.drewN | apply IsS146.drew | apply IsS146.set_1 | apply IsS146.set_2 | apply IsS146.far (hne := NB0_315.out) | apply IsS146.far (hne := NB0_330.out)) | apply IsS146.far (hne := NB0_315.out) | apply IsS146.far (hne := NB0_330.out) | exact HI0.out)) (by (with_reducible repeat (first | apply zd | apply ze | apply zf)); exact HO321.out) (by decide)) hk (fun _ h => h.2)) (fun _ h => h.1))
    have n3_ := zj (zm (Kd.R_keep (IsS146.apart (show IsS146 w0 _ g s0_0 t332 t333 from by repeat (first | (with_reducible first | exact HI0.out | apply IsS146.alloc | apply IsS146.drewN | apply IsS146.drew | apply IsS146.set_1 | apply IsS146.set_2 | apply IsS146.far (hne := NB0_315.out) | apply IsS146.far (hne := NB0_330.out)) | apply IsS146.far (hne := NB0_315.out) | apply IsS146.far (hne := NB0_330.out) | exact HI0.out)) (by (with_reducible repeat (first | apply zd | apply ze | apply zf)); exact HO326.out) (by decide)) hk (fun _ h => h.2)) (fun _ h => h.1))
    have n4_ := zj (zm (Kd.R_keep (IsS146.apart (show IsS146 w0 _ g s0_0 t332 t333 from by repeat (first | (with_reducible first | exact HI0.out | apply IsS146.alloc | apply IsS146.drewN | apply IsS146.drew | apply IsS146.set_1 | apply IsS146.set_2 | apply IsS146.far (hne := NB0_315.out) | apply IsS146.far (hne := NB0_330.out)) | apply IsS146.far (hne := NB0_315.out) | apply IsS146.far (hne := NB0_330.out) | exact HI0.out)) (by (with_reducible repeat (first | apply zd | apply ze | apply zf)); exact HO329.out) (by decide)) hk (fun _ h => h.2)) (fun _ h => h.1))
    have n5_ := zj (KeepBut.blk hk (g' := gb330) (o := .cells #[.slice Ao37 t324.length co37, .slice Ao41 t327.length co41] 36 (0, 0)) (by (with_reducible repeat (first | refine za ?_ _ | refine zb ?_ | refine zc ?_ _)); exact BK330.out) NB330_0.out (by simp))
    have n6_ := zj (zm (Kd.R_keep (IsS146.apart (show IsS146 w0 _ g s0_0 t332 t333 from by repeat (first | (with_reducible first | exact HI0.out | apply IsS146.alloc | apply IsS146.drewN | apply IsS146.drew | apply IsS146.set_1 | apply IsS146.set_2 | apply IsS146.far (hne := NB0_315.out) | apply IsS146.far (hne := NB0_330.out)) | apply IsS146.far (hne := NB0_315.out) | apply IsS146.far (hne := NB0_330.out) | exact HI0.out)) (by (with_reducible repeat (first | apply zd | apply ze | apply zf)); exact HO342.out) (by decide)) hk (fun _ h => h.2)) (fun _ h => h.1))
    have n7_ := zj (KeepBut.trans (by repeat (first | (with_reducible first | exact HK.out | apply KeepBut.set_ | apply keep_drewN | apply keep_drew | apply keep_alloc | refine keep_far ?_ GW315.out _ | refine keep_far ?_ GW330.out _) | exact HK.out)) hk (.inl rfl))
    have n8_ := zj (hb)
    have n9_ := zj (hi)
    clear BK315
    clear HO318
    clear HO321
    clear HO326
    clear HO329
    clear BK330
    clear HO342
    clear HK
    clear HB
    clear HI0
    have BK315 := n0_
    have HO318 := n1_
    have HO321 := n2_
    have HO326 := n3_
    have HO329 := n4_
    have BK330 := n5_
    have HO342 := n6_
    have HK := n7_
    have HB := n8_
    have HI0 := n9_
    clear n0_ n1_ n2_ n3_ n4_ n5_ n6_ n7_ n8_ n9_
    (try clear hb)
    (try clear hb2)
    (try clear hk)
    (try clear hi)
    refine hK.out _ _ ⟨(zq BK330.out 0).trans rfl, (zq BK330.out 1).trans rfl⟩ (fun hHeld => ?_)
    clear hK K
    refine norm_ (a' := ?_) ?_ ?_
    rotate_left
    ·show Act.put _ (some 23) _ = _
     simp only [Act.put, List.setIfInBounds_toArray, List.set_cons_zero, List.set_cons_succ, i64_w, i32_w]
     rfl
    refine pure_ (i := 5) (N := some 24) (v := ?_) (a' := ?_) #[true, true, true, true, true, true, false, false, false, false] rfl rfl (any_of HT_.out (by kernel_rfl)) (fun _ _ _ h => h) (Or.inl ⟨by rfl, ?_⟩) ?_ ?_
    rotate_left
    ·intro w'
     go_simp
     with_reducible rfl
    rotate_left
    ·simp only [Act.put, List.setIfInBounds_toArray, List.set_cons_zero, List.set_cons_succ, i64_w, i32_w]
     rfl
    refine one_ (i := 6) (N := some 25) #[true, true, true, true, true, true, true, false, false, false] rfl rfl (one_of HT_.out (by kernel_rfl)) (by decide) (fun K hK => ?_)
    refine value_ (w1 := ?_) (v := ?_) (by rfl) rfl ?_ ?_
    rotate_left 2
    ·go_simp
     constructor
     ·rfl
     ·rfl
    refine hK.out _ _ ⟨(zq (zc BK330.out _) 0).trans rfl, (zq (zc BK330.out _) 1).trans rfl⟩ (fun hHeld => ?_)
    clear hK K
    refine norm_ (a' := ?_) ?_ ?_
    rotate_left
    ·show Act.put _ (some 25) _ = _
     simp only [Act.put, List.setIfInBounds_toArray, List.set_cons_zero, List.set_cons_succ, i64_w, i32_w]
     rfl
    refine one_ (i := 7) (N := some 26) #[true, true, true, true, true, true, true, true, false, false] rfl rfl (one_of HT_.out (by kernel_rfl)) (by decide) (fun K hK => ?_)
    refine Kd.R_append_step k74 w.heap.size (by rfl) (.tmp 20) (.tmp 25) 34 74 (.agg #[(.int .i64 0), (.string ⟨#[]⟩)]) 24 rfl Try.underlying34 info74 rfl (by decide) (by omega) (.slice Ao41 t327.length co41) t327 (⟨t343, (⟨#[120]⟩ : ByteArray)⟩ : S74) [.int .i64 t343, .string (⟨#[120]⟩ : ByteArray)] (fun k_ => some k_ ≠ (.slice Ao34 t319.length co34 : Value).ownBlock) (fun _ => False) rfl rfl ?aP (fun _ hk => hk.elim) ?aF ?aO (Below.refl _ _) ?aS ?aL ?_
    (case aP => exact k74_mkM _ _ _ (⟨t343, (⟨#[120]⟩ : ByteArray)⟩ : S74))
    (case aF => exact (fun k_ hk => Kd.fresh' (Kd.R_lt (by (with_reducible repeat (first | apply zd | apply ze | apply zf)); exact HO321.out)) k_ hk))
    (case aO => exact (by (with_reducible repeat (first | apply zd | apply ze | apply zf)); exact zm HO329.out (fun _ hk => hk.2)))
    (case aS => exact (keep_size (w := w) (g := g) (row := none) (by repeat (first | (with_reducible first | exact HK.out | apply KeepBut.set_ | apply keep_drewN | apply keep_drew | apply keep_alloc | refine keep_far ?_ GW315.out _ | refine keep_far ?_ GW330.out _) | exact HK.out))))
    (case aL => have := LMc30.out; omega)
    intro v347 w48 ho hb hg hat
    rw [← Ny346.out] at ho
    have n0_ := zj (IsS146.grown (by repeat (first | (with_reducible first | exact HI0.out | apply IsS146.alloc | apply IsS146.drewN | apply IsS146.drew | apply IsS146.set_1 | apply IsS146.set_2 | apply IsS146.far (hne := NB0_315.out) | apply IsS146.far (hne := NB0_330.out)) | apply IsS146.far (hne := NB0_315.out) | apply IsS146.far (hne := NB0_330.out) | exact HI0.out)) hg (IsS146.own_ne HI0.out HO329.out (by decide)))
    have n1_ := zj (blk_grown (g := gb315) (o := .cells #[.slice none 0 0, .slice none 0 0] 36 (0, 0)) (by (with_reducible repeat (first | refine za ?_ _ | refine zb ?_ | refine zc ?_ _)); exact BK315.out) hg (Kd.R_ne HO329.out BK315.out (by decide)))
    have n2_ := zj (Kd.R_over' (by (with_reducible repeat (first | apply zd | apply ze | apply zf)); exact HO318.out) (Kd.R_typed (by (with_reducible repeat (first | apply zd | apply ze | apply zf)); exact HO329.out)) (by decide) hg)
    have n3_ := zj (Kd.R_after (ok := (fun _ => True)) (by (with_reducible repeat (first | apply zd | apply ze | apply zf)); exact HO321.out) hg hat)
    have n4_ := zj (Kd.R_over' (by (with_reducible repeat (first | apply zd | apply ze | apply zf)); exact HO326.out) (Kd.R_typed (by (with_reducible repeat (first | apply zd | apply ze | apply zf)); exact HO329.out)) (by decide) hg)
    have n5_ := zj (blk_grown (g := gb330) (o := .cells #[.slice Ao37 t324.length co37, .slice Ao41 t327.length co41] 36 (0, 0)) (by (with_reducible repeat (first | refine za ?_ _ | refine zb ?_ | refine zc ?_ _)); exact BK330.out) hg (Kd.R_ne HO329.out BK330.out (by decide)))
    have n6_ := zj (Kd.R_over' (by (with_reducible repeat (first | apply zd | apply ze | apply zf)); exact HO342.out) (Kd.R_typed (by (with_reducible repeat (first | apply zd | apply ze | apply zf)); exact HO329.out)) (by decide) hg)
    have n7_ := zj (below_weaken (by repeat (first | (with_reducible first | exact HB.out | apply zg | apply zh | apply zi | refine zs ?_ (IsS146.ge HI0.out) | refine zs ?_ GE315.out | refine zs ?_ GE330.out) | exact HB.out)) HL.out hb)
    have n8_ := zj (KeepBut.trans (by repeat (first | (with_reducible first | exact HK.out | apply KeepBut.set_ | apply keep_drewN | apply keep_drew | apply keep_alloc | refine keep_far ?_ GW315.out _ | refine keep_far ?_ GW330.out _) | exact HK.out)) (KeepBut.of_grown hg g) (Kd.R_base2 HO329.out))
    have n9_ := zj (ho)
    clear HI0
    clear BK315
    clear HO318
    clear HO321
    clear HO326
    clear BK330
    clear HO342
    clear HB
    clear HK
    clear HO329
    have HI0 := n0_
    have BK315 := n1_
    have HO318 := n2_
    have HO321 := n3_
    have HO326 := n4_
    have BK330 := n5_
    have HO342 := n6_
    have HB := n7_
    have HK := n8_
    have HO348 := n9_
    clear n0_ n1_ n2_ n3_ n4_ n5_ n6_ n7_ n8_ n9_
    clear ho hb hg hat
    obtain ⟨Ao49, co49, eo49⟩ := Kd.R_slice HO348.out
    (first | subst eo49 | (injection eo49 with f1_ f2_ f3_; have f4_ := f1_.symm; have f5_ := f3_.symm; clear f1_ f2_ f3_; subst f4_; subst f5_))
    refine hK.out _ _ ⟨(zq BK330.out 0).trans rfl, (zq BK330.out 1).trans rfl⟩ (fun hHeld => ?_)
    clear hK K
    refine norm_ (a' := ?_) ?_ ?_
    rotate_left
    ·show Act.put _ (some 26) _ = _
     simp only [Act.put, List.setIfInBounds_toArray, List.set_cons_zero, List.set_cons_succ, i64_w, i32_w]
     rfl
    refine pure_ (i := 8) (N := some 27) (v := ?_) (a' := ?_) #[true, true, true, true, true, true, true, true, true, false] rfl rfl (any_of HT_.out (by kernel_rfl)) (fun _ _ _ h => h) (Or.inl ⟨by rfl, ?_⟩) ?_ ?_
    rotate_left
    ·intro w'
     go_simp
     with_reducible rfl
    rotate_left
    ·simp only [Act.put, List.setIfInBounds_toArray, List.set_cons_zero, List.set_cons_succ, i64_w, i32_w]
     rfl
    refine last_ (i := 9) (N := none) #[true, true, true, true, true, true, true, true, true, true] rfl rfl (one_of HT_.out (by kernel_rfl)) (by decide) (fun K hK => ?_)
    have hs50 : w48.cell? ⟨gb330, 1, none⟩ = some (.slice Ao41 t327.length co41) := (zq BK330.out 1).trans rfl
    have hfs50 := zv BK330.out 1
    have hns50_0 := NB315_330.out
    have hms50_0 := NB330_315.out
    refine skip_ (w1 := ?_) (by rfl) rfl ?_ ?_
    rotate_left
    ·go_simp
     rfl
    refine hK.out _ _ ?_
    clear hK K
    refine done_ (done_of HT_.out (by kernel_rfl)) ?_
    have hcz51_0 : w48.cell? ⟨gb330, 0, none⟩ = some (.slice Ao37 t324.length co37) := (zq BK330.out 0).trans rfl
    have hcz51_1 : w48.cell? ⟨gb330, 1, none⟩ = some (.slice Ao41 t327.length co41) := (zq BK330.out 1).trans rfl
    have hfz51_0 := zv BK330.out 0
    have hfz51_1 := zv BK330.out 1
    have hnb52 := NB315_0.out
    have hnc52 := NB0_315.out
    have hcz53_0 : w48.cell? ⟨gb315, 0, none⟩ = some (.slice none 0 0) := (zq BK315.out 0).trans rfl
    have hcz53_1 : w48.cell? ⟨gb315, 1, none⟩ = some (.slice none 0 0) := (zq BK315.out 1).trans rfl
    have hfz53_0 := zv BK315.out 0
    have hfz53_1 := zv BK315.out 1
    try go_wp2
    refine bodyPost_ret (results_cell_row rfl _ _ gb315 36 #[.slice Ao37 t324.length co37, .slice Ao49 y346.length co49] (0, 0) _ rfl (by (with_reducible repeat (first | refine za ?_ _ | refine zb ?_ | refine zc ?_ _)); refine zp (cs := #[.slice Ao37 t324.length co37, .slice none 0 0]) ?_ 1 _ rfl; (with_reducible repeat (first | refine za ?_ _ | refine zb ?_ | refine zc ?_ _)); refine zp (cs := #[.slice none 0 0, .slice none 0 0]) ?_ 0 _ rfl; (with_reducible repeat (first | refine za ?_ _ | refine zb ?_ | refine zc ?_ _)); refine zr ?_ NB315_330.out _; (with_reducible repeat (first | refine za ?_ _ | refine zb ?_ | refine zc ?_ _)); exact BK315.out) Try.underlying36 rfl (by kernel_rfl)) rfl ?_
    exact ⟨_, _, by first | rfl | (simp [errW_none, errW_some] <;> rfl) | (simp [*, errW_none, errW_some] <;> rfl), by (with_reducible repeat (first | apply zd | apply ze | apply zf)); exact zm (zn (p := ⟨gb315, 1, none⟩) (zn (p := ⟨gb315, 0, none⟩) (zn (p := ⟨gb330, 1, none⟩) (zu (zu HO326.out BK330.out (by decide)) BK315.out (by decide)) (fun _ hk => hk.1.2) (.slice Ao49 y346.length co49)) (fun _ hk => hk.2) (.slice Ao37 t324.length co37)) (fun _ hk => hk.2) (.slice Ao49 y346.length co49)) (fun _ hk => trivial), by (with_reducible repeat (first | apply zd | apply ze | apply zf)); exact zm (zn (p := ⟨gb315, 1, none⟩) (zn (p := ⟨gb315, 0, none⟩) (zn (p := ⟨gb330, 1, none⟩) (zu (zu HO348.out BK330.out (by decide)) BK315.out (by decide)) (fun _ hk => hk.1.2) (.slice Ao49 y346.length co49)) (fun _ hk => hk.2) (.slice Ao37 t324.length co37)) (fun _ hk => hk.2) (.slice Ao49 y346.length co49)) (fun _ hk => trivial), by repeat (first | (with_reducible first | exact HI0.out | apply IsS146.alloc | apply IsS146.drewN | apply IsS146.drew | apply IsS146.set_1 | apply IsS146.set_2 | apply IsS146.far (hne := NB0_315.out) | apply IsS146.far (hne := NB0_330.out)) | apply IsS146.far (hne := NB0_315.out) | apply IsS146.far (hne := NB0_330.out) | exact HI0.out), by repeat (first | (with_reducible first | exact HB.out | apply zg | apply zh | apply zi | refine zs ?_ (IsS146.ge HI0.out) | refine zs ?_ GE315.out | refine zs ?_ GE330.out) | exact HB.out), by repeat (first | (with_reducible first | exact HK.out | apply KeepBut.set_ | apply keep_drewN | apply keep_drew | apply keep_alloc | refine keep_far ?_ GW315.out _ | refine keep_far ?_ GW330.out _) | exact HK.out)⟩
   ·rw [if_neg c30] at H
    exact absurd H (by simp)
  ·rw [if_neg c28] at H
   have c28b0 : (t331 == 1) = false := beq_eq_false_iff_ne.mpr c28
   have c28b1 : (t331 != 1) = true := bne_iff_ne.mpr c28
   by_cases c54 : t331 = 2
   ·rw [if_pos c54] at H
    have c54b0 : (t331 == 2) = true := beq_iff_eq.mpr c54
    have c54b1 : (t331 != 2) = false := bne_eq_false_iff_eq.mpr c54
    clear c54
    replace H := Option.bind_eq_some_iff.mp H
    obtain ⟨⟨t349, t350, t351⟩, A550, H⟩ := H
    replace H : ((spec_l01Long.f k (wrap64 (240 + t349)) 65).bind fun t352 => (if 0 < (t324.length : Int) then (some ((t324.set (0 : Int).toNat t352), t327, t350, t351)) else (none))) = some (r1, r2, r3, r4) := H
    have A55 := zj A550
    clear A550
    replace H := Option.bind_eq_some_iff.mp H
    obtain ⟨t352, A560, H⟩ := H
    replace H : (if 0 < (t324.length : Int) then (some ((t324.set (0 : Int).toNat t352), t327, t350, t351)) else (none)) = some (r1, r2, r3, r4) := H
    have A56 := zj A560
    clear A560
    by_cases c57 : 0 < (t324.length : Int)
    ·rw [if_pos c57] at H
     have c57b0 : decide (0 < (t324.length : Int)) = true := decide_eq_true c57
     have c57b1 : decide (0 < t324.length) = true := decide_eq_true (by omega)
     clear c57
     obtain ⟨y353, hy353⟩ : ∃ y_ : List ByteArray, y_ = (t324.set (0 : Int).toNat t352) := ⟨_, rfl⟩
     replace H : (some (y353, t327, t350, t351)) = some (r1, r2, r3, r4) := by first | (rw [hy353]; with_reducible exact H) | (have H2_ := (Option.bind_some _ _).symm.trans H; rw [hy353]; with_reducible exact H2_) | (have H2_ := (Option.bind_some _ _).symm.trans H; with_reducible exact H2_) | with_reducible exact H | (rw [hy353]; exact H) | exact H
     have Ny353 := zj hy353
     clear hy353
     simp only [Option.some.injEq, Prod.mk.injEq] at H
     obtain ⟨rfl, rfl, rfl, rfl⟩ := H
     go_enter Try.func99, Try.ntmps99
     try go_wp2_with (first | ((with_reducible refine gate_dst (N := 2) rfl ?_); refine box_event ?hg (N := 2) ?hd (cs := #[.slice none 0 0, .slice none 0 0]) (t := 36) ?hr ?_; (case hd => rfl); (case hg => rfl); (case hr => first | (go_simp; done) | (go_simp; rfl)); intro gb315 hg w59 hbox hb; have n0_ := zj (IsS146.below (by repeat (first | (with_reducible first | exact HI0.out | apply IsS146.alloc | apply IsS146.drewN | apply IsS146.drew | apply IsS146.set_1 | apply IsS146.set_2) | exact HI0.out)) hb); have n1_ := zj (KeepBut.trans (by repeat (first | (with_reducible first | exact HK.out | apply KeepBut.set_ | apply keep_drewN | apply keep_drew | apply keep_alloc) | exact HK.out)) (KeepBut.of_below hb g none) (.inl rfl)); have n2_ := zj (zl (by repeat (first | (with_reducible first | exact HB.out | apply zg | apply zh | apply zi | refine zs ?_ (IsS146.ge HI0.out)) | exact HB.out)) hb); have n3_ := zj (hbox); have n4_ := zj ((by rw [hg]; exact (keep_size (w := w) (g := g) (row := none) (by repeat (first | (with_reducible first | exact HK.out | apply KeepBut.set_ | apply keep_drewN | apply keep_drew | apply keep_alloc) | exact HK.out))) : w.heap.size ≤ gb315)); have n5_ := zj ((Nat.le_trans HW0.out (by rw [hg]; exact (keep_size (w := w) (g := g) (row := none) (by repeat (first | (with_reducible first | exact HK.out | apply KeepBut.set_ | apply keep_drewN | apply keep_drew | apply keep_alloc) | exact HK.out))) : w.heap.size ≤ gb315) : w0.heap.size ≤ gb315)); have n6_ := zj ((by rw [hg]; exact Nat.ne_of_lt (IsS146.lt (show IsS146 w0 _ g s0_0 s0_1 s0_2 from by repeat (first | (with_reducible first | exact HI0.out | apply IsS146.alloc | apply IsS146.drewN | apply IsS146.drew | apply IsS146.set_1 | apply IsS146.set_2) | exact HI0.out))) : g ≠ gb315)); have n7_ := zj ((by rw [hg]; exact Nat.ne_of_gt (IsS146.lt (show IsS146 w0 _ g s0_0 s0_1 s0_2 from by repeat (first | (with_reducible first | exact HI0.out | apply IsS146.alloc | apply IsS146.drewN | apply IsS146.drew | apply IsS146.set_1 | apply IsS146.set_2) | exact HI0.out))) : gb315 ≠ g)); clear HI0; clear HK; clear HB; have HI0 := n0_; have HK := n1_; have HB := n2_; have BK315 := n3_; have GW315 := n4_; have GE315 := n5_; have NB0_315 := n6_; have NB315_0 := n7_; clear n0_ n1_ n2_ n3_ n4_ n5_ n6_ n7_; clear hb hbox hg) | ((with_reducible refine gate_callee (f := 71) rfl ?_); refine goesL_ (some 5) rfl rfl Try.func71 (by kernel_rfl) rfl #[.pointer (some ⟨g, 0, none⟩)] rfl (by (try simp only [List.map_toArray, List.map_cons, List.map_nil]); first | done | rfl | (simp only [List.length_drop, List.length_take]; rfl)) ?_; (with_reducible refine (spec_l03Disk.calls k g s0_0 s0_1 s0_2 t316 t319 t322 t323 w0 _ ?side1 ?side2 A2.out).mono ?_); (case side1 => repeat (first | (with_reducible first | exact HI0.out | apply IsS146.alloc | apply IsS146.drewN | apply IsS146.drew | apply IsS146.set_1 | apply IsS146.set_2 | apply IsS146.far (hne := NB0_315.out)) | apply IsS146.far (hne := NB0_315.out) | exact HI0.out)); (case side2 => repeat (first | (with_reducible first | exact HB.out | apply zg | apply zh | apply zi | refine zs ?_ (IsS146.ge HI0.out) | refine zs ?_ GE315.out) | exact HB.out)); rintro e w60 ⟨v317, v320, rfl, ho0, ho1, hi, hb, hk⟩; refine ⟨_, rfl, ?_⟩; have n0_ := zj (KeepBut.blk hk (g' := gb315) (o := .cells #[.slice none 0 0, .slice none 0 0] 36 (0, 0)) (by (with_reducible repeat (first | refine za ?_ _ | refine zb ?_ | refine zc ?_ _)); exact BK315.out) NB315_0.out (by simp)); have n1_ := zj (Kd.R_lower ho0 (keep_size (w := w) (g := g) (row := none) (by repeat (first | (with_reducible first | exact HK.out | apply KeepBut.set_ | apply keep_drewN | apply keep_drew | apply keep_alloc | refine keep_far ?_ GW315.out _) | exact HK.out)))); have n2_ := zj (Kd.R_lower ho1 (keep_size (w := w) (g := g) (row := none) (by repeat (first | (with_reducible first | exact HK.out | apply KeepBut.set_ | apply keep_drewN | apply keep_drew | apply keep_alloc | refine keep_far ?_ GW315.out _) | exact HK.out)))); have n3_ := zj (KeepBut.trans (by repeat (first | (with_reducible first | exact HK.out | apply KeepBut.set_ | apply keep_drewN | apply keep_drew | apply keep_alloc | refine keep_far ?_ GW315.out _) | exact HK.out)) hk (.inl rfl)); have n4_ := zj (hb); have n5_ := zj (hi); clear BK315; clear HK; clear HB; clear HI0; have BK315 := n0_; have HO318 := n1_; have HO321 := n2_; have HK := n3_; have HB := n4_; have HI0 := n5_; clear n0_ n1_ n2_ n3_ n4_ n5_; (try clear hb); (try clear hb2); (try clear hk); (try clear hi); (try clear ho0); (try clear ho1); obtain ⟨Ao61, co61, eo61⟩ := Kd.R_slice HO318.out; subst eo61; obtain ⟨Ao62, co62, eo62⟩ := Kd.R_slice HO321.out; subst eo62) | ((with_reducible refine gate_callee (f := 102) rfl ?_); refine goesL_ (some 6) rfl rfl Try.func102 (by kernel_rfl) rfl #[.agg #[.slice Ao61 t316.length co61, .slice Ao62 t319.length co62]] rfl (by (try simp only [List.map_toArray, List.map_cons, List.map_nil]); first | done | rfl | (simp only [List.length_drop, List.length_take]; rfl)) ?_; (with_reducible refine (spec_l03Copy.calls _ _ t316 _ _ t319 t324 t327 _ ?side1 ?side2 ?side3 ?side4 A3.out).mono ?_); (case side1 => repeat (first | exact (Kd.R_reads' HO318.out).2.2 | (with_reducible refine Kd.C_alloc ?_ _) | (with_reducible refine Kd.C_drewN ?_ _) | (with_reducible refine Kd.C_drew ?_))); (case side2 => exact (Kd.R_reads' HO318.out).2.1); (case side3 => repeat (first | exact (Kd.R_reads' HO321.out).2.2 | (with_reducible refine Kd.C_alloc ?_ _) | (with_reducible refine Kd.C_drewN ?_ _) | (with_reducible refine Kd.C_drew ?_))); (case side4 => exact (Kd.R_reads' HO321.out).2.1); rintro e w63 ⟨v325, v328, rfl, ho0, ho1, hb⟩; refine ⟨_, rfl, ?_⟩; have n0_ := zj (Kd.R_elder' (by (with_reducible repeat (first | apply zd | apply ze | apply zf)); exact HO318.out) (Kd.R_base ho0) hb); have n1_ := zj (Kd.R_elder' (by (with_reducible repeat (first | apply zd | apply ze | apply zf)); exact HO321.out) (Kd.R_base ho1) hb); have n2_ := zj (Kd.R_lower (Kd.R_new' ho0 (Kd.R_lt (by (with_reducible repeat (first | apply zd | apply ze | apply zf)); exact HO318.out))) (keep_size (w := w) (g := g) (row := none) (by repeat (first | (with_reducible first | exact HK.out | apply KeepBut.set_ | apply keep_drewN | apply keep_drew | apply keep_alloc | refine keep_far ?_ GW315.out _) | exact HK.out)))); have n3_ := zj (Kd.R_lower (Kd.R_new' ho1 (Kd.R_lt (by (with_reducible repeat (first | apply zd | apply ze | apply zf)); exact HO321.out))) (keep_size (w := w) (g := g) (row := none) (by repeat (first | (with_reducible first | exact HK.out | apply KeepBut.set_ | apply keep_drewN | apply keep_drew | apply keep_alloc | refine keep_far ?_ GW315.out _) | exact HK.out)))); have n4_ := zj (IsS146.below (by repeat (first | (with_reducible first | exact HI0.out | apply IsS146.alloc | apply IsS146.drewN | apply IsS146.drew | apply IsS146.set_1 | apply IsS146.set_2 | apply IsS146.far (hne := NB0_315.out)) | apply IsS146.far (hne := NB0_315.out) | exact HI0.out)) hb); have n5_ := zj (zo (g := gb315) (o := .cells #[.slice none 0 0, .slice none 0 0] 36 (0, 0)) (by (with_reducible repeat (first | refine za ?_ _ | refine zb ?_ | refine zc ?_ _)); exact BK315.out) hb); have n6_ := zj (KeepBut.trans (by repeat (first | (with_reducible first | exact HK.out | apply KeepBut.set_ | apply keep_drewN | apply keep_drew | apply keep_alloc | refine keep_far ?_ GW315.out _) | exact HK.out)) (KeepBut.of_below hb g none) (.inl rfl)); have n7_ := zj (zl (by repeat (first | (with_reducible first | exact HB.out | apply zg | apply zh | apply zi | refine zs ?_ (IsS146.ge HI0.out) | refine zs ?_ GE315.out) | exact HB.out)) hb); clear HO318; clear HO321; clear HI0; clear BK315; clear HK; clear HB; have HO318 := n0_; have HO321 := n1_; have HO326 := n2_; have HO329 := n3_; have HI0 := n4_; have BK315 := n5_; have HK := n6_; have HB := n7_; clear n0_ n1_ n2_ n3_ n4_ n5_ n6_ n7_; (try clear hb); (try clear hb2); (try clear hk); (try clear hi); (try clear ho0); (try clear ho1)) | ((with_reducible refine gate_dst (N := 3) rfl ?_); refine box_event ?hg (N := 3) ?hd (cs := #[.slice none 0 0, .slice none 0 0]) (t := 36) ?hr ?_; (case hd => rfl); (case hg => rfl); (case hr => first | (go_simp; done) | (go_simp; rfl)); intro gb330 hg w64 hbox hb; have n0_ := zj (zt (by (with_reducible repeat (first | apply zd | apply ze | apply zf)); exact HO318.out) hb); have n1_ := zj (zt (by (with_reducible repeat (first | apply zd | apply ze | apply zf)); exact HO321.out) hb); have n2_ := zj (zt (by (with_reducible repeat (first | apply zd | apply ze | apply zf)); exact HO326.out) hb); have n3_ := zj (zt (by (with_reducible repeat (first | apply zd | apply ze | apply zf)); exact HO329.out) hb); have n4_ := zj (IsS146.below (by repeat (first | (with_reducible first | exact HI0.out | apply IsS146.alloc | apply IsS146.drewN | apply IsS146.drew | apply IsS146.set_1 | apply IsS146.set_2 | apply IsS146.far (hne := NB0_315.out)) | apply IsS146.far (hne := NB0_315.out) | exact HI0.out)) hb); have n5_ := zj (zo (g := gb315) (o := .cells #[.slice none 0 0, .slice none 0 0] 36 (0, 0)) (by (with_reducible repeat (first | refine za ?_ _ | refine zb ?_ | refine zc ?_ _)); exact BK315.out) hb); have n6_ := zj (KeepBut.trans (by repeat (first | (with_reducible first | exact HK.out | apply KeepBut.set_ | apply keep_drewN | apply keep_drew | apply keep_alloc | refine keep_far ?_ GW315.out _) | exact HK.out)) (KeepBut.of_below hb g none) (.inl rfl)); have n7_ := zj (zl (by repeat (first | (with_reducible first | exact HB.out | apply zg | apply zh | apply zi | refine zs ?_ (IsS146.ge HI0.out) | refine zs ?_ GE315.out) | exact HB.out)) hb); have n8_ := zj (hbox); have n9_ := zj ((by rw [hg]; exact (keep_size (w := w) (g := g) (row := none) (by repeat (first | (with_reducible first | exact HK.out | apply KeepBut.set_ | apply keep_drewN | apply keep_drew | apply keep_alloc | refine keep_far ?_ GW315.out _) | exact HK.out))) : w.heap.size ≤ gb330)); have n10_ := zj ((Nat.le_trans HW0.out (by rw [hg]; exact (keep_size (w := w) (g := g) (row := none) (by repeat (first | (with_reducible first | exact HK.out | apply KeepBut.set_ | apply keep_drewN | apply keep_drew | apply keep_alloc | refine keep_far ?_ GW315.out _) | exact HK.out))) : w.heap.size ≤ gb330) : w0.heap.size ≤ gb330)); have n11_ := zj ((by rw [hg]; exact Nat.ne_of_lt (blk_lt (g := gb315) (o := .cells #[.slice none 0 0, .slice none 0 0] 36 (0, 0)) (by (with_reducible repeat (first | refine za ?_ _ | refine zb ?_ | refine zc ?_ _)); exact BK315.out)) : gb315 ≠ gb330)); have n12_ := zj ((by rw [hg]; exact Nat.ne_of_gt (blk_lt (g := gb315) (o := .cells #[.slice none 0 0, .slice none 0 0] 36 (0, 0)) (by (with_reducible repeat (first | refine za ?_ _ | refine zb ?_ | refine zc ?_ _)); exact BK315.out)) : gb330 ≠ gb315)); have n13_ := zj ((by rw [hg]; exact Nat.ne_of_lt (IsS146.lt (show IsS146 w0 _ g s0_0 t322 t323 from by repeat (first | (with_reducible first | exact HI0.out | apply IsS146.alloc | apply IsS146.drewN | apply IsS146.drew | apply IsS146.set_1 | apply IsS146.set_2 | apply IsS146.far (hne := NB0_315.out)) | apply IsS146.far (hne := NB0_315.out) | exact HI0.out))) : g ≠ gb330)); have n14_ := zj ((by rw [hg]; exact Nat.ne_of_gt (IsS146.lt (show IsS146 w0 _ g s0_0 t322 t323 from by repeat (first | (with_reducible first | exact HI0.out | apply IsS146.alloc | apply IsS146.drewN | apply IsS146.drew | apply IsS146.set_1 | apply IsS146.set_2 | apply IsS146.far (hne := NB0_315.out)) | apply IsS146.far (hne := NB0_315.out) | exact HI0.out))) : gb330 ≠ g)); clear HO318; clear HO321; clear HO326; clear HO329; clear HI0; clear BK315; clear HK; clear HB; have HO318 := n0_; have HO321 := n1_; have HO326 := n2_; have HO329 := n3_; have HI0 := n4_; have BK315 := n5_; have HK := n6_; have HB := n7_; have BK330 := n8_; have GW330 := n9_; have GE330 := n10_; have NB315_330 := n11_; have NB330_315 := n12_; have NB0_330 := n13_; have NB330_0 := n14_; clear n0_ n1_ n2_ n3_ n4_ n5_ n6_ n7_ n8_ n9_ n10_ n11_ n12_ n13_ n14_; clear hb hbox hg; obtain ⟨Ao65, co65, eo65⟩ := Kd.R_slice HO326.out; subst eo65; have hnb66 := NB330_315.out; have hnc66 := NB315_330.out; have hnb67 := NB330_0.out; have hnc67 := NB0_330.out; have hcz68_0 : w64.cell? ⟨gb330, 0, none⟩ = some (.slice none 0 0) := (zq BK330.out 0).trans rfl; have hcz68_1 : w64.cell? ⟨gb330, 1, none⟩ = some (.slice none 0 0) := (zq BK330.out 1).trans rfl; have hfz68_0 := zv BK330.out 0; have hfz68_1 := zv BK330.out 1; obtain ⟨Ao69, co69, eo69⟩ := Kd.R_slice HO329.out; subst eo69) | ((with_reducible refine gate_callee (f := 74) rfl ?_); refine goesL_ (some 8) rfl rfl Try.func74 (by kernel_rfl) rfl #[.pointer (some ⟨g, 0, none⟩), .int .i64 12] rfl (by (try simp only [List.map_toArray, List.map_cons, List.map_nil]); first | done | rfl | (simp only [List.length_drop, List.length_take]; rfl)) ?_; (with_reducible refine (spec_l01Below.calls g s0_0 t322 t323 12 t331 t332 t333 w0 _ ?side1 ?side2 A4.out).mono ?_); (case side1 => repeat (first | (with_reducible first | exact HI0.out | apply IsS146.alloc | apply IsS146.drewN | apply IsS146.drew | apply IsS146.set_1 | apply IsS146.set_2 | apply IsS146.far (hne := NB0_315.out) | apply IsS146.far (hne := NB0_330.out)) | apply IsS146.far (hne := NB0_315.out) | apply IsS146.far (hne := NB0_330.out) | exact HI0.out)); (case side2 => repeat (first | (with_reducible first | exact HB.out | apply zg | apply zh | apply zi | refine zs ?_ (IsS146.ge HI0.out) | refine zs ?_ GE315.out | refine zs ?_ GE330.out) | exact HB.out)); rintro e w70 ⟨rfl, hi, hb, hk⟩; refine ⟨_, rfl, ?_⟩; have n0_ := zj (KeepBut.blk hk (g' := gb315) (o := .cells #[.slice none 0 0, .slice none 0 0] 36 (0, 0)) (by (with_reducible repeat (first | refine za ?_ _ | refine zb ?_ | refine zc ?_ _)); refine zr ?_ NB315_330.out _; (with_reducible repeat (first | refine za ?_ _ | refine zb ?_ | refine zc ?_ _)); refine zr ?_ NB315_330.out _; (with_reducible repeat (first | refine za ?_ _ | refine zb ?_ | refine zc ?_ _)); exact BK315.out) NB315_0.out (by simp)); have n1_ := zj (zm (Kd.R_keep (IsS146.apart (show IsS146 w0 _ g s0_0 t322 t323 from by repeat (first | (with_reducible first | exact HI0.out | apply IsS146.alloc | apply IsS146.drewN | apply IsS146.drew | apply IsS146.set_1 | apply IsS146.set_2 | apply IsS146.far (hne := NB0_315.out) | apply IsS146.far (hne := NB0_330.out)) | apply IsS146.far (hne := NB0_315.out) | apply IsS146.far (hne := NB0_330.out) | exact HI0.out)) (by (with_reducible repeat (first | apply zd | apply ze | apply zf)); exact (zm (zn (p := ⟨gb330, 1, none⟩) (zn (p := ⟨gb330, 0, none⟩) (zu HO318.out BK330.out (by decide)) (fun _ hk => hk.2) (.slice Ao65 t324.length co65)) (fun _ hk => hk.2) (.slice Ao69 t327.length co69)) (fun _ h_ => h_.1))) (by decide)) hk (fun _ h => h.2)) (fun _ h => h.1)); have n2_ := zj (zm (Kd.R_keep (IsS146.apart (show IsS146 w0 _ g s0_0 t322 t323 from by repeat (first | (with_reducible first | exact HI0.out | apply IsS146.alloc | apply IsS146.drewN | apply IsS146.drew | apply IsS146.set_1 | apply IsS146.set_2 | apply IsS146.far (hne := NB0_315.out) | apply IsS146.far (hne := NB0_330.out)) | apply IsS146.far (hne := NB0_315.out) | apply IsS146.far (hne := NB0_330.out) | exact HI0.out)) (by (with_reducible repeat (first | apply zd | apply ze | apply zf)); exact (zm (zn (p := ⟨gb330, 1, none⟩) (zn (p := ⟨gb330, 0, none⟩) (zu HO321.out BK330.out (by decide)) (fun _ hk => hk.2) (.slice Ao65 t324.length co65)) (fun _ hk => hk.2) (.slice Ao69 t327.length co69)) (fun _ h_ => h_.1))) (by decide)) hk (fun _ h => h.2)) (fun _ h => h.1)); have n3_ := zj (zm (Kd.R_keep (IsS146.apart (show IsS146 w0 _ g s0_0 t322 t323 from by repeat (first | (with_reducible first | exact HI0.out | apply IsS146.alloc | apply IsS146.drewN | apply IsS146.drew | apply IsS146.set_1 | apply IsS146.set_2 | apply IsS146.far (hne := NB0_315.out) | apply IsS146.far (hne := NB0_330.out)) | apply IsS146.far (hne := NB0_315.out) | apply IsS146.far (hne := NB0_330.out) | exact HI0.out)) (by (with_reducible repeat (first | apply zd | apply ze | apply zf)); exact (zm (zn (p := ⟨gb330, 1, none⟩) (zn (p := ⟨gb330, 0, none⟩) (zu HO326.out BK330.out (by decide)) (fun _ hk => hk.2) (.slice Ao65 t324.length co65)) (fun _ hk => hk.2) (.slice Ao69 t327.length co69)) (fun _ h_ => h_.1))) (by decide)) hk (fun _ h => h.2)) (fun _ h => h.1)); have n4_ := zj (zm (Kd.R_keep (IsS146.apart (show IsS146 w0 _ g s0_0 t322 t323 from by repeat (first | (with_reducible first | exact HI0.out | apply IsS146.alloc | apply IsS146.drewN | apply IsS146.drew | apply IsS146.set_1 | apply IsS146.set_2 | apply IsS146.far (hne := NB0_315.out) | apply IsS146.far (hne := NB0_330.out)) | apply IsS146.far (hne := NB0_315.out) | apply IsS146.far (hne := NB0_330.out) | exact HI0.out)) (by (with_reducible repeat (first | apply zd | apply ze | apply zf)); exact (zm (zn (p := ⟨gb330, 1, none⟩) (zn (p := ⟨gb330, 0, none⟩) (zu HO329.out BK330.out (by decide)) (fun _ hk => hk.2) (.slice Ao65 t324.length co65)) (fun _ hk => hk.2) (.slice Ao69 t327.length co69)) (fun _ h_ => h_.1))) (by decide)) hk (fun _ h => h.2)) (fun _ h => h.1)); have n5_ := zj (KeepBut.blk hk (g' := gb330) (o := .cells #[.slice Ao65 t324.length co65, .slice Ao69 t327.length co69] 36 (0, 0)) (by (with_reducible repeat (first | refine za ?_ _ | refine zb ?_ | refine zc ?_ _)); refine zp (cs := #[.slice Ao65 t324.length co65, .slice none 0 0]) ?_ 1 _ rfl; (with_reducible repeat (first | refine za ?_ _ | refine zb ?_ | refine zc ?_ _)); refine zp (cs := #[.slice none 0 0, .slice none 0 0]) ?_ 0 _ rfl; (with_reducible repeat (first | refine za ?_ _ | refine zb ?_ | refine zc ?_ _)); exact BK330.out) NB330_0.out (by simp)); have n6_ := zj (KeepBut.trans (by repeat (first | (with_reducible first | exact HK.out | apply KeepBut.set_ | apply keep_drewN | apply keep_drew | apply keep_alloc | refine keep_far ?_ GW315.out _ | refine keep_far ?_ GW330.out _) | exact HK.out)) hk (.inl rfl)); have n7_ := zj (hb); have n8_ := zj (hi); clear BK315; clear HO318; clear HO321; clear HO326; clear HO329; clear BK330; clear HK; clear HB; clear HI0; have BK315 := n0_; have HO318 := n1_; have HO321 := n2_; have HO326 := n3_; have HO329 := n4_; have BK330 := n5_; have HK := n6_; have HB := n7_; have HI0 := n8_; clear n0_ n1_ n2_ n3_ n4_ n5_ n6_ n7_ n8_; (try clear hb); (try clear hb2); (try clear hk); (try clear hi)))
     have n0_ := zj (zf HO318.out)
     have n1_ := zj (zf HO321.out)
     have n2_ := zj (zf HO326.out)
     have n3_ := zj (zf HO329.out)
     have n4_ := zj (zb BK315.out)
     have n5_ := zj (zb BK330.out)
     have n6_ := zj (IsS146.drew HI0.out)
     have n7_ := zj (keep_drew HK.out)
     have n8_ := zj (zi HB.out)
     clear HO318
     clear HO321
     clear HO326
     clear HO329
     clear BK315
     clear BK330
     clear HI0
     clear HK
     clear HB
     have HO318 := n0_
     have HO321 := n1_
     have HO326 := n2_
     have HO329 := n3_
     have BK315 := n4_
     have BK330 := n5_
     have HI0 := n6_
     have HK := n7_
     have HB := n8_
     clear n0_ n1_ n2_ n3_ n4_ n5_ n6_ n7_ n8_
     refine start_ (n := 8) (S := fun w' => w'.cell? ⟨gb330, 0, none⟩ = some (.slice Ao65 t324.length co65) ∧ w'.cell? ⟨gb330, 1, none⟩ = some (.slice Ao69 t327.length co69)) (ds := [7]) #[false, false, false, false, false, false, false, false] (by kernel_rfl) rfl rfl ⟨(zq BK330.out 0).trans rfl, (zq BK330.out 1).trans rfl⟩ (fun hHeld => ?_); refine with_tabW spec_l03Any.tab8 spec_l03Any.bits8 (fun HT_ HW_ => ?_)
     generalize w70.drew = w71 at HO318 HO321 HO326 HO329 BK315 BK330 HI0 HK HB hHeld ⊢
     refine pure_ (i := 0) (N := some 30) (v := ?_) (a' := ?_) #[true, false, false, false, false, false, false, false] rfl rfl (any_of HT_.out (by kernel_rfl)) (fun _ _ _ h => h) (Or.inl ⟨by rfl, ?_⟩) ?_ ?_
     rotate_left
     ·intro w'
      go_simp
      with_reducible rfl
     rotate_left
     ·simp only [Act.put, List.setIfInBounds_toArray, List.set_cons_zero, List.set_cons_succ, i64_w, i32_w]
      rfl
     refine pure_ (i := 2) (N := some 32) (v := ?_) (a' := ?_) #[true, false, true, false, false, false, false, false] rfl rfl (any_of HT_.out (by kernel_rfl)) (fun _ _ _ h => h) (Or.inl ⟨by rfl, ?_⟩) ?_ ?_
     rotate_left
     ·intro w'
      go_simp
      with_reducible rfl
     rotate_left
     ·simp only [Act.put, List.setIfInBounds_toArray, List.set_cons_zero, List.set_cons_succ, i64_w, i32_w]
      rfl
     refine take_ (i := 1) (N := some 31) (v := ?_) (a' := ?_) #[true, true, true, false, false, false, false, false] rfl rfl (take_ofW HT_.out HW_.out (by kernel_rfl)) (fun _ _ _ h => h) (Or.inl ⟨by rfl, ?_⟩) hHeld ?_ ?_
     rotate_left
     ·rintro w' ⟨s0, s1⟩
      go_simp
      with_reducible rfl
     rotate_left
     ·simp only [Act.put, List.setIfInBounds_toArray, List.set_cons_zero, List.set_cons_succ, i64_w, i32_w]
      rfl
     refine one_ (i := 3) (N := some 33) #[true, true, true, true, false, false, false, false] rfl rfl (one_of HT_.out (by kernel_rfl)) (by decide) (fun K hK => ?_)
     refine goes_ Try.func74 (by kernel_rfl) rfl #[.pointer (some ⟨g, 0, none⟩), .int .i64 2] (by rfl) rfl rfl (by (try simp only [List.map_toArray, List.map_cons, List.map_nil]); first | done | rfl | (simp only [List.length_drop, List.length_take]; rfl)) ?_
     with_reducible refine (spec_l01Below.calls g s0_0 t332 t333 2 t349 t350 t351 w0 _ ?side1 ?side2 A55.out).mono ?_
     (case side1 => repeat (first | (with_reducible first | exact HI0.out | apply IsS146.alloc | apply IsS146.drewN | apply IsS146.drew | apply IsS146.set_1 | apply IsS146.set_2 | apply IsS146.far (hne := NB0_315.out) | apply IsS146.far (hne := NB0_330.out)) | apply IsS146.far (hne := NB0_315.out) | apply IsS146.far (hne := NB0_330.out) | exact HI0.out))
     (case side2 => repeat (first | (with_reducible first | exact HB.out | apply zg | apply zh | apply zi | refine zs ?_ (IsS146.ge HI0.out) | refine zs ?_ GE315.out | refine zs ?_ GE330.out) | exact HB.out))
     rintro e w72 ⟨rfl, hi, hb, hk⟩
     refine ⟨_, rfl, ?_⟩
     have n0_ := zj (KeepBut.blk hk (g' := gb315) (o := .cells #[.slice none 0 0, .slice none 0 0] 36 (0, 0)) (by (with_reducible repeat (first | refine za ?_ _ | refine zb ?_ | refine zc ?_ _)); exact BK315.out) NB315_0.out (by simp))
     have n1_ := zj (zm (Kd.R_keep (IsS146.apart (show IsS146 w0 _ g s0_0 t332 t333 from by repeat (first | (with_reducible first | exact HI0.out | apply IsS146.alloc | apply IsS146.drewN | apply IsS146.drew | apply IsS146.set_1 | apply IsS146.set_2 | apply IsS146.far (hne := NB0_315.out) | apply IsS146.far (hne := NB0_330.out)) | apply IsS146.far (hne := NB0_315.out) | apply IsS146.far (hne := NB0_330.out) | exact HI0.out)) (by (with_reducible repeat (first | apply zd | apply ze | apply zf)); exact HO318.out) (by decide)) hk (fun _ h => h.2)) (fun _ h => h.1))
     have n2_ := zj (zm (Kd.R_keep (IsS146.apart (show IsS146 w0 _ g s0_0 t332 t333 from by repeat (first | (with_reducible first | exact HI0.out | apply IsS146.alloc | apply IsS146.drewN | apply IsS146.drew | apply IsS146.set_1 | apply IsS146.set_2 | apply IsS146.far (hne := NB0_315.out) | apply IsS146.far (hne := NB0_330.out)) | apply IsS146.far (hne := NB0_315.out) | apply IsS146.far (hne := NB0_330.out) | exact HI0.out)) (by (with_reducible repeat (first | apply zd | apply ze | apply zf)); exact HO321.out) (by decide)) hk (fun _ h => h.2)) (fun _ h => h.1))
     have n3_ := zj (zm (Kd.R_keep (IsS146.apart (show IsS146 w0 _ g s0_0 t332 t333 from by repeat (first | (with_reducible first | exact HI0.out | apply IsS146.alloc | apply IsS146.drewN | apply IsS146.drew | apply IsS146.set_1 | apply IsS146.set_2 | apply IsS146.far (hne := NB0_315.out) | apply IsS146.far (hne := NB0_330.out)) | apply IsS146.far (hne := NB0_315.out) | apply IsS146.far (hne := NB0_330.out) | exact HI0.out)) (by (with_reducible repeat (first | apply zd | apply ze | apply zf)); exact HO326.out) (by decide)) hk (fun _ h => h.2)) (fun _ h => h.1))
     have n4_ := zj (zm (Kd.R_keep (IsS146.apart (show IsS146 w0 _ g s0_0 t332 t333 from by repeat (first | (with_reducible first | exact HI0.out | apply IsS146.alloc | apply IsS146.drewN | apply IsS146.drew | apply IsS146.set_1 | apply IsS146.set_2 | apply IsS146.far (hne := NB0_315.out) | apply IsS146.far (hne := NB0_330.out)) | apply IsS146.far (hne := NB0_315.out) | apply IsS146.far (hne := NB0_330.out) | exact HI0.out)) (by (with_reducible repeat (first | apply zd | apply ze | apply zf)); exact HO329.out) (by decide)) hk (fun _ h => h.2)) (fun _ h => h.1))
     have n5_ := zj (KeepBut.blk hk (g' := gb330) (o := .cells #[.slice Ao65 t324.length co65, .slice Ao69 t327.length co69] 36 (0, 0)) (by (with_reducible repeat (first | refine za ?_ _ | refine zb ?_ | refine zc ?_ _)); exact BK330.out) NB330_0.out (by simp))
     have n6_ := zj (KeepBut.trans (by repeat (first | (with_reducible first | exact HK.out | apply KeepBut.set_ | apply keep_drewN | apply keep_drew | apply keep_alloc | refine keep_far ?_ GW315.out _ | refine keep_far ?_ GW330.out _) | exact HK.out)) hk (.inl rfl))
     have n7_ := zj (hb)
     have n8_ := zj (hi)
     clear BK315
     clear HO318
     clear HO321
     clear HO326
     clear HO329
     clear BK330
     clear HK
     clear HB
     clear HI0
     have BK315 := n0_
     have HO318 := n1_
     have HO321 := n2_
     have HO326 := n3_
     have HO329 := n4_
     have BK330 := n5_
     have HK := n6_
     have HB := n7_
     have HI0 := n8_
     clear n0_ n1_ n2_ n3_ n4_ n5_ n6_ n7_ n8_
     (try clear hb)
     (try clear hb2)
     (try clear hk)
     (try clear hi)
     refine hK.out _ _ ⟨(zq BK330.out 0).trans rfl, (zq BK330.out 1).trans rfl⟩ (fun hHeld => ?_)
     clear hK K
     refine norm_ (a' := ?_) ?_ ?_
     rotate_left
     ·show Act.put _ (some 33) _ = _
      simp only [Act.put, List.setIfInBounds_toArray, List.set_cons_zero, List.set_cons_succ, i64_w, i32_w]
      rfl
     refine pure_ (i := 4) (N := some 34) (v := ?_) (a' := ?_) #[true, true, true, true, true, false, false, false] rfl rfl (any_of HT_.out (by kernel_rfl)) (fun _ _ _ h => h) (Or.inl ⟨by rfl, ?_⟩) ?_ ?_
     rotate_left
     ·intro w'
      go_simp
      with_reducible rfl
     rotate_left
     ·simp only [Act.put, List.setIfInBounds_toArray, List.set_cons_zero, List.set_cons_succ, i64_w, i32_w]
      rfl
     refine one_ (i := 5) (N := some 35) #[true, true, true, true, true, true, false, false] rfl rfl (one_of HT_.out (by kernel_rfl)) (by decide) (fun K hK => ?_)
     refine goes_ Try.func136 (by kernel_rfl) rfl #[.int .i64 (wrap64 (240 + t349)), .int .u8 65] (by rfl) rfl rfl (by (try simp only [List.map_toArray, List.map_cons, List.map_nil]); first | done | rfl | (simp only [List.length_drop, List.length_take]; rfl)) ?_
     with_reducible refine (spec_l01Long.calls k (wrap64 (240 + t349)) 65 t352 _ A56.out).mono ?_
     rintro e w73 ⟨rfl, hb⟩
     refine ⟨_, rfl, ?_⟩
     have n0_ := zj (zt (by (with_reducible repeat (first | apply zd | apply ze | apply zf)); exact HO318.out) hb)
     have n1_ := zj (zt (by (with_reducible repeat (first | apply zd | apply ze | apply zf)); exact HO321.out) hb)
     have n2_ := zj (zt (by (with_reducible repeat (first | apply zd | apply ze | apply zf)); exact HO326.out) hb)
     have n3_ := zj (zt (by (with_reducible repeat (first | apply zd | apply ze | apply zf)); exact HO329.out) hb)
     have n4_ := zj (IsS146.below (by repeat (first | (with_reducible first | exact HI0.out | apply IsS146.alloc | apply IsS146.drewN | apply IsS146.drew | apply IsS146.set_1 | apply IsS146.set_2 | apply IsS146.far (hne := NB0_315.out) | apply IsS146.far (hne := NB0_330.out)) | apply IsS146.far (hne := NB0_315.out) | apply IsS146.far (hne := NB0_330.out) | exact HI0.out)) hb)
     have n5_ := zj (zo (g := gb315) (o := .cells #[.slice none 0 0, .slice none 0 0] 36 (0, 0)) (by (with_reducible repeat (first | refine za ?_ _ | refine zb ?_ | refine zc ?_ _)); exact BK315.out) hb)
     have n6_ := zj (zo (g := gb330) (o := .cells #[.slice Ao65 t324.length co65, .slice Ao69 t327.length co69] 36 (0, 0)) (by (with_reducible repeat (first | refine za ?_ _ | refine zb ?_ | refine zc ?_ _)); exact BK330.out) hb)
     have n7_ := zj (KeepBut.trans (by repeat (first | (with_reducible first | exact HK.out | apply KeepBut.set_ | apply keep_drewN | apply keep_drew | apply keep_alloc | refine keep_far ?_ GW315.out _ | refine keep_far ?_ GW330.out _) | exact HK.out)) (KeepBut.of_below hb g none) (.inl rfl))
     have n8_ := zj (zl (by repeat (first | (with_reducible first | exact HB.out | apply zg | apply zh | apply zi | refine zs ?_ (IsS146.ge HI0.out) | refine zs ?_ GE315.out | refine zs ?_ GE330.out) | exact HB.out)) hb)
     clear HO318
     clear HO321
     clear HO326
     clear HO329
     clear HI0
     clear BK315
     clear BK330
     clear HK
     clear HB
     have HO318 := n0_
     have HO321 := n1_
     have HO326 := n2_
     have HO329 := n3_
     have HI0 := n4_
     have BK315 := n5_
     have BK330 := n6_
     have HK := n7_
     have HB := n8_
     clear n0_ n1_ n2_ n3_ n4_ n5_ n6_ n7_ n8_
     (try clear hb)
     (try clear hb2)
     (try clear hk)
     (try clear hi)
     have p58 : 0 ≤ (0 : Int) := (by omega)
     have q58 : (0 : Int) < ((t324.length : Int) : Int) := of_decide_eq_true (by first | (with_reducible assumption) | assumption)
     have qi58 : (0 < t324.length) = True := eq_true (by omega)
     obtain ⟨go58, co58, eo58, gb58, gl58, cl58, HG58⟩ := Kd.R_form HO326.out (by omega)
     (first | cases eo58 | (injection eo58 with ea_ en_ ec_; (first | subst ea_ | (injection ea_ with ea_; subst ea_)); subst ec_; clear en_))
     have GB58 := zj gb58
     have GG58 := zj HG58
     clear gb58 gl58 HG58
     obtain ⟨hx58_0, hf58_0⟩ := Kd.R_celln (⟨#[]⟩ : ByteArray) HO326.out (0 : Int) p58 q58
     (try rw [show ((0 : Int)).toNat = 0 from rfl] at hx58_0)
     (try simp only [Nat.reduceMul, Nat.zero_mul, Nat.zero_add, Nat.reduceAdd] at hx58_0)
     (try rw [show ((0 : Int)).toNat = 0 from rfl] at hf58_0)
     (try simp only [Nat.reduceMul, Nat.zero_mul, Nat.zero_add, Nat.reduceAdd] at hf58_0)
     replace p58 := eq_true p58
     replace q58 := eq_true q58
     have HN0_go58 := zj (show g ≠ go58 from by have h_ := IsS146.own_ne HI0.out HO326.out (by decide); intro e_; exact h_ (by rw [e_]; rfl))
     have HP74 := Kd.R_putn HO326.out (0 : Int) t352
     rw [← Ny353.out] at HP74
     have HQ74 := zj HP74
     clear HP74
     refine hK.out _ _ ⟨(zq BK330.out 0).trans rfl, (zq BK330.out 1).trans rfl⟩ (fun hHeld => ?_)
     clear hK K
     refine norm_ (a' := ?_) ?_ ?_
     rotate_left
     ·show Act.put _ (some 35) _ = _
      simp only [Act.put, List.setIfInBounds_toArray, List.set_cons_zero, List.set_cons_succ, i64_w, i32_w]
      rfl
     refine pure_ (i := 6) (N := some 36) (v := ?_) (a' := ?_) #[true, true, true, true, true, true, true, false] rfl rfl (any_of HT_.out (by kernel_rfl)) (fun _ _ _ h => h) (Or.inl ⟨by rfl, ?_⟩) ?_ ?_
     rotate_left
     ·intro w'
      go_simp
      with_reducible rfl
     rotate_left
     ·simp only [Act.put, List.setIfInBounds_toArray, List.set_cons_zero, List.set_cons_succ, i64_w, i32_w]
      rfl
     refine last_ (i := 7) (N := none) #[true, true, true, true, true, true, true, true] rfl rfl (one_of HT_.out (by kernel_rfl)) (by decide) (fun K hK => ?_)
     refine skip_ (w1 := ?_) (by rfl) rfl ?_ ?_
     rotate_left
     ·go_simp
      rfl
     refine hK.out _ _ ?_
     clear hK K
     refine done_ (done_of HT_.out (by kernel_rfl)) ?_
     have n0_ : Aside0 (Kd.R Kd.string 9 (w73.setCell ⟨go58, 0, none⟩ (.string t352)) w.heap.size (fun k_ => some k_ ≠ (.slice (some ⟨go58, 0, none⟩) t324.length co65 : Value).ownBlock) (.slice Ao61 t316.length co61) t316) := ⟨by (with_reducible repeat (first | apply zd | apply ze | apply zf)); exact zm (zn (p := ⟨go58, 0, none⟩) (zm HO318.out (fun k_ hk => (⟨hk, fun e_ => hk.2 (by rw [e_]; rfl)⟩ : _ ∧ k_ ≠ go58))) (fun _ hk => hk.2) (.string t352)) (fun _ hk => hk.1.2)⟩
     have n1_ : Aside0 (Kd.R k74 74 (w73.setCell ⟨go58, 0, none⟩ (.string t352)) w.heap.size (fun k_ => some k_ ≠ (.slice Ao69 t327.length co69 : Value).ownBlock) (.slice Ao62 t319.length co62) t319) := ⟨by (with_reducible repeat (first | apply zd | apply ze | apply zf)); exact zm (zn (p := ⟨go58, 0, none⟩) (zu HO321.out GG58.out (by decide)) (fun _ hk => hk.2) (.string t352)) (fun _ hk => hk.1.2)⟩
     have n2_ : Aside0 (Kd.R Kd.string 9 (w73.setCell ⟨go58, 0, none⟩ (.string t352)) w.heap.size (fun k_ => some k_ ≠ (.slice Ao61 t316.length co61 : Value).ownBlock) (.slice (some ⟨go58, 0, none⟩) t324.length co65) y353) := ⟨by (with_reducible repeat (first | apply zd | apply ze | apply zf)); exact zm HQ74.out (fun _ hk => hk.2)⟩
     have n3_ : Aside0 (Kd.R k74 74 (w73.setCell ⟨go58, 0, none⟩ (.string t352)) w.heap.size (fun k_ => some k_ ≠ (.slice Ao62 t319.length co62 : Value).ownBlock) (.slice Ao69 t327.length co69) t327) := ⟨by (with_reducible repeat (first | apply zd | apply ze | apply zf)); exact zm (zn (p := ⟨go58, 0, none⟩) (zu HO329.out GG58.out (by decide)) (fun _ hk => hk.2) (.string t352)) (fun _ hk => hk.1.2)⟩
     have n4_ : Aside0 ((w73.setCell ⟨go58, 0, none⟩ (.string t352)).heap[gb315]? = some (.cells #[.slice none 0 0, .slice none 0 0] 36 (0, 0))) := ⟨by (with_reducible repeat (first | refine za ?_ _ | refine zb ?_ | refine zc ?_ _)); refine zr ?_ (by have h_ := Kd.R_ne HO326.out BK315.out (by decide); intro e_; exact h_ (by rw [e_]; rfl)) _; (with_reducible repeat (first | refine za ?_ _ | refine zb ?_ | refine zc ?_ _)); exact BK315.out⟩
     have n5_ : Aside0 ((w73.setCell ⟨go58, 0, none⟩ (.string t352)).heap[gb330]? = some (.cells #[.slice (some ⟨go58, 0, none⟩) t324.length co65, .slice Ao69 t327.length co69] 36 (0, 0))) := ⟨by (with_reducible repeat (first | refine za ?_ _ | refine zb ?_ | refine zc ?_ _)); refine zr ?_ (by have h_ := Kd.R_ne HO326.out BK330.out (by decide); intro e_; exact h_ (by rw [e_]; rfl)) _; (with_reducible repeat (first | refine za ?_ _ | refine zb ?_ | refine zc ?_ _)); exact BK330.out⟩
     have n6_ : Aside0 (IsS146 w0 (w73.setCell ⟨go58, 0, none⟩ (.string t352)) g s0_0 t350 t351) := ⟨by repeat (first | (with_reducible first | exact HI0.out | apply IsS146.alloc | apply IsS146.drewN | apply IsS146.drew | apply IsS146.set_1 | apply IsS146.set_2 | refine IsS146.far ?_ HN0_go58.out _ | apply IsS146.far (hne := NB0_315.out) | apply IsS146.far (hne := NB0_330.out)) | apply IsS146.far (hne := NB0_315.out) | apply IsS146.far (hne := NB0_330.out) | exact HI0.out)⟩
     have n7_ : Aside0 (KeepBut w (w73.setCell ⟨go58, 0, none⟩ (.string t352)) g none) := ⟨by repeat (first | (with_reducible first | exact HK.out | apply KeepBut.set_ | apply keep_drewN | apply keep_drew | apply keep_alloc | refine keep_far ?_ GB58.out _ | refine keep_far ?_ GW315.out _ | refine keep_far ?_ GW330.out _) | exact HK.out)⟩
     have n8_ : Aside0 (Below w0.heap.size w0 (w73.setCell ⟨go58, 0, none⟩ (.string t352))) := ⟨by repeat (first | (with_reducible first | exact HB.out | apply zg | apply zh | apply zi | refine zs ?_ (Nat.le_trans HL.out GB58.out) | refine zs ?_ (IsS146.ge HI0.out) | refine zs ?_ GE315.out | refine zs ?_ GE330.out) | exact HB.out)⟩
     (try clear HO318)
     (try clear HO321)
     (try clear HO326)
     (try clear HO329)
     (try clear BK315)
     (try clear BK330)
     (try clear HI0)
     (try clear HK)
     (try clear HB)
     generalize (w73.setCell ⟨go58, 0, none⟩ (.string t352)) = w75 at n0_ n1_ n2_ n3_ n4_ n5_ n6_ n7_ n8_ ⊢
     have HO318 := n0_
     have HO321 := n1_
     have HO326 := n2_
     have HO329 := n3_
     have BK315 := n4_
     have BK330 := n5_
     have HI0 := n6_
     have HK := n7_
     have HB := n8_
     clear n0_ n1_ n2_ n3_ n4_ n5_ n6_ n7_ n8_
     have hcz76_0 : w75.cell? ⟨gb330, 0, none⟩ = some (.slice (some ⟨go58, 0, none⟩) t324.length co65) := (zq BK330.out 0).trans rfl
     have hcz76_1 : w75.cell? ⟨gb330, 1, none⟩ = some (.slice Ao69 t327.length co69) := (zq BK330.out 1).trans rfl
     have hfz76_0 := zv BK330.out 0
     have hfz76_1 := zv BK330.out 1
     have hnb77 := NB315_0.out
     have hnc77 := NB0_315.out
     have hcz78_0 : w75.cell? ⟨gb315, 0, none⟩ = some (.slice none 0 0) := (zq BK315.out 0).trans rfl
     have hcz78_1 : w75.cell? ⟨gb315, 1, none⟩ = some (.slice none 0 0) := (zq BK315.out 1).trans rfl
     have hfz78_0 := zv BK315.out 0
     have hfz78_1 := zv BK315.out 1
     try go_wp2
     refine bodyPost_ret (results_cell_row rfl _ _ gb315 36 #[.slice (some ⟨go58, 0, none⟩) t324.length co65, .slice Ao69 t327.length co69] (0, 0) _ rfl (by (with_reducible repeat (first | refine za ?_ _ | refine zb ?_ | refine zc ?_ _)); refine zp (cs := #[.slice (some ⟨go58, 0, none⟩) t324.length co65, .slice none 0 0]) ?_ 1 _ rfl; (with_reducible repeat (first | refine za ?_ _ | refine zb ?_ | refine zc ?_ _)); refine zp (cs := #[.slice none 0 0, .slice none 0 0]) ?_ 0 _ rfl; (with_reducible repeat (first | refine za ?_ _ | refine zb ?_ | refine zc ?_ _)); exact BK315.out) Try.underlying36 rfl (by kernel_rfl)) rfl ?_
     exact ⟨_, _, by first | rfl | (simp [errW_none, errW_some] <;> rfl) | (simp [*, errW_none, errW_some] <;> rfl), by (with_reducible repeat (first | apply zd | apply ze | apply zf)); exact zm (zn (p := ⟨gb315, 1, none⟩) (zn (p := ⟨gb315, 0, none⟩) (zu HO326.out BK315.out (by decide)) (fun _ hk => hk.2) (.slice (some ⟨go58, 0, none⟩) t324.length co65)) (fun _ hk => hk.2) (.slice Ao69 t327.length co69)) (fun _ hk => trivial), by (with_reducible repeat (first | apply zd | apply ze | apply zf)); exact zm (zn (p := ⟨gb315, 1, none⟩) (zn (p := ⟨gb315, 0, none⟩) (zu HO329.out BK315.out (by decide)) (fun _ hk => hk.2) (.slice (some ⟨go58, 0, none⟩) t324.length co65)) (fun _ hk => hk.2) (.slice Ao69 t327.length co69)) (fun _ hk => trivial), by repeat (first | (with_reducible first | exact HI0.out | apply IsS146.alloc | apply IsS146.drewN | apply IsS146.drew | apply IsS146.set_1 | apply IsS146.set_2 | apply IsS146.far (hne := NB0_315.out) | apply IsS146.far (hne := NB0_330.out)) | apply IsS146.far (hne := NB0_315.out) | apply IsS146.far (hne := NB0_330.out) | exact HI0.out), by repeat (first | (with_reducible first | exact HB.out | apply zg | apply zh | apply zi | refine zs ?_ (IsS146.ge HI0.out) | refine zs ?_ GE315.out | refine zs ?_ GE330.out) | exact HB.out), by repeat (first | (with_reducible first | exact HK.out | apply KeepBut.set_ | apply keep_drewN | apply keep_drew | apply keep_alloc | refine keep_far ?_ GW315.out _ | refine keep_far ?_ GW330.out _) | exact HK.out)⟩
    ·rw [if_neg c57] at H
     exact absurd H (by simp)
   ·rw [if_neg c54] at H
    have c54b0 : (t331 == 2) = false := beq_eq_false_iff_ne.mpr c54
    have c54b1 : (t331 != 2) = true := bne_iff_ne.mpr c54
    simp only [Option.some.injEq, Prod.mk.injEq] at H
    obtain ⟨rfl, rfl, rfl, rfl⟩ := H
    go_enter Try.func99, Try.ntmps99
    go_wp2_with (first | ((with_reducible refine gate_dst (N := 2) rfl ?_); refine box_event ?hg (N := 2) ?hd (cs := #[.slice none 0 0, .slice none 0 0]) (t := 36) ?hr ?_; (case hd => rfl); (case hg => rfl); (case hr => first | (go_simp; done) | (go_simp; rfl)); intro gb315 hg w79 hbox hb; have n0_ := zj (IsS146.below (by repeat (first | (with_reducible first | exact HI0.out | apply IsS146.alloc | apply IsS146.drewN | apply IsS146.drew | apply IsS146.set_1 | apply IsS146.set_2) | exact HI0.out)) hb); have n1_ := zj (KeepBut.trans (by repeat (first | (with_reducible first | exact HK.out | apply KeepBut.set_ | apply keep_drewN | apply keep_drew | apply keep_alloc) | exact HK.out)) (KeepBut.of_below hb g none) (.inl rfl)); have n2_ := zj (zl (by repeat (first | (with_reducible first | exact HB.out | apply zg | apply zh | apply zi | refine zs ?_ (IsS146.ge HI0.out)) | exact HB.out)) hb); have n3_ := zj (hbox); have n4_ := zj ((by rw [hg]; exact (keep_size (w := w) (g := g) (row := none) (by repeat (first | (with_reducible first | exact HK.out | apply KeepBut.set_ | apply keep_drewN | apply keep_drew | apply keep_alloc) | exact HK.out))) : w.heap.size ≤ gb315)); have n5_ := zj ((Nat.le_trans HW0.out (by rw [hg]; exact (keep_size (w := w) (g := g) (row := none) (by repeat (first | (with_reducible first | exact HK.out | apply KeepBut.set_ | apply keep_drewN | apply keep_drew | apply keep_alloc) | exact HK.out))) : w.heap.size ≤ gb315) : w0.heap.size ≤ gb315)); have n6_ := zj ((by rw [hg]; exact Nat.ne_of_lt (IsS146.lt (show IsS146 w0 _ g s0_0 s0_1 s0_2 from by repeat (first | (with_reducible first | exact HI0.out | apply IsS146.alloc | apply IsS146.drewN | apply IsS146.drew | apply IsS146.set_1 | apply IsS146.set_2) | exact HI0.out))) : g ≠ gb315)); have n7_ := zj ((by rw [hg]; exact Nat.ne_of_gt (IsS146.lt (show IsS146 w0 _ g s0_0 s0_1 s0_2 from by repeat (first | (with_reducible first | exact HI0.out | apply IsS146.alloc | apply IsS146.drewN | apply IsS146.drew | apply IsS146.set_1 | apply IsS146.set_2) | exact HI0.out))) : gb315 ≠ g)); clear HI0; clear HK; clear HB; have HI0 := n0_; have HK := n1_; have HB := n2_; have BK315 := n3_; have GW315 := n4_; have GE315 := n5_; have NB0_315 := n6_; have NB315_0 := n7_; clear n0_ n1_ n2_ n3_ n4_ n5_ n6_ n7_; clear hb hbox hg) | ((with_reducible refine gate_callee (f := 71) rfl ?_); refine goesL_ (some 5) rfl rfl Try.func71 (by kernel_rfl) rfl #[.pointer (some ⟨g, 0, none⟩)] rfl (by (try simp only [List.map_toArray, List.map_cons, List.map_nil]); first | done | rfl | (simp only [List.length_drop, List.length_take]; rfl)) ?_; (with_reducible refine (spec_l03Disk.calls k g s0_0 s0_1 s0_2 t316 t319 t322 t323 w0 _ ?side1 ?side2 A2.out).mono ?_); (case side1 => repeat (first | (with_reducible first | exact HI0.out | apply IsS146.alloc | apply IsS146.drewN | apply IsS146.drew | apply IsS146.set_1 | apply IsS146.set_2 | apply IsS146.far (hne := NB0_315.out)) | apply IsS146.far (hne := NB0_315.out) | exact HI0.out)); (case side2 => repeat (first | (with_reducible first | exact HB.out | apply zg | apply zh | apply zi | refine zs ?_ (IsS146.ge HI0.out) | refine zs ?_ GE315.out) | exact HB.out)); rintro e w80 ⟨v317, v320, rfl, ho0, ho1, hi, hb, hk⟩; refine ⟨_, rfl, ?_⟩; have n0_ := zj (KeepBut.blk hk (g' := gb315) (o := .cells #[.slice none 0 0, .slice none 0 0] 36 (0, 0)) (by (with_reducible repeat (first | refine za ?_ _ | refine zb ?_ | refine zc ?_ _)); exact BK315.out) NB315_0.out (by simp)); have n1_ := zj (Kd.R_lower ho0 (keep_size (w := w) (g := g) (row := none) (by repeat (first | (with_reducible first | exact HK.out | apply KeepBut.set_ | apply keep_drewN | apply keep_drew | apply keep_alloc | refine keep_far ?_ GW315.out _) | exact HK.out)))); have n2_ := zj (Kd.R_lower ho1 (keep_size (w := w) (g := g) (row := none) (by repeat (first | (with_reducible first | exact HK.out | apply KeepBut.set_ | apply keep_drewN | apply keep_drew | apply keep_alloc | refine keep_far ?_ GW315.out _) | exact HK.out)))); have n3_ := zj (KeepBut.trans (by repeat (first | (with_reducible first | exact HK.out | apply KeepBut.set_ | apply keep_drewN | apply keep_drew | apply keep_alloc | refine keep_far ?_ GW315.out _) | exact HK.out)) hk (.inl rfl)); have n4_ := zj (hb); have n5_ := zj (hi); clear BK315; clear HK; clear HB; clear HI0; have BK315 := n0_; have HO318 := n1_; have HO321 := n2_; have HK := n3_; have HB := n4_; have HI0 := n5_; clear n0_ n1_ n2_ n3_ n4_ n5_; (try clear hb); (try clear hb2); (try clear hk); (try clear hi); (try clear ho0); (try clear ho1); obtain ⟨Ao81, co81, eo81⟩ := Kd.R_slice HO318.out; subst eo81; obtain ⟨Ao82, co82, eo82⟩ := Kd.R_slice HO321.out; subst eo82) | ((with_reducible refine gate_callee (f := 102) rfl ?_); refine goesL_ (some 6) rfl rfl Try.func102 (by kernel_rfl) rfl #[.agg #[.slice Ao81 t316.length co81, .slice Ao82 t319.length co82]] rfl (by (try simp only [List.map_toArray, List.map_cons, List.map_nil]); first | done | rfl | (simp only [List.length_drop, List.length_take]; rfl)) ?_; (with_reducible refine (spec_l03Copy.calls _ _ t316 _ _ t319 t324 t327 _ ?side1 ?side2 ?side3 ?side4 A3.out).mono ?_); (case side1 => repeat (first | exact (Kd.R_reads' HO318.out).2.2 | (with_reducible refine Kd.C_alloc ?_ _) | (with_reducible refine Kd.C_drewN ?_ _) | (with_reducible refine Kd.C_drew ?_))); (case side2 => exact (Kd.R_reads' HO318.out).2.1); (case side3 => repeat (first | exact (Kd.R_reads' HO321.out).2.2 | (with_reducible refine Kd.C_alloc ?_ _) | (with_reducible refine Kd.C_drewN ?_ _) | (with_reducible refine Kd.C_drew ?_))); (case side4 => exact (Kd.R_reads' HO321.out).2.1); rintro e w83 ⟨v325, v328, rfl, ho0, ho1, hb⟩; refine ⟨_, rfl, ?_⟩; have n0_ := zj (Kd.R_elder' (by (with_reducible repeat (first | apply zd | apply ze | apply zf)); exact HO318.out) (Kd.R_base ho0) hb); have n1_ := zj (Kd.R_elder' (by (with_reducible repeat (first | apply zd | apply ze | apply zf)); exact HO321.out) (Kd.R_base ho1) hb); have n2_ := zj (Kd.R_lower (Kd.R_new' ho0 (Kd.R_lt (by (with_reducible repeat (first | apply zd | apply ze | apply zf)); exact HO318.out))) (keep_size (w := w) (g := g) (row := none) (by repeat (first | (with_reducible first | exact HK.out | apply KeepBut.set_ | apply keep_drewN | apply keep_drew | apply keep_alloc | refine keep_far ?_ GW315.out _) | exact HK.out)))); have n3_ := zj (Kd.R_lower (Kd.R_new' ho1 (Kd.R_lt (by (with_reducible repeat (first | apply zd | apply ze | apply zf)); exact HO321.out))) (keep_size (w := w) (g := g) (row := none) (by repeat (first | (with_reducible first | exact HK.out | apply KeepBut.set_ | apply keep_drewN | apply keep_drew | apply keep_alloc | refine keep_far ?_ GW315.out _) | exact HK.out)))); have n4_ := zj (IsS146.below (by repeat (first | (with_reducible first | exact HI0.out | apply IsS146.alloc | apply IsS146.drewN | apply IsS146.drew | apply IsS146.set_1 | apply IsS146.set_2 | apply IsS146.far (hne := NB0_315.out)) | apply IsS146.far (hne := NB0_315.out) | exact HI0.out)) hb); have n5_ := zj (zo (g := gb315) (o := .cells #[.slice none 0 0, .slice none 0 0] 36 (0, 0)) (by (with_reducible repeat (first | refine za ?_ _ | refine zb ?_ | refine zc ?_ _)); exact BK315.out) hb); have n6_ := zj (KeepBut.trans (by repeat (first | (with_reducible first | exact HK.out | apply KeepBut.set_ | apply keep_drewN | apply keep_drew | apply keep_alloc | refine keep_far ?_ GW315.out _) | exact HK.out)) (KeepBut.of_below hb g none) (.inl rfl)); have n7_ := zj (zl (by repeat (first | (with_reducible first | exact HB.out | apply zg | apply zh | apply zi | refine zs ?_ (IsS146.ge HI0.out) | refine zs ?_ GE315.out) | exact HB.out)) hb); clear HO318; clear HO321; clear HI0; clear BK315; clear HK; clear HB; have HO318 := n0_; have HO321 := n1_; have HO326 := n2_; have HO329 := n3_; have HI0 := n4_; have BK315 := n5_; have HK := n6_; have HB := n7_; clear n0_ n1_ n2_ n3_ n4_ n5_ n6_ n7_; (try clear hb); (try clear hb2); (try clear hk); (try clear hi); (try clear ho0); (try clear ho1)) | ((with_reducible refine gate_dst (N := 3) rfl ?_); refine box_event ?hg (N := 3) ?hd (cs := #[.slice none 0 0, .slice none 0 0]) (t := 36) ?hr ?_; (case hd => rfl); (case hg => rfl); (case hr => first | (go_simp; done) | (go_simp; rfl)); intro gb330 hg w84 hbox hb; have n0_ := zj (zt (by (with_reducible repeat (first | apply zd | apply ze | apply zf)); exact HO318.out) hb); have n1_ := zj (zt (by (with_reducible repeat (first | apply zd | apply ze | apply zf)); exact HO321.out) hb); have n2_ := zj (zt (by (with_reducible repeat (first | apply zd | apply ze | apply zf)); exact HO326.out) hb); have n3_ := zj (zt (by (with_reducible repeat (first | apply zd | apply ze | apply zf)); exact HO329.out) hb); have n4_ := zj (IsS146.below (by repeat (first | (with_reducible first | exact HI0.out | apply IsS146.alloc | apply IsS146.drewN | apply IsS146.drew | apply IsS146.set_1 | apply IsS146.set_2 | apply IsS146.far (hne := NB0_315.out)) | apply IsS146.far (hne := NB0_315.out) | exact HI0.out)) hb); have n5_ := zj (zo (g := gb315) (o := .cells #[.slice none 0 0, .slice none 0 0] 36 (0, 0)) (by (with_reducible repeat (first | refine za ?_ _ | refine zb ?_ | refine zc ?_ _)); exact BK315.out) hb); have n6_ := zj (KeepBut.trans (by repeat (first | (with_reducible first | exact HK.out | apply KeepBut.set_ | apply keep_drewN | apply keep_drew | apply keep_alloc | refine keep_far ?_ GW315.out _) | exact HK.out)) (KeepBut.of_below hb g none) (.inl rfl)); have n7_ := zj (zl (by repeat (first | (with_reducible first | exact HB.out | apply zg | apply zh | apply zi | refine zs ?_ (IsS146.ge HI0.out) | refine zs ?_ GE315.out) | exact HB.out)) hb); have n8_ := zj (hbox); have n9_ := zj ((by rw [hg]; exact (keep_size (w := w) (g := g) (row := none) (by repeat (first | (with_reducible first | exact HK.out | apply KeepBut.set_ | apply keep_drewN | apply keep_drew | apply keep_alloc | refine keep_far ?_ GW315.out _) | exact HK.out))) : w.heap.size ≤ gb330)); have n10_ := zj ((Nat.le_trans HW0.out (by rw [hg]; exact (keep_size (w := w) (g := g) (row := none) (by repeat (first | (with_reducible first | exact HK.out | apply KeepBut.set_ | apply keep_drewN | apply keep_drew | apply keep_alloc | refine keep_far ?_ GW315.out _) | exact HK.out))) : w.heap.size ≤ gb330) : w0.heap.size ≤ gb330)); have n11_ := zj ((by rw [hg]; exact Nat.ne_of_lt (blk_lt (g := gb315) (o := .cells #[.slice none 0 0, .slice none 0 0] 36 (0, 0)) (by (with_reducible repeat (first | refine za ?_ _ | refine zb ?_ | refine zc ?_ _)); exact BK315.out)) : gb315 ≠ gb330)); have n12_ := zj ((by rw [hg]; exact Nat.ne_of_gt (blk_lt (g := gb315) (o := .cells #[.slice none 0 0, .slice none 0 0] 36 (0, 0)) (by (with_reducible repeat (first | refine za ?_ _ | refine zb ?_ | refine zc ?_ _)); exact BK315.out)) : gb330 ≠ gb315)); have n13_ := zj ((by rw [hg]; exact Nat.ne_of_lt (IsS146.lt (show IsS146 w0 _ g s0_0 t322 t323 from by repeat (first | (with_reducible first | exact HI0.out | apply IsS146.alloc | apply IsS146.drewN | apply IsS146.drew | apply IsS146.set_1 | apply IsS146.set_2 | apply IsS146.far (hne := NB0_315.out)) | apply IsS146.far (hne := NB0_315.out) | exact HI0.out))) : g ≠ gb330)); have n14_ := zj ((by rw [hg]; exact Nat.ne_of_gt (IsS146.lt (show IsS146 w0 _ g s0_0 t322 t323 from by repeat (first | (with_reducible first | exact HI0.out | apply IsS146.alloc | apply IsS146.drewN | apply IsS146.drew | apply IsS146.set_1 | apply IsS146.set_2 | apply IsS146.far (hne := NB0_315.out)) | apply IsS146.far (hne := NB0_315.out) | exact HI0.out))) : gb330 ≠ g)); clear HO318; clear HO321; clear HO326; clear HO329; clear HI0; clear BK315; clear HK; clear HB; have HO318 := n0_; have HO321 := n1_; have HO326 := n2_; have HO329 := n3_; have HI0 := n4_; have BK315 := n5_; have HK := n6_; have HB := n7_; have BK330 := n8_; have GW330 := n9_; have GE330 := n10_; have NB315_330 := n11_; have NB330_315 := n12_; have NB0_330 := n13_; have NB330_0 := n14_; clear n0_ n1_ n2_ n3_ n4_ n5_ n6_ n7_ n8_ n9_ n10_ n11_ n12_ n13_ n14_; clear hb hbox hg; obtain ⟨Ao85, co85, eo85⟩ := Kd.R_slice HO326.out; subst eo85; have hnb86 := NB330_315.out; have hnc86 := NB315_330.out; have hnb87 := NB330_0.out; have hnc87 := NB0_330.out; have hcz88_0 : w84.cell? ⟨gb330, 0, none⟩ = some (.slice none 0 0) := (zq BK330.out 0).trans rfl; have hcz88_1 : w84.cell? ⟨gb330, 1, none⟩ = some (.slice none 0 0) := (zq BK330.out 1).trans rfl; have hfz88_0 := zv BK330.out 0; have hfz88_1 := zv BK330.out 1; obtain ⟨Ao89, co89, eo89⟩ := Kd.R_slice HO329.out; subst eo89) | ((with_reducible refine gate_callee (f := 74) rfl ?_); refine goesL_ (some 8) rfl rfl Try.func74 (by kernel_rfl) rfl #[.pointer (some ⟨g, 0, none⟩), .int .i64 12] rfl (by (try simp only [List.map_toArray, List.map_cons, List.map_nil]); first | done | rfl | (simp only [List.length_drop, List.length_take]; rfl)) ?_; (with_reducible refine (spec_l01Below.calls g s0_0 t322 t323 12 t331 t332 t333 w0 _ ?side1 ?side2 A4.out).mono ?_); (case side1 => repeat (first | (with_reducible first | exact HI0.out | apply IsS146.alloc | apply IsS146.drewN | apply IsS146.drew | apply IsS146.set_1 | apply IsS146.set_2 | apply IsS146.far (hne := NB0_315.out) | apply IsS146.far (hne := NB0_330.out)) | apply IsS146.far (hne := NB0_315.out) | apply IsS146.far (hne := NB0_330.out) | exact HI0.out)); (case side2 => repeat (first | (with_reducible first | exact HB.out | apply zg | apply zh | apply zi | refine zs ?_ (IsS146.ge HI0.out) | refine zs ?_ GE315.out | refine zs ?_ GE330.out) | exact HB.out)); rintro e w90 ⟨rfl, hi, hb, hk⟩; refine ⟨_, rfl, ?_⟩; have n0_ := zj (KeepBut.blk hk (g' := gb315) (o := .cells #[.slice none 0 0, .slice none 0 0] 36 (0, 0)) (by (with_reducible repeat (first | refine za ?_ _ | refine zb ?_ | refine zc ?_ _)); refine zr ?_ NB315_330.out _; (with_reducible repeat (first | refine za ?_ _ | refine zb ?_ | refine zc ?_ _)); refine zr ?_ NB315_330.out _; (with_reducible repeat (first | refine za ?_ _ | refine zb ?_ | refine zc ?_ _)); exact BK315.out) NB315_0.out (by simp)); have n1_ := zj (zm (Kd.R_keep (IsS146.apart (show IsS146 w0 _ g s0_0 t322 t323 from by repeat (first | (with_reducible first | exact HI0.out | apply IsS146.alloc | apply IsS146.drewN | apply IsS146.drew | apply IsS146.set_1 | apply IsS146.set_2 | apply IsS146.far (hne := NB0_315.out) | apply IsS146.far (hne := NB0_330.out)) | apply IsS146.far (hne := NB0_315.out) | apply IsS146.far (hne := NB0_330.out) | exact HI0.out)) (by (with_reducible repeat (first | apply zd | apply ze | apply zf)); exact (zm (zn (p := ⟨gb330, 1, none⟩) (zn (p := ⟨gb330, 0, none⟩) (zu HO318.out BK330.out (by decide)) (fun _ hk => hk.2) (.slice Ao85 t324.length co85)) (fun _ hk => hk.2) (.slice Ao89 t327.length co89)) (fun _ h_ => h_.1))) (by decide)) hk (fun _ h => h.2)) (fun _ h => h.1)); have n2_ := zj (zm (Kd.R_keep (IsS146.apart (show IsS146 w0 _ g s0_0 t322 t323 from by repeat (first | (with_reducible first | exact HI0.out | apply IsS146.alloc | apply IsS146.drewN | apply IsS146.drew | apply IsS146.set_1 | apply IsS146.set_2 | apply IsS146.far (hne := NB0_315.out) | apply IsS146.far (hne := NB0_330.out)) | apply IsS146.far (hne := NB0_315.out) | apply IsS146.far (hne := NB0_330.out) | exact HI0.out)) (by (with_reducible repeat (first | apply zd | apply ze | apply zf)); exact (zm (zn (p := ⟨gb330, 1, none⟩) (zn (p := ⟨gb330, 0, none⟩) (zu HO321.out BK330.out (by decide)) (fun _ hk => hk.2) (.slice Ao85 t324.length co85)) (fun _ hk => hk.2) (.slice Ao89 t327.length co89)) (fun _ h_ => h_.1))) (by decide)) hk (fun _ h => h.2)) (fun _ h => h.1)); have n3_ := zj (zm (Kd.R_keep (IsS146.apart (show IsS146 w0 _ g s0_0 t322 t323 from by repeat (first | (with_reducible first | exact HI0.out | apply IsS146.alloc | apply IsS146.drewN | apply IsS146.drew | apply IsS146.set_1 | apply IsS146.set_2 | apply IsS146.far (hne := NB0_315.out) | apply IsS146.far (hne := NB0_330.out)) | apply IsS146.far (hne := NB0_315.out) | apply IsS146.far (hne := NB0_330.out) | exact HI0.out)) (by (with_reducible repeat (first | apply zd | apply ze | apply zf)); exact (zm (zn (p := ⟨gb330, 1, none⟩) (zn (p := ⟨gb330, 0, none⟩) (zu HO326.out BK330.out (by decide)) (fun _ hk => hk.2) (.slice Ao85 t324.length co85)) (fun _ hk => hk.2) (.slice Ao89 t327.length co89)) (fun _ h_ => h_.1))) (by decide)) hk (fun _ h => h.2)) (fun _ h => h.1)); have n4_ := zj (zm (Kd.R_keep (IsS146.apart (show IsS146 w0 _ g s0_0 t322 t323 from by repeat (first | (with_reducible first | exact HI0.out | apply IsS146.alloc | apply IsS146.drewN | apply IsS146.drew | apply IsS146.set_1 | apply IsS146.set_2 | apply IsS146.far (hne := NB0_315.out) | apply IsS146.far (hne := NB0_330.out)) | apply IsS146.far (hne := NB0_315.out) | apply IsS146.far (hne := NB0_330.out) | exact HI0.out)) (by (with_reducible repeat (first | apply zd | apply ze | apply zf)); exact (zm (zn (p := ⟨gb330, 1, none⟩) (zn (p := ⟨gb330, 0, none⟩) (zu HO329.out BK330.out (by decide)) (fun _ hk => hk.2) (.slice Ao85 t324.length co85)) (fun _ hk => hk.2) (.slice Ao89 t327.length co89)) (fun _ h_ => h_.1))) (by decide)) hk (fun _ h => h.2)) (fun _ h => h.1)); have n5_ := zj (KeepBut.blk hk (g' := gb330) (o := .cells #[.slice Ao85 t324.length co85, .slice Ao89 t327.length co89] 36 (0, 0)) (by (with_reducible repeat (first | refine za ?_ _ | refine zb ?_ | refine zc ?_ _)); refine zp (cs := #[.slice Ao85 t324.length co85, .slice none 0 0]) ?_ 1 _ rfl; (with_reducible repeat (first | refine za ?_ _ | refine zb ?_ | refine zc ?_ _)); refine zp (cs := #[.slice none 0 0, .slice none 0 0]) ?_ 0 _ rfl; (with_reducible repeat (first | refine za ?_ _ | refine zb ?_ | refine zc ?_ _)); exact BK330.out) NB330_0.out (by simp)); have n6_ := zj (KeepBut.trans (by repeat (first | (with_reducible first | exact HK.out | apply KeepBut.set_ | apply keep_drewN | apply keep_drew | apply keep_alloc | refine keep_far ?_ GW315.out _ | refine keep_far ?_ GW330.out _) | exact HK.out)) hk (.inl rfl)); have n7_ := zj (hb); have n8_ := zj (hi); clear BK315; clear HO318; clear HO321; clear HO326; clear HO329; clear BK330; clear HK; clear HB; clear HI0; have BK315 := n0_; have HO318 := n1_; have HO321 := n2_; have HO326 := n3_; have HO329 := n4_; have BK330 := n5_; have HK := n6_; have HB := n7_; have HI0 := n8_; clear n0_ n1_ n2_ n3_ n4_ n5_ n6_ n7_ n8_; (try clear hb); (try clear hb2); (try clear hk); (try clear hi); have hcz91_0 : w90.cell? ⟨gb330, 0, none⟩ = some (.slice Ao85 t324.length co85) := (zq BK330.out 0).trans rfl; have hcz91_1 : w90.cell? ⟨gb330, 1, none⟩ = some (.slice Ao89 t327.length co89) := (zq BK330.out 1).trans rfl; have hfz91_0 := zv BK330.out 0; have hfz91_1 := zv BK330.out 1; have hnb92 := NB315_0.out; have hnc92 := NB0_315.out; have hcz93_0 : w90.cell? ⟨gb315, 0, none⟩ = some (.slice none 0 0) := (zq BK315.out 0).trans rfl; have hcz93_1 : w90.cell? ⟨gb315, 1, none⟩ = some (.slice none 0 0) := (zq BK315.out 1).trans rfl; have hfz93_0 := zv BK315.out 0; have hfz93_1 := zv BK315.out 1))
    refine bodyPost_ret (results_cell_row rfl _ _ gb315 36 #[.slice Ao85 t324.length co85, .slice Ao89 t327.length co89] (0, 0) _ rfl (by (with_reducible repeat (first | refine za ?_ _ | refine zb ?_ | refine zc ?_ _)); refine zp (cs := #[.slice Ao85 t324.length co85, .slice none 0 0]) ?_ 1 _ rfl; (with_reducible repeat (first | refine za ?_ _ | refine zb ?_ | refine zc ?_ _)); refine zp (cs := #[.slice none 0 0, .slice none 0 0]) ?_ 0 _ rfl; (with_reducible repeat (first | refine za ?_ _ | refine zb ?_ | refine zc ?_ _)); exact BK315.out) Try.underlying36 rfl (by kernel_rfl)) rfl ?_
    exact ⟨_, _, by first | rfl | (simp [errW_none, errW_some] <;> rfl) | (simp [*, errW_none, errW_some] <;> rfl), by (with_reducible repeat (first | apply zd | apply ze | apply zf)); exact zm (zn (p := ⟨gb315, 1, none⟩) (zn (p := ⟨gb315, 0, none⟩) (zu HO326.out BK315.out (by decide)) (fun _ hk => hk.2) (.slice Ao85 t324.length co85)) (fun _ hk => hk.2) (.slice Ao89 t327.length co89)) (fun _ hk => trivial), by (with_reducible repeat (first | apply zd | apply ze | apply zf)); exact zm (zn (p := ⟨gb315, 1, none⟩) (zn (p := ⟨gb315, 0, none⟩) (zu HO329.out BK315.out (by decide)) (fun _ hk => hk.2) (.slice Ao85 t324.length co85)) (fun _ hk => hk.2) (.slice Ao89 t327.length co89)) (fun _ hk => trivial), by repeat (first | (with_reducible first | exact HI0.out | apply IsS146.alloc | apply IsS146.drewN | apply IsS146.drew | apply IsS146.set_1 | apply IsS146.set_2 | apply IsS146.far (hne := NB0_315.out) | apply IsS146.far (hne := NB0_330.out)) | apply IsS146.far (hne := NB0_315.out) | apply IsS146.far (hne := NB0_330.out) | exact HI0.out), by repeat (first | (with_reducible first | exact HB.out | apply zg | apply zh | apply zi | refine zs ?_ (IsS146.ge HI0.out) | refine zs ?_ GE315.out | refine zs ?_ GE330.out) | exact HB.out), by repeat (first | (with_reducible first | exact HK.out | apply KeepBut.set_ | apply keep_drewN | apply keep_drew | apply keep_alloc | refine keep_far ?_ GW315.out _ | refine keep_far ?_ GW330.out _) | exact HK.out)⟩

/-! ### spec_DrawFallDisk: function 48 -/
def spec_DrawFallDisk.f (k : Nat) (l0 : List Int) : Option (List ByteArray × (List (S74)) × List Bool × Int) := (spec_l01New.f k l0).bind fun bt355 => ((spec_l03Left.f k bt355.1 bt355.2.1 bt355.2.2).bind fun bt359 => ((spec_l01PickInt.f bt355.1 bt359.2.1 bt359.2.2 (([(-1), (-1), 0, 1, 2, 5] : List Int))).bind fun bt367 => ((spec_l03Any.f k bt355.1 bt367.2.1 bt367.2.2).bind fun bt370 => (some (bt370.1, bt370.2.1, bt359.1, bt367.1)))))
theorem spec_DrawFallDisk.mono : ∀ a0 k, LeO (spec_DrawFallDisk.f k a0) (spec_DrawFallDisk.f (k + 1) a0) := by
 intro a0 k
 unfold spec_DrawFallDisk.f
 repeat' first
   | (with_reducible exact spec_l01New.mono _ _)
   | (with_reducible exact spec_l03Any.mono _ _ _ _)
   | (with_reducible exact spec_l03Left.mono _ _ _ _)
   | (with_reducible exact LeO.refl _)
   | (with_reducible exact LeO.none _)
   | (with_reducible refine LeO.ite ?_ ?_)
   | (with_reducible refine LeO.bind ?_ (fun _ => ?_))
   | exact spec_l01New.mono _ _
   | exact spec_l03Any.mono _ _ _ _
   | exact spec_l03Left.mono _ _ _ _
   | exact LeO.none _
   | refine LeO.ite ?_ ?_
   | refine LeO.bind ?_ (fun _ => ?_)
set_option maxHeartbeats 8000000 in
set_option maxRecDepth 100000 in
theorem spec_DrawFallDisk.calls (k : Nat) (A0 : Option Addr) (c0 : Nat) (l0 : List Int) (r1 : List ByteArray) (r2 : List (S74)) (r3 : List Bool) (r4 : Int) (w : World) (hr0 : Kd.C (Kd.int .u8) w A0 l0.length l0) (hc0 : l0.length ≤ c0) (h : spec_DrawFallDisk.f k l0 = some (r1, r2, r3, r4)) :
  Calls Try.prog 48 #[.slice A0 l0.length c0] w fun e w' => ∃ v0_ v1_ v2_ : Value, e = .returned (.tuple #[.agg #[v0_, v1_], v2_, .int .i64 r4]) ∧ Kd.R Kd.string 9 w' w.heap.size (fun _ => True) v0_ r1 ∧ Kd.R k74 74 w' w.heap.size (fun _ => True) v1_ r2 ∧ Kd.R Kd.bool 4 w' w.heap.size (fun _ => True) v2_ r3 ∧ Below w.heap.size w w' := by
 have hu36 := Try.underlying36
 have HR0 := zj hr0
 have HC0 := zj hc0
 clear hr0 hc0
 have HB := zj (Below.refl w.heap.size w)
 have H : ((spec_l01New.f k l0).bind fun bt355 => ((spec_l03Left.f k bt355.1 bt355.2.1 bt355.2.2).bind fun bt359 => ((spec_l01PickInt.f bt355.1 bt359.2.1 bt359.2.2 (([(-1), (-1), 0, 1, 2, 5] : List Int))).bind fun bt367 => ((spec_l03Any.f k bt355.1 bt367.2.1 bt367.2.2).bind fun bt370 => (some (bt370.1, bt370.2.1, bt359.1, bt367.1)))))) = some (r1, r2, r3, r4) := h
 clear h
 replace H := Option.bind_eq_some_iff.mp H
 obtain ⟨⟨t355, t356, t357⟩, A20, H⟩ := H
 replace H : ((spec_l03Left.f k t355 t356 t357).bind fun bt359 => ((spec_l01PickInt.f t355 bt359.2.1 bt359.2.2 (([(-1), (-1), 0, 1, 2, 5] : List Int))).bind fun bt367 => ((spec_l03Any.f k t355 bt367.2.1 bt367.2.2).bind fun bt370 => (some (bt370.1, bt370.2.1, bt359.1, bt367.1))))) = some (r1, r2, r3, r4) := H
 have A2 := zj A20
 clear A20
 replace H := Option.bind_eq_some_iff.mp H
 obtain ⟨⟨t359, t362, t363⟩, A30, H⟩ := H
 replace H : ((spec_l01PickInt.f t355 t362 t363 (([(-1), (-1), 0, 1, 2, 5] : List Int))).bind fun bt367 => ((spec_l03Any.f k t355 bt367.2.1 bt367.2.2).bind fun bt370 => (some (bt370.1, bt370.2.1, t359, bt367.1)))) = some (r1, r2, r3, r4) := H
 have A3 := zj A30
 clear A30
 obtain ⟨y364, hy364⟩ : ∃ y_ : List Int, y_ = (([(-1), (-1), 0, 1, 2, 5] : List Int)) := ⟨_, rfl⟩
 replace H : ((spec_l01PickInt.f t355 t362 t363 y364).bind fun bt367 => ((spec_l03Any.f k t355 bt367.2.1 bt367.2.2).bind fun bt370 => (some (bt370.1, bt370.2.1, t359, bt367.1)))) = some (r1, r2, r3, r4) := by first | (rw [hy364]; with_reducible exact H) | (have H2_ := (Option.bind_some _ _).symm.trans H; rw [hy364]; with_reducible exact H2_) | (have H2_ := (Option.bind_some _ _).symm.trans H; with_reducible exact H2_) | with_reducible exact H | (rw [hy364]; exact H) | exact H
 have Ny364 := zj hy364
 clear hy364
 replace H := Option.bind_eq_some_iff.mp H
 obtain ⟨⟨t367, t368, t369⟩, A40, H⟩ := H
 replace H : ((spec_l03Any.f k t355 t368 t369).bind fun bt370 => (some (bt370.1, bt370.2.1, t359, t367))) = some (r1, r2, r3, r4) := H
 have A4 := zj A40
 clear A40
 replace H := Option.bind_eq_some_iff.mp H
 obtain ⟨⟨t370, t373, t376, t377⟩, A50, H⟩ := H
 replace H : (some (t370, t373, t359, t367)) = some (r1, r2, r3, r4) := H
 have A5 := zj A50
 clear A50
 simp only [Option.some.injEq, Prod.mk.injEq] at H
 obtain ⟨rfl, rfl, rfl, rfl⟩ := H
 go_enter Try.func48, Try.ntmps48
 go_wp2_with (first | ((with_reducible refine gate_dst (N := 2) rfl ?_); refine box_event ?hg (N := 2) ?hd (cs := #[.slice none 0 0, .slice none 0 0]) (t := 36) ?hr ?_; (case hd => rfl); (case hg => rfl); (case hr => first | (go_simp; done) | (go_simp; rfl)); intro gb354 hg w6 hbox hb; have n0_ := zj (zl (by repeat (first | (with_reducible first | exact HB.out | apply zg | apply zh | apply zi) | exact HB.out)) hb); have n1_ := zj (hbox); have n2_ := zj ((by rw [hg]; exact (zk (by repeat (first | (with_reducible first | exact HB.out | apply zg | apply zh | apply zi) | exact HB.out))) : w.heap.size ≤ gb354)); have n3_ := zj ((by rw [hg]; exact (zk (by repeat (first | (with_reducible first | exact HB.out | apply zg | apply zh | apply zi) | exact HB.out))) : w.heap.size ≤ gb354)); clear HB; have HB := n0_; have BK354 := n1_; have GW354 := n2_; have GE354 := n3_; clear n0_ n1_ n2_ n3_; clear hb hbox hg) | ((with_reducible refine gate_callee (f := 72) rfl ?_); refine goesL_ (some 9) rfl rfl Try.func72 (by kernel_rfl) rfl #[.slice A0 l0.length c0] rfl (by (try simp only [List.map_toArray, List.map_cons, List.map_nil]); first | done | rfl | (simp only [List.length_drop, List.length_take]; rfl)) ?_; (with_reducible refine (spec_l01New.calls k _ _ l0 t355 t356 t357 w _ ?side1 ?side2 ?side3 A2.out).mono ?_); (case side1 => repeat (first | (with_reducible first | exact HB.out | apply zg | apply zh | apply zi | refine zs ?_ GE354.out) | exact HB.out)); (case side2 => exact HR0.out); (case side3 => exact HC0.out); rintro e w7 ⟨g358, rfl, hi, hb, hb2⟩; refine ⟨_, rfl, ?_⟩; have n0_ := zj (zo (g := gb354) (o := .cells #[.slice none 0 0, .slice none 0 0] 36 (0, 0)) (by (with_reducible repeat (first | refine za ?_ _ | refine zb ?_ | refine zc ?_ _)); exact BK354.out) hb2); have n1_ := zj (hb); have n2_ := zj (hi); have n3_ := zj (IsS146.ne_blk hi (zo (g := gb354) (o := .cells #[.slice none 0 0, .slice none 0 0] 36 (0, 0)) (by (with_reducible repeat (first | refine za ?_ _ | refine zb ?_ | refine zc ?_ _)); exact BK354.out) hb2) (by decide)); have n4_ := zj (Ne.symm (IsS146.ne_blk hi (zo (g := gb354) (o := .cells #[.slice none 0 0, .slice none 0 0] 36 (0, 0)) (by (with_reducible repeat (first | refine za ?_ _ | refine zb ?_ | refine zc ?_ _)); exact BK354.out) hb2) (by decide))); clear BK354; clear HB; have BK354 := n0_; have HB := n1_; have HI358 := n2_; have NB358_354 := n3_; have NB354_358 := n4_; clear n0_ n1_ n2_ n3_ n4_; (try clear hb); (try clear hb2); (try clear hk); (try clear hi)) | ((with_reducible refine gate_callee (f := 100) rfl ?_); refine goesL_ (some 11) rfl rfl Try.func100 (by kernel_rfl) rfl #[.pointer (some ⟨g358, 0, none⟩)] rfl (by (try simp only [List.map_toArray, List.map_cons, List.map_nil]); first | done | rfl | (simp only [List.length_drop, List.length_take]; rfl)) ?_; (with_reducible refine (spec_l03Left.calls k g358 t355 t356 t357 t359 t362 t363 w _ ?side1 ?side2 A3.out).mono ?_); (case side1 => repeat (first | (with_reducible first | exact HI358.out | apply IsS146.alloc | apply IsS146.drewN | apply IsS146.drew | apply IsS146.set_1 | apply IsS146.set_2 | apply IsS146.far (hne := NB358_354.out)) | apply IsS146.far (hne := NB358_354.out) | exact HI358.out)); (case side2 => repeat (first | (with_reducible first | exact HB.out | apply zg | apply zh | apply zi | refine zs ?_ (IsS146.ge HI358.out) | refine zs ?_ GE354.out) | exact HB.out)); rintro e w8 ⟨v360, rfl, ho0, hi, hb, hk⟩; refine ⟨_, rfl, ?_⟩; have n0_ := zj (KeepBut.blk hk (g' := gb354) (o := .cells #[.slice none 0 0, .slice none 0 0] 36 (0, 0)) (by (with_reducible repeat (first | refine za ?_ _ | refine zb ?_ | refine zc ?_ _)); exact BK354.out) NB354_358.out (by simp)); have n1_ := zj (Kd.R_lower ho0 (zk (by repeat (first | (with_reducible first | exact HB.out | apply zg | apply zh | apply zi | refine zs ?_ (IsS146.ge HI358.out) | refine zs ?_ GE354.out) | exact HB.out)))); have n2_ := zj (hb); have n3_ := zj (hi); clear BK354; clear HB; clear HI358; have BK354 := n0_; have HO361 := n1_; have HB := n2_; have HI358 := n3_; clear n0_ n1_ n2_ n3_; (try clear hb); (try clear hb2); (try clear hk); (try clear hi); (try clear ho0)) | ((with_reducible refine gate_dst (N := 13) rfl ?_); refine Kd.R_lit (Kd.int .i64) _ 3 ?hg (N := 13) ?hd (xs := ([(-1), (-1), 0, 1, 2, 5] : List Int)) (inner := [.int .i64 (-1), .int .i64 (-1), .int .i64 0, .int .i64 1, .int .i64 2, .int .i64 5]) (ok := fun _ => True) (okp := fun _ => True) ?hr ?hp (fun _ hk => hk) trivial (Below.refl _ _) (Nat.le_refl _) (by simp) ?_; (case hd => rfl); (case hg => rfl); (case hr => first | (go_simp; done) | (go_simp; rfl)); (case hp => exact (Reps.one (show Kd.M (Kd.int .i64) _ _ _ (-1) [.int .i64 (-1)] from rfl) (Reps.one (show Kd.M (Kd.int .i64) _ _ _ (-1) [.int .i64 (-1)] from rfl) (Reps.one (show Kd.M (Kd.int .i64) _ _ _ 0 [.int .i64 0] from rfl) (Reps.one (show Kd.M (Kd.int .i64) _ _ _ 1 [.int .i64 1] from rfl) (Reps.one (show Kd.M (Kd.int .i64) _ _ _ 2 [.int .i64 2] from rfl) (Reps.one (show Kd.M (Kd.int .i64) _ _ _ 5 [.int .i64 5] from rfl) (Reps.none _ _)))))))); intro v365 w9 ho10 hb hg_ hnew_; clear hg_ hnew_; (first | rw [← Ny364.out] at ho10 | (simp only [Int.reduceToNat] at ho10; rw [← Ny364.out] at ho10)); have n0_ := zj (zt (by (with_reducible repeat (first | apply zd | apply ze | apply zf)); exact HO361.out) hb); have n1_ := zj (Kd.R_lower ho10 (zk (by repeat (first | (with_reducible first | exact HB.out | apply zg | apply zh | apply zi | refine zs ?_ (IsS146.ge HI358.out) | refine zs ?_ GE354.out) | exact HB.out)))); have n2_ := zj (zo (g := gb354) (o := .cells #[.slice none 0 0, .slice none 0 0] 36 (0, 0)) (by (with_reducible repeat (first | refine za ?_ _ | refine zb ?_ | refine zc ?_ _)); exact BK354.out) hb); have n3_ := zj (IsS146.below (by repeat (first | (with_reducible first | exact HI358.out | apply IsS146.alloc | apply IsS146.drewN | apply IsS146.drew | apply IsS146.set_1 | apply IsS146.set_2 | apply IsS146.far (hne := NB358_354.out)) | apply IsS146.far (hne := NB358_354.out) | exact HI358.out)) hb); have n4_ := zj (zl (by repeat (first | (with_reducible first | exact HB.out | apply zg | apply zh | apply zi | refine zs ?_ (IsS146.ge HI358.out) | refine zs ?_ GE354.out) | exact HB.out)) hb); clear HO361; clear BK354; clear HI358; clear HB; have HO361 := n0_; have HO366 := n1_; have BK354 := n2_; have HI358 := n3_; have HB := n4_; clear n0_ n1_ n2_ n3_ n4_; clear hb ho10; obtain ⟨Ao11, co11, eo11⟩ := Kd.R_slice HO366.out; subst eo11) | ((with_reducible refine gate_callee (f := 101) rfl ?_); refine goesL_ (some 14) rfl rfl Try.func101 (by kernel_rfl) rfl #[.pointer (some ⟨g358, 0, none⟩), .slice Ao11 y364.length co11] rfl (by (try simp only [List.map_toArray, List.map_cons, List.map_nil]); first | done | rfl | (simp only [List.length_drop, List.length_take]; rfl)) ?_; (with_reducible refine (spec_l01PickInt.calls g358 t355 t362 t363 _ _ y364 t367 t368 t369 w _ ?side1 ?side2 ?side3 ?side4 ?side5 A4.out).mono ?_); (case side1 => repeat (first | (with_reducible first | exact HI358.out | apply IsS146.alloc | apply IsS146.drewN | apply IsS146.drew | apply IsS146.set_1 | apply IsS146.set_2 | apply IsS146.far (hne := NB358_354.out)) | apply IsS146.far (hne := NB358_354.out) | exact HI358.out)); (case side2 => repeat (first | (with_reducible first | exact HB.out | apply zg | apply zh | apply zi | refine zs ?_ (IsS146.ge HI358.out) | refine zs ?_ GE354.out) | exact HB.out)); (case side3 => repeat (first | exact (Kd.R_reads' HO366.out).2.2 | (with_reducible refine Kd.C_alloc ?_ _) | (with_reducible refine Kd.C_drewN ?_ _) | (with_reducible refine Kd.C_drew ?_))); (case side4 => exact (Kd.R_reads' HO366.out).2.1); (case side5 => exact far_slice (IsS146.own_ne HI358.out HO366.out (by decide))); rintro e w12 ⟨rfl, hi, hb, hk⟩; refine ⟨_, rfl, ?_⟩; have n0_ := zj (KeepBut.blk hk (g' := gb354) (o := .cells #[.slice none 0 0, .slice none 0 0] 36 (0, 0)) (by (with_reducible repeat (first | refine za ?_ _ | refine zb ?_ | refine zc ?_ _)); exact BK354.out) NB354_358.out (by simp)); have n1_ := zj (zm (Kd.R_keep (IsS146.apart (show IsS146 w _ g358 t355 t362 t363 from by repeat (first | (with_reducible first | exact HI358.out | apply IsS146.alloc | apply IsS146.drewN | apply IsS146.drew | apply IsS146.set_1 | apply IsS146.set_2 | apply IsS146.far (hne := NB358_354.out)) | apply IsS146.far (hne := NB358_354.out) | exact HI358.out)) (by (with_reducible repeat (first | apply zd | apply ze | apply zf)); exact HO361.out) (by decide)) hk (fun _ h => h.2)) (fun _ h => h.1)); have n2_ := zj (zm (Kd.R_keep (IsS146.apart (show IsS146 w _ g358 t355 t362 t363 from by repeat (first | (with_reducible first | exact HI358.out | apply IsS146.alloc | apply IsS146.drewN | apply IsS146.drew | apply IsS146.set_1 | apply IsS146.set_2 | apply IsS146.far (hne := NB358_354.out)) | apply IsS146.far (hne := NB358_354.out) | exact HI358.out)) (by (with_reducible repeat (first | apply zd | apply ze | apply zf)); exact HO366.out) (by decide)) hk (fun _ h => h.2)) (fun _ h => h.1)); have n3_ := zj (hb); have n4_ := zj (hi); clear BK354; clear HO361; clear HO366; clear HB; clear HI358; have BK354 := n0_; have HO361 := n1_; have HO366 := n2_; have HB := n3_; have HI358 := n4_; clear n0_ n1_ n2_ n3_ n4_; (try clear hb); (try clear hb2); (try clear hk); (try clear hi)) | ((with_reducible refine gate_callee (f := 99) rfl ?_); refine goesL_ (some 16) rfl rfl Try.func99 (by kernel_rfl) rfl #[.pointer (some ⟨g358, 0, none⟩)] rfl (by (try simp only [List.map_toArray, List.map_cons, List.map_nil]); first | done | rfl | (simp only [List.length_drop, List.length_take]; rfl)) ?_; (with_reducible refine (spec_l03Any.calls k g358 t355 t368 t369 t370 t373 t376 t377 w _ ?side1 ?side2 A5.out).mono ?_); (case side1 => repeat (first | (with_reducible first | exact HI358.out | apply IsS146.alloc | apply IsS146.drewN | apply IsS146.drew | apply IsS146.set_1 | apply IsS146.set_2 | apply IsS146.far (hne := NB358_354.out)) | apply IsS146.far (hne := NB358_354.out) | exact HI358.out)); (case side2 => repeat (first | (with_reducible first | exact HB.out | apply zg | apply zh | apply zi | refine zs ?_ (IsS146.ge HI358.out) | refine zs ?_ GE354.out) | exact HB.out)); rintro e w13 ⟨v371, v374, rfl, ho0, ho1, hi, hb, hk⟩; refine ⟨_, rfl, ?_⟩; have n0_ := zj (KeepBut.blk hk (g' := gb354) (o := .cells #[.slice none 0 0, .slice none 0 0] 36 (0, 0)) (by (with_reducible repeat (first | refine za ?_ _ | refine zb ?_ | refine zc ?_ _)); exact BK354.out) NB354_358.out (by simp)); have n1_ := zj (zm (Kd.R_keep (IsS146.apart (show IsS146 w _ g358 t355 t368 t369 from by repeat (first | (with_reducible first | exact HI358.out | apply IsS146.alloc | apply IsS146.drewN | apply IsS146.drew | apply IsS146.set_1 | apply IsS146.set_2 | apply IsS146.far (hne := NB358_354.out)) | apply IsS146.far (hne := NB358_354.out) | exact HI358.out)) (by (with_reducible repeat (first | apply zd | apply ze | apply zf)); exact HO361.out) (by decide)) hk (fun _ h => h.2)) (fun _ h => h.1)); have n2_ := zj (zm (Kd.R_keep (IsS146.apart (show IsS146 w _ g358 t355 t368 t369 from by repeat (first | (with_reducible first | exact HI358.out | apply IsS146.alloc | apply IsS146.drewN | apply IsS146.drew | apply IsS146.set_1 | apply IsS146.set_2 | apply IsS146.far (hne := NB358_354.out)) | apply IsS146.far (hne := NB358_354.out) | exact HI358.out)) (by (with_reducible repeat (first | apply zd | apply ze | apply zf)); exact HO366.out) (by decide)) hk (fun _ h => h.2)) (fun _ h => h.1)); have n3_ := zj (Kd.R_lower ho0 (zk (by repeat (first | (with_reducible first | exact HB.out | apply zg | apply zh | apply zi | refine zs ?_ (IsS146.ge HI358.out) | refine zs ?_ GE354.out) | exact HB.out)))); have n4_ := zj (Kd.R_lower ho1 (zk (by repeat (first | (with_reducible first | exact HB.out | apply zg | apply zh | apply zi | refine zs ?_ (IsS146.ge HI358.out) | refine zs ?_ GE354.out) | exact HB.out)))); have n5_ := zj (hb); have n6_ := zj (hi); clear BK354; clear HO361; clear HO366; clear HB; clear HI358; have BK354 := n0_; have HO361 := n1_; have HO366 := n2_; have HO372 := n3_; have HO375 := n4_; have HB := n5_; have HI358 := n6_; clear n0_ n1_ n2_ n3_ n4_ n5_ n6_; (try clear hb); (try clear hb2); (try clear hk); (try clear hi); (try clear ho0); (try clear ho1); obtain ⟨Ao14, co14, eo14⟩ := Kd.R_slice HO372.out; subst eo14; have hnb15 := NB354_358.out; have hnc15 := NB358_354.out; have hcz16_0 : w13.cell? ⟨gb354, 0, none⟩ = some (.slice none 0 0) := (zq BK354.out 0).trans rfl; have hcz16_1 : w13.cell? ⟨gb354, 1, none⟩ = some (.slice none 0 0) := (zq BK354.out 1).trans rfl; have hfz16_0 := zv BK354.out 0; have hfz16_1 := zv BK354.out 1; obtain ⟨Ao17, co17, eo17⟩ := Kd.R_slice HO375.out; subst eo17))
 refine bodyPost_ret (results_ctt rfl _ _ gb354 36 #[.slice Ao14 t370.length co14, .slice Ao17 t373.length co17] (0, 0) _ rfl (by (with_reducible repeat (first | refine za ?_ _ | refine zb ?_ | refine zc ?_ _)); refine zp (cs := #[.slice Ao14 t370.length co14, .slice none 0 0]) ?_ 1 _ rfl; (with_reducible repeat (first | refine za ?_ _ | refine zb ?_ | refine zc ?_ _)); refine zp (cs := #[.slice none 0 0, .slice none 0 0]) ?_ 0 _ rfl; (with_reducible repeat (first | refine za ?_ _ | refine zb ?_ | refine zc ?_ _)); exact BK354.out) Try.underlying36 rfl (by kernel_rfl)) rfl ?_
 exact ⟨_, _, _, by first | rfl | (simp [errW_none, errW_some] <;> rfl) | (simp [*, errW_none, errW_some] <;> rfl), by (with_reducible repeat (first | apply zd | apply ze | apply zf)); exact zm (zn (p := ⟨gb354, 1, none⟩) (zn (p := ⟨gb354, 0, none⟩) (zu HO372.out BK354.out (by decide)) (fun _ hk => hk.2) (.slice Ao14 t370.length co14)) (fun _ hk => hk.2) (.slice Ao17 t373.length co17)) (fun _ hk => trivial), by (with_reducible repeat (first | apply zd | apply ze | apply zf)); exact zm (zn (p := ⟨gb354, 1, none⟩) (zn (p := ⟨gb354, 0, none⟩) (zu HO375.out BK354.out (by decide)) (fun _ hk => hk.2) (.slice Ao14 t370.length co14)) (fun _ hk => hk.2) (.slice Ao17 t373.length co17)) (fun _ hk => trivial), by (with_reducible repeat (first | apply zd | apply ze | apply zf)); exact zm (zn (p := ⟨gb354, 1, none⟩) (zn (p := ⟨gb354, 0, none⟩) (zu HO361.out BK354.out (by decide)) (fun _ hk => hk.2) (.slice Ao14 t370.length co14)) (fun _ hk => hk.2) (.slice Ao17 t373.length co17)) (fun _ hk => trivial), by repeat (first | (with_reducible first | exact HB.out | apply zg | apply zh | apply zi | refine zs ?_ (IsS146.ge HI358.out) | refine zs ?_ GE354.out) | exact HB.out)⟩

end Go.Proofs.Ytbjlpmhhcigkdaa.VFnFalls
