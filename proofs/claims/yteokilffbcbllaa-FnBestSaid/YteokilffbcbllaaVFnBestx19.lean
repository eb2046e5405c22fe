-- Written by a program of this repo (wip/myprint.py), over the kit's print; functions that the print does not take stand in it by hand-proved contracts.
import Derived.Test.YteokilffbcbllaaVFnBestx0
import Derived.Test.YteokilffbcbllaaVFnBestx15
import Derived.Test.YteokilffbcbllaaVFnBestx18
namespace Go.Proofs.Yteokilffbcbllaa.VFnBest
open Go.RowKit Go.Proofs.YteokilffbcbllaaW.PrintWords Go.Proofs.YteokilffbcbllaaW.PrintLast Go.Proofs.YteokilffbcbllaaW.PrintMore
attribute [local go_sem] max2_int min2_int max_two min_two max_three min_three max_four min_four   -- for this text's walks alone
attribute [local go_sem high] str_leq str_gtr str_geq str_lss
set_option linter.unusedVariables false
set_option linter.unusedSimpArgs false

/-! ### spec_l06Any: function 51 -/
def spec_l06Any.f (k : Nat) (s0_0 : List Int) (s0_1 : Int) (s0_2 : Int) : Option (Int × Int × Int × (List (S60)) × Int × Int) := (spec_l06Meta.f k s0_0 s0_1 s0_2).bind fun bt416 => ((spec_l06Copy.f k bt416.1 bt416.2.1 bt416.2.2.1 bt416.2.2.2.1).bind fun bt424 => ((spec_l01Below.f s0_0 bt416.2.2.2.2.1 bt416.2.2.2.2.2 12).bind fun bt431 => (if bt431.1 = 0 then ((spec_l01PickInt.f s0_0 bt431.2.1 bt431.2.2 (([(-1), 0, 1, 100000, 100001] : List Int))).bind fun bt437 => (some (bt437.1, bt424.2.1, bt424.2.2.1, bt424.2.2.2, bt437.2.1, bt437.2.2))) else (if bt431.1 = 1 then ((spec_l01PickInt.f s0_0 bt431.2.1 bt431.2.2 (([(-1), 1, wrap64 (bt424.2.2.1 - 1), bt424.2.2.1] : List Int))).bind fun bt443 => (some (bt424.1, bt443.1, bt424.2.2.1, bt424.2.2.2, bt443.2.1, bt443.2.2))) else (if bt431.1 = 2 then ((spec_l01PickInt.f s0_0 bt431.2.1 bt431.2.2 (([1, 2, 40, 41] : List Int))).bind fun bt449 => (some (bt424.1, bt424.2.1, bt449.1, bt424.2.2.2, bt449.2.1, bt449.2.2))) else (if bt431.1 = 3 then ((spec_l01PickInt.f s0_0 bt431.2.1 bt431.2.2 (([0, 3, 50] : List Int))).bind fun bt455 => ((spec_l01Below.f s0_0 bt455.2.1 bt455.2.2 9).bind fun bt458 => (if bt424.2.2.2.length < 4398046511104 then (some (bt424.1, bt424.2.1, bt424.2.2.1, (bt424.2.2.2 ++ [(⟨bt455.1, (([bt458.1] : List Int))⟩ : S60)]), bt458.2.1, bt458.2.2)) else (none)))) else (if bt431.1 = 4 then (if (bt424.2.2.2.length : Int) > 0 then (if 0 < ((rd_T60 bt424.2.2.2 0).f1).length then (if ((rd_T60 bt424.2.2.2 0).f1).length < 17592186044416 then (some (bt424.1, bt424.2.1, bt424.2.2.1, (bt424.2.2.2.set (0 : Int).toNat (⟨(rd_T60 bt424.2.2.2 0).f0, (((rd_T60 bt424.2.2.2 0).f1) ++ [rd ((rd_T60 bt424.2.2.2 0).f1) 0])⟩ : S60)), bt431.2.1, bt431.2.2)) else (none)) else (none)) else (some (bt424.1, bt424.2.1, bt424.2.2.1, bt424.2.2.2, bt431.2.1, bt431.2.2))) else (some (bt424.1, bt424.2.1, bt424.2.2.1, bt424.2.2.2, bt431.2.1, bt431.2.2)))))))))
theorem spec_l06Any.mono : ∀ a0 a1 a2 k, LeO (spec_l06Any.f k a0 a1 a2) (spec_l06Any.f (k + 1) a0 a1 a2) := by
  intro a0 a1 a2 k
  unfold spec_l06Any.f
  exact qv
def spec_l06Any.T10 : Bool × List (List Nat × List Nat) := (true, [([], []), ([0], [0]), ([], []), ([], []), ([2, 3], [2, 3]), ([], []), ([5, 4], [5]), ([6], [6]), ([4, 7], [4, 7]), ([8], [8]), ([1, 9, 6], [1, 9]), ([0, 1, 2, 3, 4, 5, 6, 7, 8, 9, 10], []), ([11, 10, 10, 0, 1, 2, 3, 4, 5, 6, 7, 8, 9, 10], [10, 11])])
def spec_l06Any.B10 : List Nat := [0, 1, 0, 0, 12, 0, 60, 124, 252, 508, 1023, 2047, 4095]
theorem spec_l06Any.tab10 : rtab .any (opsOf Try.f51 10) = spec_l06Any.T10 := by kernel_rfl
theorem spec_l06Any.bits10 : waitsOk spec_l06Any.T10.2 spec_l06Any.B10 = true := by kernel_rfl
def spec_l06Any.T13 : Bool × List (List Nat × List Nat) := (true, [([], []), ([0], [0]), ([], []), ([2], [2]), ([3], [3]), ([4], [4]), ([5], [5]), ([], []), ([7], [7]), ([8], [8]), ([9], [9]), ([10], [10]), ([11], [11]), ([12], [12]), ([13], [13]), ([6, 14], [6, 14]), ([1, 0, 1, 2, 3, 4, 5, 6, 7, 8, 9, 10, 11, 12, 13, 14, 15], [1]), ([16, 0, 1, 2, 3, 4, 5, 6, 7, 8, 9, 10, 11, 12, 13, 14, 15], [16]), ([17, 15, 15, 0, 1, 2, 3, 4, 5, 6, 7, 8, 9, 10, 11, 12, 13, 14, 15], [15, 17])])
def spec_l06Any.B13 : List Nat := [0, 1, 0, 4, 12, 28, 60, 0, 128, 384, 896, 1920, 3968, 8064, 16256, 32764, 65535, 131071, 262143]
theorem spec_l06Any.tab13 : rtab .any (opsOf Try.f51 13) = spec_l06Any.T13 := by kernel_rfl
theorem spec_l06Any.bits13 : waitsOk spec_l06Any.T13.2 spec_l06Any.B13 = true := by kernel_rfl
set_option maxHeartbeats 16000000 in
set_option maxRecDepth 100000 in
theorem spec_l06Any.calls (k : Nat) (g : Nat) (s0_0 : List Int) (s0_1 : Int) (s0_2 : Int) (r1 : Int) (r2 : Int) (r3 : Int) (r4 : List (S60)) (r5 : Int) (r6 : Int) (w0 w : World) (hI : IsS102 w0 w g s0_0 s0_1 s0_2) (hB : Below w0.heap.size w0 w) (h : spec_l06Any.f k s0_0 s0_1 s0_2 = some (r1, r2, r3, r4, r5, r6)) :
    Calls Try.prog 51 #[.pointer (some ⟨g, 0, none⟩)] w fun e w' => ∃ v3_ : Value, e = .returned (.agg #[.int .i64 r1, .int .i64 r2, .int .i64 r3, v3_]) ∧ Kd.S k60 60 w' w.heap.size (fun _ => True) v3_ r4 ∧ IsS102 w0 w' g s0_0 r5 r6 ∧ Below w0.heap.size w0 w' ∧ KeepBut w w' g none := by
  have hu24 := Try.underlying24
  have hu60 := Try.underlying60
  have HI0 := Aside0.mk hI
  have HK := Aside0.mk (KeepBut.refl w g none)
  have HL := Aside0.mk hB.size
  clear hI
  have HW0 := Aside0.mk hB.size
  have HB := Aside0.mk hB
  clear hB
  unfold spec_l06Any.f at h
  have H := h
  clear h
  replace H := Option.bind_eq_some_iff.mp H
  obtain ⟨⟨t416, t417, t418, t419, t422, t423⟩, A20, H⟩ := H
  dsimp only at H
  have A2 := Aside0.mk A20
  clear A20
  replace H := Option.bind_eq_some_iff.mp H
  obtain ⟨⟨t424, t425, t426, t427⟩, A30, H⟩ := H
  dsimp only at H
  have A3 := Aside0.mk A30
  clear A30
  replace H := Option.bind_eq_some_iff.mp H
  obtain ⟨⟨t431, t432, t433⟩, A40, H⟩ := H
  dsimp only at H
  have A4 := Aside0.mk A40
  clear A40
  go_enter Try.func51, Try.ntmps51
  go_upto_region 3 with (first | ((with_reducible refine gate_dst (N := 2) rfl ?_); refine qB 2 #[.int .i64 0, .int .i64 0, .int .i64 0, .slice none 0 0] 24 ?_; intro gb415 hg w7 hbox hb; replace HB := Aside0.mk (below_step z3 hb); have BK415 := Aside0.mk (hbox); have GW415 := Aside0.mk ((zeg : w.heap.size ≤ gb415)); have GE415 := Aside0.mk ((Nat.le_trans HW0.out (zeg : w.heap.size ≤ gb415) : w0.heap.size ≤ gb415)); replace HK := Aside0.mk (KeepBut.trans zn (KeepBut.of_below hb g none) (.inl rfl)); have NB0_415 := Aside0.mk ((by rw [hg]; exact Nat.ne_of_lt (IsS102.lt (show IsS102 w0 _ g s0_0 s0_1 s0_2 from by repeat (first | (with_reducible first | exact HI0.out | apply IsS102.alloc | apply IsS102.drewN | apply IsS102.drew | apply IsS102.set_1 | apply IsS102.set_2) | exact HI0.out))) : g ≠ gb415)); have NB415_0 := Aside0.mk NB0_415.out.symm; replace HI0 := Aside0.mk (IsS102.below z2 hb); clear hb hbox hg) | ((with_reducible refine gate_callee (f := 43) rfl ?_); refine qG (some 5) Try.func43 #[.pointer (some ⟨g, 0, none⟩)] ?_; (with_reducible refine (spec_l06Meta.calls k g s0_0 s0_1 s0_2 t416 t417 t418 t419 t422 t423 w0 _ ?side1 ?side2 A2.out).mono ?_); (case side1 => exact zb9); (case side2 => exact zcs); rintro e w8 ⟨v420, rfl, ho0, hi, hb, hk⟩; refine ⟨_, rfl, ?_⟩; replace BK415 := Aside0.mk (KeepBut.blk hk (bP BK415.out) NB415_0.out zdw); have HO421 := Aside0.mk (Kd.S_lower ho0 (keep_size (w := w) (g := g) (row := none) zbd)); replace HK := Aside0.mk (KeepBut.trans zbd hk (.inl rfl)); replace HB := Aside0.mk (hb); replace HI0 := Aside0.mk (hi); try clear hb hk hi ho0; obtain ⟨Ao9, co9, eo9⟩ := Kd.S_slice HO421.out; subst eo9) | ((with_reducible refine gate_callee (f := 73) rfl ?_); refine qG (some 6) Try.func73 #[.agg #[.int .i64 t416, .int .i64 t417, .int .i64 t418, .slice Ao9 t419.length co9]] ?_; (with_reducible refine (spec_l06Copy.calls k t416 t417 t418 _ _ t419 t424 t425 t426 t427 _ ?side1 ?side2 A3.out).mono ?_); (case side1 => exact (by repeat (first | exact (Kd.S_reads' HO421.out).2.2 | (with_reducible refine Kd.C_alloc ?_ _) | (with_reducible refine Kd.C_drewN ?_ _) | (with_reducible refine Kd.C_drew ?_)))); (case side2 => exact (Kd.S_reads' HO421.out).2.1); rintro e w10 ⟨v428, rfl, ho0, hb⟩; refine ⟨_, rfl, ?_⟩; have HO429 := Aside0.mk (Kd.S_lower (Kd.S_new' ho0 (Kd.S_lt zay)) (keep_size (w := w) (g := g) (row := none) zbd)); replace HO421 := Aside0.mk (Kd.S_elder' zay (Kd.S_base ho0) hb); replace BK415 := Aside0.mk (bB BK415.out hb); replace HK := Aside0.mk (KeepBut.trans zbd (KeepBut.of_below hb g none) (.inl rfl)); replace HB := Aside0.mk (below_step zcs hb); replace HI0 := Aside0.mk (IsS102.below zb9 hb); try clear hb ho0) | ((with_reducible refine gate_dst (N := 3) rfl ?_); refine qB 3 #[.int .i64 0, .int .i64 0, .int .i64 0, .slice none 0 0] 24 ?_; intro gb430 hg w11 hbox hb; replace HO421 := Aside0.mk (Kd.S_below zay hb); replace HO429 := Aside0.mk (Kd.S_below zbl hb); replace HB := Aside0.mk (below_step zcs hb); have BK430 := Aside0.mk (hbox); have GW430 := Aside0.mk ((by rw [hg]; exact (keep_size (w := w) (g := g) (row := none) zbd) : w.heap.size ≤ gb430)); have GE430 := Aside0.mk ((Nat.le_trans HW0.out (by rw [hg]; exact (keep_size (w := w) (g := g) (row := none) zbd) : w.heap.size ≤ gb430) : w0.heap.size ≤ gb430)); replace HK := Aside0.mk (KeepBut.trans zbd (KeepBut.of_below hb g none) (.inl rfl)); have NB415_430 := Aside0.mk ((by rw [hg]; exact Nat.ne_of_lt (bL BK415.out) : gb415 ≠ gb430)); have NB430_415 := Aside0.mk NB415_430.out.symm; replace BK415 := Aside0.mk (bB BK415.out hb); have NB0_430 := Aside0.mk ((by rw [hg]; exact Nat.ne_of_lt (IsS102.lt (show IsS102 w0 _ g s0_0 t422 t423 from by repeat (first | (with_reducible first | exact HI0.out | apply IsS102.alloc | apply IsS102.drewN | apply IsS102.drew | apply IsS102.set_1 | apply IsS102.set_2 | apply IsS102.far (hne := NB0_415.out)) | apply IsS102.far (hne := NB0_415.out) | exact HI0.out))) : g ≠ gb430)); have NB430_0 := Aside0.mk NB0_430.out.symm; replace HI0 := Aside0.mk (IsS102.below zb9 hb); clear hb hbox hg; have hnb12 := NB430_415.out; have hnc12 := NB415_430.out; have hnb13 := NB430_0.out; have hnc13 := NB0_430.out; obtain ⟨_, _, _, _, _, _, _, _⟩ := qk4 BK430.out; obtain ⟨Ao15, co15, eo15⟩ := Kd.S_slice HO429.out; subst eo15) | ((with_reducible refine gate_callee (f := 53) rfl ?_); refine qG (some 8) Try.func53 #[.pointer (some ⟨g, 0, none⟩), .int .i64 12] ?_; (with_reducible refine (spec_l01Below.calls g s0_0 t422 t423 12 t431 t432 t433 w0 _ ?side1 ?side2 A4.out).mono ?_); (case side1 => exact ze); (case side2 => exact zm); rintro e w16 ⟨rfl, hi, hb, hk⟩; refine ⟨_, rfl, ?_⟩; replace BK415 := Aside0.mk (KeepBut.blk hk (bK BK415.out NB415_430.out) NB415_0.out zdw); replace HO421 := Aside0.mk (Kd.S_mono (Kd.S_keep (IsS102.apartS (show IsS102 w0 _ g s0_0 t422 t423 from by repeat (first | (with_reducible first | exact HI0.out | apply IsS102.alloc | apply IsS102.drewN | apply IsS102.drew | apply IsS102.set_1 | apply IsS102.set_2 | apply IsS102.far (hne := NB0_415.out) | apply IsS102.far (hne := NB0_430.out)) | apply IsS102.far (hne := NB0_415.out) | apply IsS102.far (hne := NB0_430.out) | exact HI0.out)) (sK HO421.out BK430.out) zbf) hk (fun _ h => h.2)) (fun _ h => h.1)); replace HO429 := Aside0.mk (Kd.S_mono (Kd.S_keep (IsS102.apartS (show IsS102 w0 _ g s0_0 t422 t423 from by repeat (first | (with_reducible first | exact HI0.out | apply IsS102.alloc | apply IsS102.drewN | apply IsS102.drew | apply IsS102.set_1 | apply IsS102.set_2 | apply IsS102.far (hne := NB0_415.out) | apply IsS102.far (hne := NB0_430.out)) | apply IsS102.far (hne := NB0_415.out) | apply IsS102.far (hne := NB0_430.out) | exact HI0.out)) (sK HO429.out BK430.out) zbf) hk (fun _ h => h.2)) (fun _ h => h.1)); replace BK430 := Aside0.mk (KeepBut.blk hk (g' := gb430) (o := .cells #[.int .i64 t424, .int .i64 t425, .int .i64 t426, .slice Ao15 t427.length co15] 24 (0, 0)) (p4 BK430.out) NB430_0.out zdw); replace HK := Aside0.mk (KeepBut.trans zg hk (.inl rfl)); replace HB := Aside0.mk (hb); replace HI0 := Aside0.mk (hi); try clear hb hk hi))
  obtain ⟨_, _, _, _, _, _, _, _⟩ := qk4 BK430.out; obtain ⟨_, _, _, _, _, _, _, _⟩ := qk4 BK415.out; have hnb22 := NB415_430.out; have hnc22 := NB430_415.out; have hnb23 := NB415_0.out; have hnc23 := NB0_415.out; have hnb24 := NB430_0.out; have hnc24 := NB0_430.out
  by_cases c5 : t431 = 0
  case pos =>
    rw [if_pos c5] at H
    have c5b0 : (t431 == 0) = true := beq_iff_eq.mpr c5
    have c5b1 : (t431 != 0) = false := bne_eq_false_iff_eq.mpr c5
    clear c5
    obtain ⟨y434, hy434⟩ : ∃ y_ : List Int, y_ = (([(-1), 0, 1, 100000, 100001] : List Int)) := ⟨_, rfl⟩
    replace H : ((spec_l01PickInt.f s0_0 t432 t433 y434).bind fun bt437 => (some (bt437.1, t425, t426, t427, bt437.2.1, bt437.2.2))) = some (r1, r2, r3, r4, r5, r6) := by first | (rw [hy434]; with_reducible exact H) | (have H2_ := (Option.bind_some _ _).symm.trans H; rw [hy434]; with_reducible exact H2_) | (have H2_ := (Option.bind_some _ _).symm.trans H; with_reducible exact H2_) | with_reducible exact H | (rw [hy434]; exact H) | exact H
    have Ny434 := Aside0.mk hy434
    clear hy434
    replace H := Option.bind_eq_some_iff.mp H
    obtain ⟨⟨t437, t438, t439⟩, A60, H⟩ := H
    dsimp only at H
    have A6 := Aside0.mk A60
    clear A60
    simp only [Option.some.injEq, Prod.mk.injEq] at H
    obtain ⟨rfl, rfl, rfl, rfl, rfl, rfl⟩ := H
    go_wp2_with (first | ((with_reducible refine gate_dst (N := 12) rfl ?_); refine Kd.R_lit (Kd.int .i64) _ 3 ?hg (N := 12) ?hd (xs := ([(-1), 0, 1, 100000, 100001] : List Int)) (inner := [.int .i64 (-1), .int .i64 0, .int .i64 1, .int .i64 100000, .int .i64 100001]) (ok := fun _ => True) (okp := fun _ => True) ?hr ?hp (fun _ hk => hk) trivial (Below.refl _ _) (Nat.le_refl _) zdw ?_; (case hd => rfl); (case hg => rfl); (case hr => first | (go_simp; done) | (go_simp; rfl)); (case hp => exact (Reps.one (show Kd.M (Kd.int .i64) _ _ _ (-1) [.int .i64 (-1)] from rfl) (Reps.one (show Kd.M (Kd.int .i64) _ _ _ 0 [.int .i64 0] from rfl) (Reps.one (show Kd.M (Kd.int .i64) _ _ _ 1 [.int .i64 1] from rfl) (Reps.one (show Kd.M (Kd.int .i64) _ _ _ 100000 [.int .i64 100000] from rfl) (Reps.one (show Kd.M (Kd.int .i64) _ _ _ 100001 [.int .i64 100001] from rfl) (Reps.none _ _))))))); intro v435 w17 ho18 hb hg_ hnew_; clear hg_ hnew_; (first | rw [← Ny434.out] at ho18 | (simp only [Int.reduceToNat] at ho18; rw [← Ny434.out] at ho18)); replace HO421 := Aside0.mk (Kd.S_elder' zay (Kd.R_base ho18) hb); replace HO429 := Aside0.mk (Kd.S_elder' zbl (Kd.R_base ho18) hb); have HO436 := Aside0.mk (Kd.R_lower ho18 (keep_size (w := w) (g := g) (row := none) zg)); replace BK415 := Aside0.mk (bB BK415.out hb); replace BK430 := Aside0.mk (bB BK430.out hb); replace HK := Aside0.mk (KeepBut.trans zg (KeepBut.of_below hb g none) (.inl rfl)); replace HB := Aside0.mk (below_step zm hb); replace HI0 := Aside0.mk (IsS102.below ze hb); clear hb ho18; obtain ⟨Ao19, co19, eo19⟩ := Kd.R_slice HO436.out; subst eo19) | ((with_reducible refine gate_callee (f := 71) rfl ?_); refine qG (some 13) Try.func71 #[.pointer (some ⟨g, 0, none⟩), .slice Ao19 y434.length co19] ?_; (with_reducible refine (spec_l01PickInt.calls g s0_0 t432 t433 _ _ y434 t437 t438 t439 w0 _ ?side1 ?side2 ?side3 ?side4 ?side5 A6.out).mono ?_); (case side1 => exact ze); (case side2 => exact zm); (case side3 => exact (by repeat (first | exact (Kd.R_reads' HO436.out).2.2 | (with_reducible refine Kd.C_alloc ?_ _) | (with_reducible refine Kd.C_drewN ?_ _) | (with_reducible refine Kd.C_drew ?_)))); (case side4 => exact (Kd.R_reads' HO436.out).2.1); (case side5 => exact far_slice (IsS102.own_ne HI0.out HO436.out zbf)); rintro e w20 ⟨rfl, hi, hb, hk⟩; refine ⟨_, rfl, ?_⟩; replace BK415 := Aside0.mk (KeepBut.blk hk (bP BK415.out) NB415_0.out zdw); replace HO421 := Aside0.mk (Kd.S_mono (Kd.S_keep (IsS102.apartS (show IsS102 w0 _ g s0_0 t432 t433 from by repeat (first | (with_reducible first | exact HI0.out | apply IsS102.alloc | apply IsS102.drewN | apply IsS102.drew | apply IsS102.set_1 | apply IsS102.set_2 | apply IsS102.far (hne := NB0_415.out) | apply IsS102.far (hne := NB0_430.out)) | apply IsS102.far (hne := NB0_415.out) | apply IsS102.far (hne := NB0_430.out) | exact HI0.out)) zay zbf) hk (fun _ h => h.2)) (fun _ h => h.1)); replace HO429 := Aside0.mk (Kd.S_mono (Kd.S_keep (IsS102.apartS (show IsS102 w0 _ g s0_0 t432 t433 from by repeat (first | (with_reducible first | exact HI0.out | apply IsS102.alloc | apply IsS102.drewN | apply IsS102.drew | apply IsS102.set_1 | apply IsS102.set_2 | apply IsS102.far (hne := NB0_415.out) | apply IsS102.far (hne := NB0_430.out)) | apply IsS102.far (hne := NB0_415.out) | apply IsS102.far (hne := NB0_430.out) | exact HI0.out)) zbl zbf) hk (fun _ h => h.2)) (fun _ h => h.1)); replace BK430 := Aside0.mk (KeepBut.blk hk (bP BK430.out) NB430_0.out zdw); replace HK := Aside0.mk (KeepBut.trans zg hk (.inl rfl)); replace HB := Aside0.mk (hb); replace HI0 := Aside0.mk (hi); try clear hb hk hi; obtain ⟨_, _, _, _, _, _, _, _⟩ := qk4 BK430.out; have hnb22 := NB415_0.out; have hnc22 := NB0_415.out; obtain ⟨_, _, _, _, _, _, _, _⟩ := qk4 BK415.out))
    refine bodyPost_ret (results_cell_row rfl _ _ gb415 24 #[.int .i64 t437, .int .i64 t425, .int .i64 t426, .slice Ao15 t427.length co15] (0, 0) _ rfl (p4 (blk_far BK415.out NB415_430.out _)) Try.underlying24 rfl za5) rfl ?_
    exact ⟨_, zc, Kd.S_mono (sK2 HO429.out BK430.out BK415.out) (fun _ _ => trivial), ze, zm, zg⟩
  rw [if_neg c5] at H
  have c5b0 : (t431 == 0) = false := beq_eq_false_iff_ne.mpr c5
  have c5b1 : (t431 != 0) = true := bne_iff_ne.mpr c5
  by_cases c24 : t431 = 1
  case pos =>
    rw [if_pos c24] at H
    have c24b0 : (t431 == 1) = true := beq_iff_eq.mpr c24
    have c24b1 : (t431 != 1) = false := bne_eq_false_iff_eq.mpr c24
    clear c24
    obtain ⟨y440, hy440⟩ : ∃ y_ : List Int, y_ = (([(-1), 1, wrap64 (t426 - 1), t426] : List Int)) := ⟨_, rfl⟩
    replace H : ((spec_l01PickInt.f s0_0 t432 t433 y440).bind fun bt443 => (some (t424, bt443.1, t426, t427, bt443.2.1, bt443.2.2))) = some (r1, r2, r3, r4, r5, r6) := by first | (rw [hy440]; with_reducible exact H) | (have H2_ := (Option.bind_some _ _).symm.trans H; rw [hy440]; with_reducible exact H2_) | (have H2_ := (Option.bind_some _ _).symm.trans H; with_reducible exact H2_) | with_reducible exact H | (rw [hy440]; exact H) | exact H
    have Ny440 := Aside0.mk hy440
    clear hy440
    replace H := Option.bind_eq_some_iff.mp H
    obtain ⟨⟨t443, t444, t445⟩, A250, H⟩ := H
    dsimp only at H
    have A25 := Aside0.mk A250
    clear A250
    simp only [Option.some.injEq, Prod.mk.injEq] at H
    obtain ⟨rfl, rfl, rfl, rfl, rfl, rfl⟩ := H
    go_wp2_with (first | ((with_reducible refine gate_dst (N := 23) rfl ?_); refine Kd.R_lit (Kd.int .i64) _ 3 ?hg (N := 23) ?hd (xs := ([(-1), 1, wrap64 (t426 - 1), t426] : List Int)) (inner := [.int .i64 (-1), .int .i64 1, .int .i64 (wrap64 (t426 - 1)), .int .i64 t426]) (ok := fun _ => True) (okp := fun _ => True) ?hr ?hp (fun _ hk => hk) trivial (Below.refl _ _) (Nat.le_refl _) zdw ?_; (case hd => rfl); (case hg => rfl); (case hr => first | (go_simp; done) | (go_simp; rfl)); (case hp => exact (Reps.one (show Kd.M (Kd.int .i64) _ _ _ (-1) [.int .i64 (-1)] from rfl) (Reps.one (show Kd.M (Kd.int .i64) _ _ _ 1 [.int .i64 1] from rfl) (Reps.one (show Kd.M (Kd.int .i64) _ _ _ (wrap64 (t426 - 1)) [.int .i64 (wrap64 (t426 - 1))] from rfl) (Reps.one (show Kd.M (Kd.int .i64) _ _ _ t426 [.int .i64 t426] from rfl) (Reps.none _ _)))))); intro v441 w37 ho38 hb hg_ hnew_; clear hg_ hnew_; (first | rw [← Ny440.out] at ho38 | (simp only [Int.reduceToNat] at ho38; rw [← Ny440.out] at ho38)); replace HO421 := Aside0.mk (Kd.S_elder' zay (Kd.R_base ho38) hb); replace HO429 := Aside0.mk (Kd.S_elder' zbl (Kd.R_base ho38) hb); have HO442 := Aside0.mk (Kd.R_lower ho38 (keep_size (w := w) (g := g) (row := none) zg)); replace BK415 := Aside0.mk (bB BK415.out hb); replace BK430 := Aside0.mk (bB BK430.out hb); replace HK := Aside0.mk (KeepBut.trans zg (KeepBut.of_below hb g none) (.inl rfl)); replace HB := Aside0.mk (below_step zm hb); replace HI0 := Aside0.mk (IsS102.below ze hb); clear hb ho38; obtain ⟨Ao39, co39, eo39⟩ := Kd.R_slice HO442.out; subst eo39) | ((with_reducible refine gate_callee (f := 71) rfl ?_); refine qG (some 24) Try.func71 #[.pointer (some ⟨g, 0, none⟩), .slice Ao39 y440.length co39] ?_; (with_reducible refine (spec_l01PickInt.calls g s0_0 t432 t433 _ _ y440 t443 t444 t445 w0 _ ?side1 ?side2 ?side3 ?side4 ?side5 A25.out).mono ?_); (case side1 => exact ze); (case side2 => exact zm); (case side3 => exact (by repeat (first | exact (Kd.R_reads' HO442.out).2.2 | (with_reducible refine Kd.C_alloc ?_ _) | (with_reducible refine Kd.C_drewN ?_ _) | (with_reducible refine Kd.C_drew ?_)))); (case side4 => exact (Kd.R_reads' HO442.out).2.1); (case side5 => exact far_slice (IsS102.own_ne HI0.out HO442.out zbf)); rintro e w40 ⟨rfl, hi, hb, hk⟩; refine ⟨_, rfl, ?_⟩; replace BK415 := Aside0.mk (KeepBut.blk hk (bP BK415.out) NB415_0.out zdw); replace HO421 := Aside0.mk (Kd.S_mono (Kd.S_keep (IsS102.apartS (show IsS102 w0 _ g s0_0 t432 t433 from by repeat (first | (with_reducible first | exact HI0.out | apply IsS102.alloc | apply IsS102.drewN | apply IsS102.drew | apply IsS102.set_1 | apply IsS102.set_2 | apply IsS102.far (hne := NB0_415.out) | apply IsS102.far (hne := NB0_430.out)) | apply IsS102.far (hne := NB0_415.out) | apply IsS102.far (hne := NB0_430.out) | exact HI0.out)) zay zbf) hk (fun _ h => h.2)) (fun _ h => h.1)); replace HO429 := Aside0.mk (Kd.S_mono (Kd.S_keep (IsS102.apartS (show IsS102 w0 _ g s0_0 t432 t433 from by repeat (first | (with_reducible first | exact HI0.out | apply IsS102.alloc | apply IsS102.drewN | apply IsS102.drew | apply IsS102.set_1 | apply IsS102.set_2 | apply IsS102.far (hne := NB0_415.out) | apply IsS102.far (hne := NB0_430.out)) | apply IsS102.far (hne := NB0_415.out) | apply IsS102.far (hne := NB0_430.out) | exact HI0.out)) zbl zbf) hk (fun _ h => h.2)) (fun _ h => h.1)); replace BK430 := Aside0.mk (KeepBut.blk hk (bP BK430.out) NB430_0.out zdw); replace HK := Aside0.mk (KeepBut.trans zg hk (.inl rfl)); replace HB := Aside0.mk (hb); replace HI0 := Aside0.mk (hi); try clear hb hk hi; obtain ⟨_, _, _, _, _, _, _, _⟩ := qk4 BK430.out; have hnb42 := NB415_0.out; have hnc42 := NB0_415.out; obtain ⟨_, _, _, _, _, _, _, _⟩ := qk4 BK415.out))
    refine bodyPost_ret (results_cell_row rfl _ _ gb415 24 #[.int .i64 t424, .int .i64 t443, .int .i64 t426, .slice Ao15 t427.length co15] (0, 0) _ rfl (p4 (blk_far BK415.out NB415_430.out _)) Try.underlying24 rfl za5) rfl ?_
    exact ⟨_, zc, Kd.S_mono (sK2 HO429.out BK430.out BK415.out) (fun _ _ => trivial), ze, zm, zg⟩
  rw [if_neg c24] at H
  have c24b0 : (t431 == 1) = false := beq_eq_false_iff_ne.mpr c24
  have c24b1 : (t431 != 1) = true := bne_iff_ne.mpr c24
  by_cases c44 : t431 = 2
  case pos =>
    rw [if_pos c44] at H
    have c44b0 : (t431 == 2) = true := beq_iff_eq.mpr c44
    have c44b1 : (t431 != 2) = false := bne_eq_false_iff_eq.mpr c44
    clear c44
    obtain ⟨y446, hy446⟩ : ∃ y_ : List Int, y_ = (([1, 2, 40, 41] : List Int)) := ⟨_, rfl⟩
    replace H : ((spec_l01PickInt.f s0_0 t432 t433 y446).bind fun bt449 => (some (t424, t425, bt449.1, t427, bt449.2.1, bt449.2.2))) = some (r1, r2, r3, r4, r5, r6) := by first | (rw [hy446]; with_reducible exact H) | (have H2_ := (Option.bind_some _ _).symm.trans H; rw [hy446]; with_reducible exact H2_) | (have H2_ := (Option.bind_some _ _).symm.trans H; with_reducible exact H2_) | with_reducible exact H | (rw [hy446]; exact H) | exact H
    have Ny446 := Aside0.mk hy446
    clear hy446
    replace H := Option.bind_eq_some_iff.mp H
    obtain ⟨⟨t449, t450, t451⟩, A450, H⟩ := H
    dsimp only at H
    have A45 := Aside0.mk A450
    clear A450
    simp only [Option.some.injEq, Prod.mk.injEq] at H
    obtain ⟨rfl, rfl, rfl, rfl, rfl, rfl⟩ := H
    go_wp2_with (first | ((with_reducible refine gate_dst (N := 29) rfl ?_); refine Kd.R_lit (Kd.int .i64) _ 3 ?hg (N := 29) ?hd (xs := ([1, 2, 40, 41] : List Int)) (inner := [.int .i64 1, .int .i64 2, .int .i64 40, .int .i64 41]) (ok := fun _ => True) (okp := fun _ => True) ?hr ?hp (fun _ hk => hk) trivial (Below.refl _ _) (Nat.le_refl _) zdw ?_; (case hd => rfl); (case hg => rfl); (case hr => first | (go_simp; done) | (go_simp; rfl)); (case hp => exact (Reps.one (show Kd.M (Kd.int .i64) _ _ _ 1 [.int .i64 1] from rfl) (Reps.one (show Kd.M (Kd.int .i64) _ _ _ 2 [.int .i64 2] from rfl) (Reps.one (show Kd.M (Kd.int .i64) _ _ _ 40 [.int .i64 40] from rfl) (Reps.one (show Kd.M (Kd.int .i64) _ _ _ 41 [.int .i64 41] from rfl) (Reps.none _ _)))))); intro v447 w56 ho57 hb hg_ hnew_; clear hg_ hnew_; (first | rw [← Ny446.out] at ho57 | (simp only [Int.reduceToNat] at ho57; rw [← Ny446.out] at ho57)); replace HO421 := Aside0.mk (Kd.S_elder' zay (Kd.R_base ho57) hb); replace HO429 := Aside0.mk (Kd.S_elder' zbl (Kd.R_base ho57) hb); have HO448 := Aside0.mk (Kd.R_lower ho57 (keep_size (w := w) (g := g) (row := none) zg)); replace BK415 := Aside0.mk (bB BK415.out hb); replace BK430 := Aside0.mk (bB BK430.out hb); replace HK := Aside0.mk (KeepBut.trans zg (KeepBut.of_below hb g none) (.inl rfl)); replace HB := Aside0.mk (below_step zm hb); replace HI0 := Aside0.mk (IsS102.below ze hb); clear hb ho57; obtain ⟨Ao58, co58, eo58⟩ := Kd.R_slice HO448.out; subst eo58) | ((with_reducible refine gate_callee (f := 71) rfl ?_); refine qG (some 30) Try.func71 #[.pointer (some ⟨g, 0, none⟩), .slice Ao58 y446.length co58] ?_; (with_reducible refine (spec_l01PickInt.calls g s0_0 t432 t433 _ _ y446 t449 t450 t451 w0 _ ?side1 ?side2 ?side3 ?side4 ?side5 A45.out).mono ?_); (case side1 => exact ze); (case side2 => exact zm); (case side3 => exact (by repeat (first | exact (Kd.R_reads' HO448.out).2.2 | (with_reducible refine Kd.C_alloc ?_ _) | (with_reducible refine Kd.C_drewN ?_ _) | (with_reducible refine Kd.C_drew ?_)))); (case side4 => exact (Kd.R_reads' HO448.out).2.1); (case side5 => exact far_slice (IsS102.own_ne HI0.out HO448.out zbf)); rintro e w59 ⟨rfl, hi, hb, hk⟩; refine ⟨_, rfl, ?_⟩; replace BK415 := Aside0.mk (KeepBut.blk hk (bP BK415.out) NB415_0.out zdw); replace HO421 := Aside0.mk (Kd.S_mono (Kd.S_keep (IsS102.apartS (show IsS102 w0 _ g s0_0 t432 t433 from by repeat (first | (with_reducible first | exact HI0.out | apply IsS102.alloc | apply IsS102.drewN | apply IsS102.drew | apply IsS102.set_1 | apply IsS102.set_2 | apply IsS102.far (hne := NB0_415.out) | apply IsS102.far (hne := NB0_430.out)) | apply IsS102.far (hne := NB0_415.out) | apply IsS102.far (hne := NB0_430.out) | exact HI0.out)) zay zbf) hk (fun _ h => h.2)) (fun _ h => h.1)); replace HO429 := Aside0.mk (Kd.S_mono (Kd.S_keep (IsS102.apartS (show IsS102 w0 _ g s0_0 t432 t433 from by repeat (first | (with_reducible first | exact HI0.out | apply IsS102.alloc | apply IsS102.drewN | apply IsS102.drew | apply IsS102.set_1 | apply IsS102.set_2 | apply IsS102.far (hne := NB0_415.out) | apply IsS102.far (hne := NB0_430.out)) | apply IsS102.far (hne := NB0_415.out) | apply IsS102.far (hne := NB0_430.out) | exact HI0.out)) zbl zbf) hk (fun _ h => h.2)) (fun _ h => h.1)); replace BK430 := Aside0.mk (KeepBut.blk hk (bP BK430.out) NB430_0.out zdw); replace HK := Aside0.mk (KeepBut.trans zg hk (.inl rfl)); replace HB := Aside0.mk (hb); replace HI0 := Aside0.mk (hi); try clear hb hk hi; obtain ⟨_, _, _, _, _, _, _, _⟩ := qk4 BK430.out; have hnb61 := NB415_0.out; have hnc61 := NB0_415.out; obtain ⟨_, _, _, _, _, _, _, _⟩ := qk4 BK415.out))
    refine bodyPost_ret (results_cell_row rfl _ _ gb415 24 #[.int .i64 t424, .int .i64 t425, .int .i64 t449, .slice Ao15 t427.length co15] (0, 0) _ rfl (p4 (blk_far BK415.out NB415_430.out _)) Try.underlying24 rfl za5) rfl ?_
    exact ⟨_, zc, Kd.S_mono (sK2 HO429.out BK430.out BK415.out) (fun _ _ => trivial), ze, zm, zg⟩
  rw [if_neg c44] at H
  have c44b0 : (t431 == 2) = false := beq_eq_false_iff_ne.mpr c44
  have c44b1 : (t431 != 2) = true := bne_iff_ne.mpr c44
  by_cases c63 : t431 = 3
  case neg =>
    rw [if_neg c63] at H
    have c63b0 : (t431 == 3) = false := beq_eq_false_iff_ne.mpr c63
    have c63b1 : (t431 != 3) = true := bne_iff_ne.mpr c63
    by_cases c92 : t431 = 4
    case neg =>
      rw [if_neg c92] at H
      have c92b0 : (t431 == 4) = false := beq_eq_false_iff_ne.mpr c92
      have c92b1 : (t431 != 4) = true := bne_iff_ne.mpr c92
      simp only [Option.some.injEq, Prod.mk.injEq] at H
      obtain ⟨rfl, rfl, rfl, rfl, rfl, rfl⟩ := H
      go_wp2
      refine bodyPost_ret (results_cell_row rfl _ _ gb415 24 #[.int .i64 t424, .int .i64 t425, .int .i64 t426, .slice Ao15 t427.length co15] (0, 0) _ rfl (p4 BK415.out) Try.underlying24 rfl za5) rfl ?_
      exact ⟨_, zc, Kd.S_mono (sK HO429.out BK415.out) (fun _ _ => trivial), ze, zm, zg⟩

    rw [if_pos c92] at H
    have c92b0 : (t431 == 4) = true := beq_iff_eq.mpr c92
    have c92b1 : (t431 != 4) = false := bne_eq_false_iff_eq.mpr c92
    clear c92
    by_cases c93 : (t427.length : Int) > 0
    case neg =>
      rw [if_neg c93] at H
      have c93b0 : decide (0 < (t427.length : Int)) = false := decide_eq_false c93
      have c93b1 : decide (0 < t427.length) = false := decide_eq_false zd4
      clear c93
      simp only [Option.some.injEq, Prod.mk.injEq] at H
      obtain ⟨rfl, rfl, rfl, rfl, rfl, rfl⟩ := H
      go_wp2
      refine bodyPost_ret (results_cell_row rfl _ _ gb415 24 #[.int .i64 t424, .int .i64 t425, .int .i64 t426, .slice Ao15 t427.length co15] (0, 0) _ rfl (p4 BK415.out) Try.underlying24 rfl za5) rfl ?_
      exact ⟨_, zc, Kd.S_mono (sK HO429.out BK415.out) (fun _ _ => trivial), ze, zm, zg⟩
    rw [if_pos c93] at H
    have c93n : 0 < t427.length := by omega
    have c93b0 : decide (0 < (t427.length : Int)) = true := decide_eq_true c93
    have c93b1 : decide (0 < t427.length) = true := decide_eq_true c93n
    by_cases c94 : 0 < ((rd_T60 t427 0).f1).length
    case neg => exact qn c94 H
    rw [if_pos c94] at H
    by_cases c95 : ((rd_T60 t427 0).f1).length < 17592186044416
    case neg => exact qn c95 H
    rw [if_pos c95] at H
    have LM := Aside0.mk c95
    clear c95
    simp only [Option.some.injEq, Prod.mk.injEq] at H
    obtain ⟨rfl, rfl, rfl, rfl, rfl, rfl⟩ := H
    go_upto_region 13 with (fail)
    replace HO429 := Aside0.mk (Kd.S_drew HO429.out)
    replace HO429 := Aside0.mk (show Kd.S k60 60 _ w.heap.size (fun _ => True) _ _ from Kd.S_mono HO429.out (fun _ _ => trivial))
    replace BK415 := Aside0.mk (blk_drew BK415.out)
    replace BK430 := Aside0.mk (blk_drew BK430.out)
    replace HI0 := Aside0.mk (IsS102.drew HI0.out)
    replace HK := Aside0.mk (keep_drew HK.out)
    replace HB := Aside0.mk (below_drew1 HB.out)
    clear HO421
    obtain ⟨go, cgo, ego, gbo, glo, clo, hgo⟩ := Kd.S_form HO429.out c93n
    injection ego with f1_ f2_ f3_; have f4_ := f1_.symm; have f5_ := f3_.symm; clear f1_ f2_ f3_; subst f4_; subst f5_
    obtain ⟨oki, ce, hcl, hM, hcc, hfr, hoki, hH⟩ := Kd.S_elem HO429.out z60 (0 : Int) zbf zd4
    obtain ⟨v1, rfl, g1⟩ := k60_openM hM
    have G1 : (Kd.int .i64).R 3 w16.drew w.heap.size oki v1 ((rd_T60 t427 0).f1) := g1
    clear g1 hM hcl glo clo hgo
    obtain ⟨gi, ci, ei, gbi, gli, cli, hgi⟩ := Kd.R_form G1 c94
    subst ei
    have hw1 : w16.drew.cell? ⟨go, 1, none⟩ = some (.slice (some ⟨gi, 0, none⟩) ((rd_T60 t427 0).f1).length ci) := hcc 1 _ rfl
    have hi0 : w16.drew.cell? ⟨gi, 0, none⟩ = some (.int .i64 (rd ((rd_T60 t427 0).f1) 0)) := by
      obtain ⟨c1, _, hc1M, hc1c, _⟩ := Kd.R_elem G1 (0 : Int) (0 : Int) zbf zd4
      exact hc1c 0 _ (by rw [show c1 = [.int .i64 (rd ((rd_T60 t427 0).f1) 0)] from hc1M]; rfl)
    have ne430 := Kd.S_ne HO429.out BK430.out zbf
    have ne415 := Kd.S_ne HO429.out BK415.out zbf
    have ne0 := IsS102.own_neS HI0.out HO429.out zbf
    have GB := Aside0.mk gbo
    clear hcc hfr hoki gli cli hgi gbi gbo
    have q0 : (0 : Int) < (t427.length : Int) := by omega
    have q1 : (0 : Int) < (((rd_T60 t427 0).f1).length : Int) := by omega
    refine start_ (n := 19) (S := fun w' => w'.cell? ⟨gb430, 3, none⟩ = some (.slice (some ⟨go, 0, none⟩) t427.length cgo) ∧ w'.cell? ⟨go, 1, none⟩ = some (.slice (some ⟨gi, 0, none⟩) ((rd_T60 t427 0).f1).length ci)) (ds := [18]) (bz 19 0) za5 rfl rfl ⟨qx BK430 3, hw1⟩ (fun hHeld => ?_); refine with_tabW spec_l06Any.tab13 spec_l06Any.bits13 (fun HT_ HW_ => ?_)
    clear HO429
    generalize w16.drew = w77 at BK415 BK430 HI0 HK HB hHeld hw1 hi0 hH G1 ne0 ⊢
    refine ql 0 (some 52) (bz 19 1) HT_ ?_
    refine ql 2 (some 54) (bz 19 5) HT_ ?_
    refine ql 7 (some 59) (bz 19 133) HT_ ?_
    refine qt 1 (some 53) (bz 19 135) HT_ HW_ hHeld ?_
    refine qt 3 (some 55) (bz 19 143) HT_ HW_ hHeld ?_
    refine qt 8 (some 60) (bz 19 399) HT_ HW_ hHeld ?_
    refine ql 4 (some 56) (bz 19 415) HT_ ?_
    refine ql 9 (some 61) (bz 19 927) HT_ ?_
    refine ql 5 (some 57) (bz 19 959) HT_ ?_
    refine ql 10 (some 62) (bz 19 1983) HT_ ?_
    refine qt 6 (some 58) (bz 19 2047) HT_ HW_ hHeld ?_
    refine qt 11 (some 63) (bz 19 4095) HT_ HW_ hHeld ?_
    refine ql 12 (some 64) (bz 19 8191) HT_ ?_
    refine qs 13 (some 65) (bz 19 16383) HT_ rfl rfl (fun K hK => ?_)
    refine value_ (w1 := ?_) (v := ?_) zdy rfl ?_ ?_
    rotate_left 2
    · go_simp
      constructor <;> rfl
    refine hK.out _ _ hHeld (fun hHeld => ?_)
    clear hK K
    refine qr (some 65) ?_
    refine qs 14 (some 66) (bz 19 32767) HT_ rfl rfl (fun K hK => ?_)
    refine value_ (w1 := ?_) (v := ?_) zdy rfl ?_ ?_
    rotate_left 2
    · go_simp
      constructor <;> rfl
    refine hK.out _ _ ⟨(blk_cell (blk_alloc BK430.out _) 3).trans rfl, ((below_alloc (Below.refl w77.heap.size w77) _).cell (World.block_lt_of_cell? w77 _ hw1)).trans hw1⟩ (fun hHeld => ?_)
    clear hK K
    refine qr (some 66) ?_
    refine qs 15 (some 67) (bz 19 65535) HT_ rfl rfl (fun K hK => ?_)
    refine Kd.R_append_step (Kd.int .i64) w.heap.size zdy (.tmp 58) (.tmp 66) 58 3 (.int .i64 0) 8 rfl Try.underlying58 info3 rfl zbf zd4 (.slice (some ⟨gi, 0, none⟩) ((rd_T60 t427 0).f1).length ci) ((rd_T60 t427 0).f1) (rd ((rd_T60 t427 0).f1) 0) [.int .i64 (rd ((rd_T60 t427 0).f1) 0)] (fun k_ => oki k_ ∨ True ∧ w77.heap.size ≤ k_) (fun _ => False) rfl rfl ?aP (fun _ hk => hk.elim) ?aF ?aO (Below.refl _ _) ?aS ?aL ?_
    (case aP => exact rfl)
    (case aF => exact fun k_ hk => .inr ⟨trivial, hk⟩)
    (case aO => exact Kd.R_mono G1 (fun k_ hk => .inl hk))
    (case aS => exact keep_size HK.out)
    (case aL => have := LM.out; omega)
    intro v67 w86 ho hb hg hat
    obtain ⟨A67, c67, e67⟩ := Kd.R_slice ho
    subst e67
    have n430 := Kd.R_ne G1 BK430.out zbf
    have n415 := Kd.R_ne G1 BK415.out zbf
    have n0 := IsS102.own_ne HI0.out G1 zbf
    have BB := Kd.R_base2 G1
    have H2 := Kd.H_grown (Kd.H_widen hH) hg (fun k_ e_ => .inl (G1.1 k_ e_))
    have hsz := hg.size
    replace HI0 := Aside0.mk (IsS102.grown HI0.out hg n0)
    replace BK415 := Aside0.mk (blk_grown BK415.out hg n415)
    replace BK430 := Aside0.mk (blk_grown BK430.out hg n430)
    replace HB := Aside0.mk (below_weaken HB.out HL.out hb)
    replace HK := Aside0.mk (KeepBut.trans HK.out (KeepBut.of_grown hg g) BB)
    clear hw1 hi0
    obtain ⟨hat1, hat2⟩ := Kd.H_at H2 zbf zd4
    have hw1 : w86.cell? ⟨go, 1, none⟩ = some (.slice (some ⟨gi, 0, none⟩) ((rd_T60 t427 0).f1).length ci) := hat1 1 _ rfl
    have hfw1 : w86.frozen? ⟨go, 1, none⟩ = false := hat2 1
    have HP := (Kd.S_seg0 H2 zbf zd4 (seg := [.slice A67 (((rd_T60 t427 0).f1) ++ [rd ((rd_T60 t427 0).f1) 0]).length c67]) (j := 1) (show 1 + 1 ≤ 2 from by decide) (x' := (⟨(rd_T60 t427 0).f0, ((rd_T60 t427 0).f1) ++ [rd ((rd_T60 t427 0).f1) 0]⟩ : S60)) (k60_mkM _ _ _ (⟨(rd_T60 t427 0).f0, ((rd_T60 t427 0).f1) ++ [rd ((rd_T60 t427 0).f1) 0]⟩ : S60) ho) (fun _ hk => hk))
    clear hat1 hat2 ho hb hg hat G1 hH H2 BB n430 n415 n0
    refine hK.out _ _ ⟨qx BK430 3, hw1⟩ (fun hHeld => ?_)
    clear hK K
    refine qr (some 67) ?_
    refine ql 16 (some 68) (bz 19 131071) HT_ ?_
    refine ql 17 (some 69) (bz 19 262143) HT_ ?_
    refine last_ (i := 18) (N := none) (bz 19 524287) rfl rfl (one_of HT_.out za5) zbf (fun K hK => ?_)
    refine skip_ (w1 := w86.setCell ⟨go, 1, none⟩ (.slice A67 (((rd_T60 t427 0).f1) ++ [rd ((rd_T60 t427 0).f1) 0]).length c67)) zdy rfl ?_ ?_
    · go_simp
      try rfl
    refine hK.out _ _ ?_
    refine qu HT_ ?_
    have HO5 := Aside0.mk (show Kd.S k60 60 (w86.setCell ⟨go, 1, none⟩ (.slice A67 (((rd_T60 t427 0).f1) ++ [rd ((rd_T60 t427 0).f1) 0]).length c67)) w.heap.size (fun _ => True) (.slice (some ⟨go, 0, none⟩) t427.length cgo) (t427.set (0 : Int).toNat (⟨(rd_T60 t427 0).f0, (((rd_T60 t427 0).f1) ++ [rd ((rd_T60 t427 0).f1) 0])⟩ : S60)) from HP.1)
    have hg2 : w86.grownBy (w86.setCell ⟨go, 1, none⟩ (.slice A67 (((rd_T60 t427 0).f1) ++ [rd ((rd_T60 t427 0).f1) 0]).length c67)) (some go) := HP.2
    replace HI0 := Aside0.mk (IsS102.grown HI0.out hg2 ne0)
    replace BK415 := Aside0.mk (blk_grown BK415.out hg2 ne415)
    replace BK430 := Aside0.mk (blk_grown BK430.out hg2 ne430)
    replace HB := Aside0.mk (show Below w0.heap.size w0 (w86.setCell ⟨go, 1, none⟩ (.slice A67 (((rd_T60 t427 0).f1) ++ [rd ((rd_T60 t427 0).f1) 0]).length c67)) from below_set HB.out (Nat.le_trans HL.out GB.out))
    replace HK := Aside0.mk (KeepBut.trans HK.out (KeepBut.of_grown hg2 g) (.inr ⟨go, rfl, GB.out⟩))
    clear HP hw1 hfw1 hHeld hK K hsz
    generalize w86.setCell ⟨go, 1, none⟩ (.slice A67 (((rd_T60 t427 0).f1) ++ [rd ((rd_T60 t427 0).f1) 0]).length c67) = w87 at HO5 BK415 BK430 HI0 HK HB ⊢
    obtain ⟨_, _, _, _, _, _, _, _⟩ := qk4 BK430.out
    obtain ⟨_, _, _, _, _, _, _, _⟩ := qk4 BK415.out
    go_wp2
    refine bodyPost_ret (results_cell_row rfl _ _ gb415 24 #[.int .i64 t424, .int .i64 t425, .int .i64 t426, .slice (some ⟨go, 0, none⟩) t427.length cgo] (0, 0) _ rfl (p4 BK415.out) Try.underlying24 rfl za5) rfl ?_
    exact ⟨_, zc, Kd.S_mono (sK HO5.out BK415.out) (fun _ _ => trivial), ze, zm, zg⟩
  rw [if_pos c63] at H
  have c63b0 : (t431 == 3) = true := beq_iff_eq.mpr c63
  have c63b1 : (t431 != 3) = false := bne_eq_false_iff_eq.mpr c63
  clear c63
  obtain ⟨y452, hy452⟩ : ∃ y_ : List Int, y_ = (([0, 3, 50] : List Int)) := ⟨_, rfl⟩
  replace H : ((spec_l01PickInt.f s0_0 t432 t433 y452).bind fun bt455 => ((spec_l01Below.f s0_0 bt455.2.1 bt455.2.2 9).bind fun bt458 => (if t427.length < 4398046511104 then (some (t424, t425, t426, (t427 ++ [(⟨bt455.1, (([bt458.1] : List Int))⟩ : S60)]), bt458.2.1, bt458.2.2)) else (none)))) = some (r1, r2, r3, r4, r5, r6) := by first | (rw [hy452]; with_reducible exact H) | (have H2_ := (Option.bind_some _ _).symm.trans H; rw [hy452]; with_reducible exact H2_) | (have H2_ := (Option.bind_some _ _).symm.trans H; with_reducible exact H2_) | with_reducible exact H | (rw [hy452]; exact H) | exact H
  have Ny452 := Aside0.mk hy452
  clear hy452
  replace H := Option.bind_eq_some_iff.mp H
  obtain ⟨⟨t455, t456, t457⟩, A640, H⟩ := H
  dsimp only at H
  have A64 := Aside0.mk A640
  clear A640
  replace H := Option.bind_eq_some_iff.mp H
  obtain ⟨⟨t458, t459, t460⟩, A650, H⟩ := H
  dsimp only at H
  have A65 := Aside0.mk A650
  clear A650
  obtain ⟨y461, hy461⟩ : ∃ y_ : List Int, y_ = (([t458] : List Int)) := ⟨_, rfl⟩
  replace H : (if t427.length < 4398046511104 then (some (t424, t425, t426, (t427 ++ [(⟨t455, y461⟩ : S60)]), t459, t460)) else (none)) = some (r1, r2, r3, r4, r5, r6) := by first | (rw [hy461]; with_reducible exact H) | (have H2_ := (Option.bind_some _ _).symm.trans H; rw [hy461]; with_reducible exact H2_) | (have H2_ := (Option.bind_some _ _).symm.trans H; with_reducible exact H2_) | with_reducible exact H | (rw [hy461]; exact H) | exact H
  have Ny461 := Aside0.mk hy461
  clear hy461
  by_cases c66 : t427.length < 4398046511104
  case neg => exact qn c66 H
  rw [if_pos c66] at H
  have LMc66 := Aside0.mk c66
  clear c66
  obtain ⟨y464, hy464⟩ : ∃ y_ : List (S60), y_ = (t427 ++ [(⟨t455, y461⟩ : S60)]) := ⟨_, rfl⟩
  replace H : (some (t424, t425, t426, y464, t459, t460)) = some (r1, r2, r3, r4, r5, r6) := by first | (rw [hy464]; with_reducible exact H) | (have H2_ := (Option.bind_some _ _).symm.trans H; rw [hy464]; with_reducible exact H2_) | (have H2_ := (Option.bind_some _ _).symm.trans H; with_reducible exact H2_) | with_reducible exact H | (rw [hy464]; exact H) | exact H
  have Ny464 := Aside0.mk hy464
  clear hy464
  simp only [Option.some.injEq, Prod.mk.injEq] at H
  obtain ⟨rfl, rfl, rfl, rfl, rfl, rfl⟩ := H
  try go_wp2
  replace HO421 := Aside0.mk (Kd.S_drew HO421.out)
  replace HO429 := Aside0.mk (Kd.S_drew HO429.out)
  replace BK415 := Aside0.mk (blk_drew BK415.out)
  replace BK430 := Aside0.mk (blk_drew BK430.out)
  replace HI0 := Aside0.mk (IsS102.drew HI0.out)
  replace HK := Aside0.mk (keep_drew HK.out)
  replace HB := Aside0.mk (below_drew1 HB.out)
  refine start_ (n := 13) (S := fun w' => w'.cell? ⟨gb430, 0, none⟩ = some (.int .i64 t424) ∧ w'.cell? ⟨gb430, 1, none⟩ = some (.int .i64 t425) ∧ w'.cell? ⟨gb430, 2, none⟩ = some (.int .i64 t426) ∧ w'.cell? ⟨gb430, 3, none⟩ = some (.slice Ao15 t427.length co15)) (ds := [12]) (bz 13 0) za5 rfl rfl ⟨qx BK430 0, qx BK430 1, qx BK430 2, qx BK430 3⟩ (fun hHeld => ?_); refine with_tabW spec_l06Any.tab10 spec_l06Any.bits10 (fun HT_ HW_ => ?_)
  generalize w16.drew = w77 at HO421 HO429 BK415 BK430 HI0 HK HB hHeld ⊢
  refine ql 0 (some 34) (bz 13 1) HT_ ?_
  refine ql 2 (some 36) (bz 13 5) HT_ ?_
  refine ql 5 (some 39) (bz 13 37) HT_ ?_
  refine qt 1 (some 35) (bz 13 39) HT_ HW_ hHeld ?_
  refine qs 3 (some 37) (bz 13 47) HT_ rfl rfl (fun K hK => ?_)
  refine Kd.R_lit_step (Kd.int .i64) _ 3 ?hg (N := 37) ?hd (xs := ([0, 3, 50] : List Int)) (inner := [.int .i64 0, .int .i64 3, .int .i64 50]) (ok := fun _ => True) (okp := fun _ => True) ?hr ?hp (fun _ hk => hk) trivial (Below.refl _ _) (Nat.le_refl _) zdw ?_; (case hd => rfl); (case hg => rfl); (case hr => first | (go_simp; done) | (go_simp; rfl)); (case hp => exact (Reps.one (show Kd.M (Kd.int .i64) _ _ _ 0 [.int .i64 0] from rfl) (Reps.one (show Kd.M (Kd.int .i64) _ _ _ 3 [.int .i64 3] from rfl) (Reps.one (show Kd.M (Kd.int .i64) _ _ _ 50 [.int .i64 50] from rfl) (Reps.none _ _)))))
  intro v453 w78 ho79 hb hg_ hnew_
  clear hg_ hnew_
  (first | rw [← Ny452.out] at ho79 | (simp only [Int.reduceToNat] at ho79; rw [← Ny452.out] at ho79))
  replace HO421 := Aside0.mk (Kd.S_elder' zay (Kd.R_base ho79) hb)
  replace HO429 := Aside0.mk (Kd.S_elder' zbl (Kd.R_base ho79) hb)
  have HO454 := Aside0.mk (Kd.R_lower ho79 (keep_size (w := w) (g := g) (row := none) zg))
  replace BK415 := Aside0.mk (bB BK415.out hb)
  replace BK430 := Aside0.mk (bB BK430.out hb)
  replace HK := Aside0.mk (KeepBut.trans zg (KeepBut.of_below hb g none) (.inl rfl))
  replace HB := Aside0.mk (below_step zm hb)
  replace HI0 := Aside0.mk (IsS102.below ze hb)
  clear hb ho79
  obtain ⟨Ao80, co80, eo80⟩ := Kd.R_slice HO454.out
  (first | subst eo80 | (injection eo80 with f1_ f2_ f3_; have f4_ := f1_.symm; have f5_ := f3_.symm; clear f1_ f2_ f3_; subst f4_; subst f5_))
  refine hK.out _ _ ⟨qx BK430 0, qx BK430 1, qx BK430 2, qx BK430 3⟩ (fun hHeld => ?_)
  clear hK K
  refine qr (some 37) ?_
  refine qs 4 (some 38) (bz 13 63) HT_ rfl rfl (fun K hK => ?_)
  refine goes_ Try.func71 za5 rfl #[.pointer (some ⟨g, 0, none⟩), .slice Ao80 y452.length co80] zdy rfl rfl zv ?_
  with_reducible refine (spec_l01PickInt.calls g s0_0 t432 t433 _ _ y452 t455 t456 t457 w0 _ ?side1 ?side2 ?side3 ?side4 ?side5 A64.out).mono ?_
  (case side1 => exact ze)
  (case side2 => exact zm)
  (case side3 => exact (by repeat (first | exact (Kd.R_reads' HO454.out).2.2 | (with_reducible refine Kd.C_alloc ?_ _) | (with_reducible refine Kd.C_drewN ?_ _) | (with_reducible refine Kd.C_drew ?_))))
  (case side4 => exact (Kd.R_reads' HO454.out).2.1)
  (case side5 => exact far_slice (IsS102.own_ne HI0.out HO454.out zbf))
  rintro e w81 ⟨rfl, hi, hb, hk⟩
  refine ⟨_, rfl, ?_⟩
  replace BK415 := Aside0.mk (KeepBut.blk hk (bP BK415.out) NB415_0.out zdw)
  replace HO421 := Aside0.mk (Kd.S_mono (Kd.S_keep (IsS102.apartS (show IsS102 w0 _ g s0_0 t432 t433 from by repeat (first | (with_reducible first | exact HI0.out | apply IsS102.alloc | apply IsS102.drewN | apply IsS102.drew | apply IsS102.set_1 | apply IsS102.set_2 | apply IsS102.far (hne := NB0_415.out) | apply IsS102.far (hne := NB0_430.out)) | apply IsS102.far (hne := NB0_415.out) | apply IsS102.far (hne := NB0_430.out) | exact HI0.out)) zay zbf) hk (fun _ h => h.2)) (fun _ h => h.1))
  replace HO429 := Aside0.mk (Kd.S_mono (Kd.S_keep (IsS102.apartS (show IsS102 w0 _ g s0_0 t432 t433 from by repeat (first | (with_reducible first | exact HI0.out | apply IsS102.alloc | apply IsS102.drewN | apply IsS102.drew | apply IsS102.set_1 | apply IsS102.set_2 | apply IsS102.far (hne := NB0_415.out) | apply IsS102.far (hne := NB0_430.out)) | apply IsS102.far (hne := NB0_415.out) | apply IsS102.far (hne := NB0_430.out) | exact HI0.out)) zbl zbf) hk (fun _ h => h.2)) (fun _ h => h.1))
  replace BK430 := Aside0.mk (KeepBut.blk hk (bP BK430.out) NB430_0.out zdw)
  replace HO454 := Aside0.mk (Kd.R_mono (Kd.R_keep (IsS102.apart (show IsS102 w0 _ g s0_0 t432 t433 from by repeat (first | (with_reducible first | exact HI0.out | apply IsS102.alloc | apply IsS102.drewN | apply IsS102.drew | apply IsS102.set_1 | apply IsS102.set_2 | apply IsS102.far (hne := NB0_415.out) | apply IsS102.far (hne := NB0_430.out)) | apply IsS102.far (hne := NB0_415.out) | apply IsS102.far (hne := NB0_430.out) | exact HI0.out)) zc4 zbf) hk (fun _ h => h.2)) (fun _ h => h.1))
  replace HK := Aside0.mk (KeepBut.trans zg hk (.inl rfl))
  replace HB := Aside0.mk (hb)
  replace HI0 := Aside0.mk (hi)
  try clear hb hk hi
  refine hK.out _ _ ⟨qx BK430 0, qx BK430 1, qx BK430 2, qx BK430 3⟩ (fun hHeld => ?_)
  clear hK K
  refine qr (some 38) ?_
  refine qs 6 (some 40) (bz 13 127) HT_ rfl rfl (fun K hK => ?_)
  refine goes_ Try.func53 za5 rfl #[.pointer (some ⟨g, 0, none⟩), .int .i64 9] zdy rfl rfl zv ?_
  with_reducible refine (spec_l01Below.calls g s0_0 t456 t457 9 t458 t459 t460 w0 _ ?side1 ?side2 A65.out).mono ?_
  (case side1 => exact ze)
  (case side2 => exact zm)
  rintro e w82 ⟨rfl, hi, hb, hk⟩
  refine ⟨_, rfl, ?_⟩
  replace BK415 := Aside0.mk (KeepBut.blk hk (bP BK415.out) NB415_0.out zdw)
  replace HO421 := Aside0.mk (Kd.S_mono (Kd.S_keep (IsS102.apartS (show IsS102 w0 _ g s0_0 t456 t457 from by repeat (first | (with_reducible first | exact HI0.out | apply IsS102.alloc | apply IsS102.drewN | apply IsS102.drew | apply IsS102.set_1 | apply IsS102.set_2 | apply IsS102.far (hne := NB0_415.out) | apply IsS102.far (hne := NB0_430.out)) | apply IsS102.far (hne := NB0_415.out) | apply IsS102.far (hne := NB0_430.out) | exact HI0.out)) zay zbf) hk (fun _ h => h.2)) (fun _ h => h.1))
  replace HO429 := Aside0.mk (Kd.S_mono (Kd.S_keep (IsS102.apartS (show IsS102 w0 _ g s0_0 t456 t457 from by repeat (first | (with_reducible first | exact HI0.out | apply IsS102.alloc | apply IsS102.drewN | apply IsS102.drew | apply IsS102.set_1 | apply IsS102.set_2 | apply IsS102.far (hne := NB0_415.out) | apply IsS102.far (hne := NB0_430.out)) | apply IsS102.far (hne := NB0_415.out) | apply IsS102.far (hne := NB0_430.out) | exact HI0.out)) zbl zbf) hk (fun _ h => h.2)) (fun _ h => h.1))
  replace BK430 := Aside0.mk (KeepBut.blk hk (bP BK430.out) NB430_0.out zdw)
  replace HO454 := Aside0.mk (Kd.R_mono (Kd.R_keep (IsS102.apart (show IsS102 w0 _ g s0_0 t456 t457 from by repeat (first | (with_reducible first | exact HI0.out | apply IsS102.alloc | apply IsS102.drewN | apply IsS102.drew | apply IsS102.set_1 | apply IsS102.set_2 | apply IsS102.far (hne := NB0_415.out) | apply IsS102.far (hne := NB0_430.out)) | apply IsS102.far (hne := NB0_415.out) | apply IsS102.far (hne := NB0_430.out) | exact HI0.out)) zc4 zbf) hk (fun _ h => h.2)) (fun _ h => h.1))
  replace HK := Aside0.mk (KeepBut.trans zg hk (.inl rfl))
  replace HB := Aside0.mk (hb)
  replace HI0 := Aside0.mk (hi)
  try clear hb hk hi
  refine hK.out _ _ ⟨qx BK430 0, qx BK430 1, qx BK430 2, qx BK430 3⟩ (fun hHeld => ?_)
  clear hK K
  refine qr (some 40) ?_
  refine qs 7 (some 41) (bz 13 255) HT_ rfl rfl (fun K hK => ?_)
  refine Kd.R_lit_step (Kd.int .i64) _ 3 ?hg (N := 41) ?hd (xs := ([t458] : List Int)) (inner := [.int .i64 t458]) (ok := fun _ => True) (okp := fun _ => True) ?hr ?hp (fun _ hk => hk) trivial (Below.refl _ _) (Nat.le_refl _) zdw ?_; (case hd => rfl); (case hg => rfl); (case hr => first | (go_simp; done) | (go_simp; rfl)); (case hp => exact (Reps.one (show Kd.M (Kd.int .i64) _ _ _ t458 [.int .i64 t458] from rfl) (Reps.none _ _)))
  intro v462 w83 ho84 hb hg_ hnew_
  clear hg_ hnew_
  (first | rw [← Ny461.out] at ho84 | (simp only [Int.reduceToNat] at ho84; rw [← Ny461.out] at ho84))
  replace HO421 := Aside0.mk (Kd.S_elder' zay (Kd.R_base ho84) hb)
  replace HO429 := Aside0.mk (Kd.S_elder' zbl (Kd.R_base ho84) hb)
  have HO463 := Aside0.mk (Kd.R_lower (Kd.R_new' ho84 (Kd.R_lt zc4)) (keep_size (w := w) (g := g) (row := none) zg))
  replace HO454 := Aside0.mk (Kd.R_elder' zc4 (Kd.R_base ho84) hb)
  replace BK415 := Aside0.mk (bB BK415.out hb)
  replace BK430 := Aside0.mk (bB BK430.out hb)
  replace HK := Aside0.mk (KeepBut.trans zg (KeepBut.of_below hb g none) (.inl rfl))
  replace HB := Aside0.mk (below_step zm hb)
  replace HI0 := Aside0.mk (IsS102.below ze hb)
  clear hb ho84
  obtain ⟨Ao85, co85, eo85⟩ := Kd.R_slice HO463.out
  (first | subst eo85 | (injection eo85 with f1_ f2_ f3_; have f4_ := f1_.symm; have f5_ := f3_.symm; clear f1_ f2_ f3_; subst f4_; subst f5_))
  refine hK.out _ _ ⟨qx BK430 0, qx BK430 1, qx BK430 2, qx BK430 3⟩ (fun hHeld => ?_)
  clear hK K
  refine qr (some 41) ?_
  refine ql 8 (some 42) (bz 13 511) HT_ ?_
  refine qs 9 (some 43) (bz 13 1023) HT_ rfl rfl (fun K hK => ?_)
  refine value_ (w1 := ?_) (v := ?_) zdy rfl ?_ ?_
  rotate_left 2
  · go_simp
    constructor
    · rfl
    · rfl
  refine hK.out _ _ ⟨(blk_cell (blk_alloc BK430.out _) 0).trans rfl, (blk_cell (blk_alloc BK430.out _) 1).trans rfl, (blk_cell (blk_alloc BK430.out _) 2).trans rfl, (blk_cell (blk_alloc BK430.out _) 3).trans rfl⟩ (fun hHeld => ?_)
  clear hK K
  refine qr (some 43) ?_
  refine qs 10 (some 44) (bz 13 2047) HT_ rfl rfl (fun K hK => ?_)
  refine Kd.S_append_step k60 w.heap.size zdy (.tmp 35) (.tmp 43) 22 60 (.agg #[(.int .i64 0), (.slice none 0 0)]) 32 rfl Try.underlying22 info60 rfl zbf zd4 (.slice Ao15 t427.length co15) t427 (⟨t455, y461⟩ : S60) [.int .i64 t455, .slice Ao85 y461.length co85] (fun k_ => some k_ ≠ (.slice Ao9 t419.length co9 : Value).ownBlock ∧ some k_ ≠ (.slice Ao80 y452.length co80 : Value).ownBlock) (fun k_ => some k_ = (.slice Ao85 y461.length co85 : Value).ownBlock) rfl rfl ?aP (fun k_ hk_ => ((Kd.R_mono (ok' := fun k_ => ((fun k_ => some k_ ≠ (.slice Ao9 t419.length co9 : Value).ownBlock ∧ some k_ ≠ (.slice Ao80 y452.length co80 : Value).ownBlock)) k_ ∧ some k_ ≠ (.slice Ao15 t427.length co15 : Value).ownBlock) (Kd.R_apart' (Kd.R_apart' (HO463.out) (Kd.S_typed HO421.out) zbf) (Kd.S_typed HO429.out) zbf) (fun k_ hk => ⟨⟨hk.1.2, hk.1.1.2⟩, hk.2⟩))).1 k_ hk_.symm) ?aF ?aO (Below.refl _ _) ?aS ?aL ?_
  (case aP => exact k60_mkM _ _ _ (⟨t455, y461⟩ : S60) (Kd.R_mono (Kd.R_tight rfl (Kd.R_mono (ok' := fun k_ => ((fun k_ => some k_ ≠ (.slice Ao9 t419.length co9 : Value).ownBlock ∧ some k_ ≠ (.slice Ao80 y452.length co80 : Value).ownBlock)) k_ ∧ some k_ ≠ (.slice Ao15 t427.length co15 : Value).ownBlock) (Kd.R_apart' (Kd.R_apart' (HO463.out) (Kd.S_typed HO421.out) zbf) (Kd.S_typed HO429.out) zbf) (fun k_ hk => ⟨⟨hk.1.2, hk.1.1.2⟩, hk.2⟩))) (fun _ h_ => h_)))
  (case aF => exact (fun k_ hk => ⟨Kd.fresh' (Kd.S_lt zay) k_ hk, Kd.fresh' (Kd.R_lt zc4) k_ hk⟩))
  (case aO => exact (by (with_reducible repeat (first | apply Kd.S_alloc | apply Kd.S_drewN | apply Kd.S_drew)); exact Kd.S_mono HO429.out (fun k_ hk => ⟨⟨hk.1.1.2, hk.1.2⟩, fun e_ => hk.2 e_⟩)))
  (case aS => exact (keep_size (w := w) (g := g) (row := none) zg))
  (case aL => have := LMc66.out; omega)
  intro v465 w86 ho hb hg hat
  rw [← Ny464.out] at ho
  replace BK415 := Aside0.mk (blk_grown (bP BK415.out) hg (Kd.S_ne HO429.out BK415.out zbf))
  replace BK430 := Aside0.mk (blk_grown (bP BK430.out) hg (Kd.S_ne HO429.out BK430.out zbf))
  replace HB := Aside0.mk (below_weaken zm HL.out hb)
  replace HI0 := Aside0.mk (IsS102.grown ze hg (IsS102.own_neS HI0.out HO429.out zbf))
  replace HK := Aside0.mk (KeepBut.trans zg (KeepBut.of_grown hg g) (Kd.S_base2 HO429.out))
  have HO466 := Aside0.mk (ho)
  clear HO429 HO463
  clear ho hb hg hat
  obtain ⟨Ao87, co87, eo87⟩ := Kd.S_slice HO466.out
  (first | subst eo87 | (injection eo87 with f1_ f2_ f3_; have f4_ := f1_.symm; have f5_ := f3_.symm; clear f1_ f2_ f3_; subst f4_; subst f5_))
  refine hK.out _ _ ⟨qx BK430 0, qx BK430 1, qx BK430 2, qx BK430 3⟩ (fun hHeld => ?_)
  clear hK K
  refine qr (some 44) ?_
  refine ql 11 (some 45) (bz 13 4095) HT_ ?_
  refine last_ (i := 12) (N := none) (bz 13 8191) rfl rfl (one_of HT_.out za5) zbf (fun K hK => ?_)
  have hs88 : w86.cell? ⟨gb430, 3, none⟩ = some (.slice Ao15 t427.length co15) := qx BK430 3
  have hfs88 := blk_frozen BK430.out 3
  have hns88_0 := NB415_430.out
  have hms88_0 := NB430_415.out
  refine skip_ (w1 := ?_) zdy rfl ?_ ?_
  rotate_left
  · go_simp
    rfl
  refine hK.out _ _ ?_
  clear hK K
  refine qu HT_ ?_
  obtain ⟨_, _, _, _, _, _, _, _⟩ := qk4 BK430.out
  have hnb90 := NB415_0.out
  have hnc90 := NB0_415.out
  obtain ⟨_, _, _, _, _, _, _, _⟩ := qk4 BK415.out
  try go_wp2
  refine bodyPost_ret (results_cell_row rfl _ _ gb415 24 #[.int .i64 t424, .int .i64 t425, .int .i64 t426, .slice Ao87 y464.length co87] (0, 0) _ rfl (p4 (blk_far BK415.out NB415_430.out _)) Try.underlying24 rfl za5) rfl ?_
  exact ⟨_, zc, Kd.S_mono (sK2 HO466.out BK430.out BK415.out) (fun _ _ => trivial), ze, zm, zg⟩
/-! ### spec_l01Once: function 52 -/
def spec_l01Once.f (s0_0 : List Int) (s0_1 : Int) (s0_2 : Int) (a1 : Int) : Option (Bool × Int × Int) := (spec_l01Below.f s0_0 s0_1 s0_2 a1).bind fun bt415 => (some ((bt415.1 == 0), bt415.2.1, bt415.2.2))
set_option maxHeartbeats 8000000 in
set_option maxRecDepth 100000 in
theorem spec_l01Once.calls (g : Nat) (s0_0 : List Int) (s0_1 : Int) (s0_2 : Int) (a1 : Int) (r1 : Bool) (r2 : Int) (r3 : Int) (w0 w : World) (hI : IsS102 w0 w g s0_0 s0_1 s0_2) (hB : Below w0.heap.size w0 w) (h : spec_l01Once.f s0_0 s0_1 s0_2 a1 = some (r1, r2, r3)) :
    Calls Try.prog 52 #[.pointer (some ⟨g, 0, none⟩), .int .i64 a1] w fun e w' => e = .returned (.bool r1) ∧ IsS102 w0 w' g s0_0 r2 r3 ∧ Below w0.heap.size w0 w' ∧ KeepBut w w' g none := by
  have HI0 := Aside0.mk hI
  have HK := Aside0.mk (KeepBut.refl w g none)
  clear hI
  have HB := Aside0.mk hB
  clear hB
  unfold spec_l01Once.f at h
  have H := h
  clear h
  replace H := qi H
  obtain ⟨⟨t415, t416, t417⟩, A3, H⟩ := H
  dsimp only at H
  simp only [Option.some.injEq, Prod.mk.injEq] at H
  obtain ⟨rfl, rfl, rfl⟩ := H
  go_enter Try.func52, Try.ntmps52
  go_wp2_with (first | ((with_reducible refine gate_callee (f := 53) rfl ?_); refine qG (some 7) Try.func53 #[.pointer (some ⟨g, 0, none⟩), .int .i64 a1] ?_; (with_reducible refine (spec_l01Below.calls g s0_0 s0_1 s0_2 a1 t415 t416 t417 w0 _ ?side1 ?side2 A3.out).mono ?_); (case side1 => exact z2); (case side2 => exact z3); rintro e w4 ⟨rfl, hi, hb, hk⟩; refine ⟨_, rfl, ?_⟩; replace HK := Aside0.mk (KeepBut.trans zn hk (.inl rfl)); replace HB := Aside0.mk (hb); replace HI0 := Aside0.mk (hi); try clear hb hk hi))
  go_ret
  exact ⟨zc, z2, z3, zn⟩

end Go.Proofs.Yteokilffbcbllaa.VFnBest
