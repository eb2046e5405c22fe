-- Written by a program of this repo (wip/myprint.py), over the kit's print; functions that the print does not take stand in it by hand-proved contracts.
import Derived.Test.YteokilffbcbllaaVFnBestx0
import Derived.Test.YteokilffbcbllaaVFnBestx4
import Derived.Test.YteokilffbcbllaaVFnBestx9
import Derived.Test.YteokilffbcbllaaVFnBestx14
import Derived.Test.YteokilffbcbllaaVFnBestx15
import Derived.Test.YteokilffbcbllaaVFnBestx18
import Derived.Test.YteokilffbcbllaaVFnBestx20
import Derived.Test.YteokilffbcbllaaVFnBestx21
namespace Go.Proofs.Yteokilffbcbllaa.VFnBest
open Go.RowKit Go.Proofs.YteokilffbcbllaaW.PrintWords Go.Proofs.YteokilffbcbllaaW.PrintLast Go.Proofs.YteokilffbcbllaaW.PrintMore
attribute [local go_sem] max2_int min2_int max_two min_two max_three min_three max_four min_four   -- for this text's walks alone
attribute [local go_sem high] str_leq str_gtr str_geq str_lss
set_option linter.unusedVariables false
set_option linter.unusedSimpArgs false

/-! ### laws_FnBest: function 5 -/
def laws_FnBest.f (k : Nat) (l0 : List Int) : Option (Bool) := (laws_big.f l0).bind fun t476 => (if t476 = true then (some true) else ((spec_DrawMeta.f k l0).bind fun bt477 => ((spec_DiskNew.f 40).bind fun bt484 => ((spec_MetaText.f k bt477.1 bt477.2.1 bt477.2.2.1 bt477.2.2.2).bind fun bt492 => ((spec_MetaText.f k (wrap64 (bt477.1 + 1)) bt477.2.1 bt477.2.2.1 bt477.2.2.2).bind fun bt495 => ((impl_MetaPage.f bt477.1).bind fun t497 => ((spec_WritePage.f k bt484.1 bt484.2.1 t497 bt492.1).bind fun bt498 => ((impl_BestMeta.f k bt498.1 bt498.2.1).bind fun bt505 => ((impl_MetaPage.f (wrap64 (bt477.1 + 1))).bind fun t513 => ((spec_WritePage.f k bt498.1 bt498.2.1 t513 bt495.1).bind fun bt514 => ((impl_BestMeta.f k bt514.1 bt514.2.1).bind fun bt521 => ((impl_MetaPage.f (wrap64 (bt477.1 + 1))).bind fun t529 => ((spec_WritePage.f k bt514.1 bt514.2.1 t529 (⟨#[120]⟩ : ByteArray)).bind fun bt530 => ((impl_BestMeta.f k bt530.1 bt530.2.1).bind fun bt538 => ((spec_DrawBestMeta.f k l0).bind fun bt546 => ((impl_BestMeta.f k bt546.1 bt546.2).bind fun bt553 => ((spec_BestMeta.f k bt546.1 bt546.2).bind fun bt561 => (if bt505.2.2.2.2 = true then ((laws_sameMeta.f k bt505.1 bt505.2.1 bt505.2.2.1 bt505.2.2.2.1 bt477.1 bt477.2.1 bt477.2.2.1 bt477.2.2.2).bind fun t569 => (if t569 = true then (if bt521.2.2.2.2 = true then ((laws_sameMeta.f k bt521.1 bt521.2.1 bt521.2.2.1 bt521.2.2.2.1 (wrap64 (bt477.1 + 1)) bt477.2.1 bt477.2.2.1 bt477.2.2.2).bind fun t570 => (if t570 = true then (if bt538.2.2.2.2 = true then ((laws_sameMeta.f k bt538.1 bt538.2.1 bt538.2.2.1 bt538.2.2.2.1 bt477.1 bt477.2.1 bt477.2.2.1 bt477.2.2.2).bind fun t571 => (if t571 = true then (if (bt553.2.2.2.2 == bt561.2.2.2.2) = true then ((laws_sameMeta.f k bt553.1 bt553.2.1 bt553.2.2.1 bt553.2.2.2.1 bt561.1 bt561.2.1 bt561.2.2.1 bt561.2.2.2.1).bind fun t572 => (if t572 = true then ((impl_MetaPage.f 5).bind fun t573 => (if t573 = 1 then ((impl_MetaPage.f 6).bind fun t574 => (some (t574 == 0))) else (none))) else (none))) else (none)) else (none))) else (none)) else (none))) else (none)) else (none))) else (none)))))))))))))))))))
theorem laws_FnBest.mono : ∀ a0 k, LeO (laws_FnBest.f k a0) (laws_FnBest.f (k + 1) a0) := by
  intro a0 k
  unfold laws_FnBest.f
  exact qv
def laws_FnBest.T9 : Bool × List (List Nat × List Nat) := (true, [([], []), ([], []), ([1], [1]), ([2], [2]), ([], []), ([0, 3, 4, 3], [0, 3, 4]), ([5], [5]), ([6], [6]), ([6], [6]), ([7, 5, 0, 1, 2, 3, 4, 5, 6, 7], [7])])
def laws_FnBest.B9 : List Nat := [0, 0, 2, 6, 0, 31, 63, 127, 127, 255]
theorem laws_FnBest.tab9 : rtab .any (opsOf Try.f5 9) = laws_FnBest.T9 := by kernel_rfl
theorem laws_FnBest.bits9 : waitsOk laws_FnBest.T9.2 laws_FnBest.B9 = true := by kernel_rfl
def laws_FnBest.T11 : Bool × List (List Nat × List Nat) := (true, [([], []), ([], []), ([1], [1]), ([2], [2]), ([], []), ([0, 3, 4, 3], [0, 3, 4]), ([5], [5]), ([6], [6]), ([6], [6]), ([7, 5, 0, 1, 2, 3, 4, 5, 6, 7], [7])])
def laws_FnBest.B11 : List Nat := [0, 0, 2, 6, 0, 31, 63, 127, 127, 255]
theorem laws_FnBest.tab11 : rtab .any (opsOf Try.f5 11) = laws_FnBest.T11 := by kernel_rfl
theorem laws_FnBest.bits11 : waitsOk laws_FnBest.T11.2 laws_FnBest.B11 = true := by kernel_rfl
def laws_FnBest.T13 : Bool × List (List Nat × List Nat) := (true, [([], []), ([], []), ([1], [1]), ([2], [2]), ([0, 3, 3], [0, 3]), ([4], [4]), ([5], [5]), ([5], [5]), ([], []), ([8, 6, 4, 0, 1, 2, 3, 4, 5, 6, 8], [6, 8]), ([7, 9, 0, 1, 2, 3, 4, 5, 6, 7, 8, 9], [7])])
def laws_FnBest.B13 : List Nat := [0, 0, 2, 6, 15, 31, 63, 63, 0, 383, 1023]
theorem laws_FnBest.tab13 : rtab .any (opsOf Try.f5 13) = laws_FnBest.T13 := by kernel_rfl
theorem laws_FnBest.bits13 : waitsOk laws_FnBest.T13.2 laws_FnBest.B13 = true := by kernel_rfl
set_option maxHeartbeats 8000000 in
set_option maxRecDepth 100000 in
theorem laws_FnBest.calls (k : Nat) (A0 : Option Addr) (c0 : Nat) (l0 : List Int) (r : Bool) (w : World) (hr0 : Kd.C (Kd.int .u8) w A0 l0.length l0) (hc0 : l0.length ≤ c0) (h : laws_FnBest.f k l0 = some r) :
    Calls Try.prog 5 #[.slice A0 l0.length c0] w fun e w' => e = .returned (.bool r) ∧ Below w.heap.size w w' := by
  have hu24 := Try.underlying24
  have hu38 := Try.underlying38
  have HR0 := Aside0.mk hr0
  have HC0 := Aside0.mk hc0
  clear hr0 hc0
  have HB := Aside0.mk (Below.refl w.heap.size w)
  unfold laws_FnBest.f at h
  have H := h
  clear h
  replace H := qi H
  obtain ⟨t476, A2, H⟩ := H
  by_cases c3 : t476 = true
  case pos =>
    subst c3
    rw [if_pos rfl] at H
    obtain rfl := Option.some.inj H
    go_enter Try.func5, Try.ntmps5
    go_wp2_with (first | ((with_reducible refine gate_callee (f := 17) rfl ?_); refine qG (some 25) Try.func17 #[.slice A0 l0.length c0] ?_; (with_reducible refine (laws_big.calls _ _ l0 true _ ?side1 ?side2 A2.out).mono ?_); (case side1 => exact zct); (case side2 => exact HC0.out); rintro e w' ⟨rfl, ⟨nd, rfl⟩⟩; refine ⟨_, rfl, ?_⟩))
    go_ret
    exact ⟨zc, za⟩
  replace c3 := Bool.eq_false_iff.mpr c3
  subst c3
  rw [if_neg (qj)] at H
  replace H := qi H
  obtain ⟨⟨t477, t478, t479, t480⟩, A4, H⟩ := H
  dsimp only at H
  replace H := qi H
  obtain ⟨⟨t484, t487, t490⟩, A5, H⟩ := H
  dsimp only at H
  replace H := qi H
  obtain ⟨⟨t492, t493⟩, A6, H⟩ := H
  dsimp only at H
  replace H := qi H
  obtain ⟨⟨t495, t496⟩, A7, H⟩ := H
  dsimp only at H
  replace H := qi H
  obtain ⟨t497, A8, H⟩ := H
  replace H := qi H
  obtain ⟨⟨t498, t501, t504⟩, A9, H⟩ := H
  dsimp only at H
  replace H := qi H
  obtain ⟨⟨t505, t506, t507, t508, t511⟩, A10, H⟩ := H
  dsimp only at H
  replace H := qi H
  obtain ⟨t513, A11, H⟩ := H
  replace H := qi H
  obtain ⟨⟨t514, t517, t520⟩, A12, H⟩ := H
  dsimp only at H
  replace H := qi H
  obtain ⟨⟨t521, t522, t523, t524, t527⟩, A13, H⟩ := H
  dsimp only at H
  replace H := qi H
  obtain ⟨t529, A14, H⟩ := H
  replace H := qi H
  obtain ⟨⟨t530, t533, t536⟩, A15, H⟩ := H
  dsimp only at H
  replace H := qi H
  obtain ⟨⟨t538, t539, t540, t541, t544⟩, A16, H⟩ := H
  dsimp only at H
  replace H := qi H
  obtain ⟨⟨t546, t549⟩, A17, H⟩ := H
  dsimp only at H
  replace H := qi H
  obtain ⟨⟨t553, t554, t555, t556, t559⟩, A18, H⟩ := H
  dsimp only at H
  replace H := qi H
  obtain ⟨⟨t561, t562, t563, t564, t567⟩, A19, H⟩ := H
  dsimp only at H
  by_cases c20 : t511 = true
  case neg => replace c20 := Bool.eq_false_iff.mpr c20; subst c20; rw [if_neg (qj)] at H; exact absurd H zdw
  subst c20
  rw [if_pos rfl] at H
  replace H := qi H
  obtain ⟨t569, A21, H⟩ := H
  by_cases c22 : t569 = true
  case neg => replace c22 := Bool.eq_false_iff.mpr c22; subst c22; rw [if_neg (qj)] at H; exact absurd H zdw
  subst c22
  rw [if_pos rfl] at H
  by_cases c23 : t527 = true
  case neg => replace c23 := Bool.eq_false_iff.mpr c23; subst c23; rw [if_neg (qj)] at H; exact absurd H zdw
  subst c23
  rw [if_pos rfl] at H
  replace H := qi H
  obtain ⟨t570, A24, H⟩ := H
  by_cases c25 : t570 = true
  case neg => replace c25 := Bool.eq_false_iff.mpr c25; subst c25; rw [if_neg (qj)] at H; exact absurd H zdw
  subst c25
  rw [if_pos rfl] at H
  by_cases c26 : t544 = true
  case neg => replace c26 := Bool.eq_false_iff.mpr c26; subst c26; rw [if_neg (qj)] at H; exact absurd H zdw
  subst c26
  rw [if_pos rfl] at H
  replace H := qi H
  obtain ⟨t571, A27, H⟩ := H
  by_cases c28 : t571 = true
  case neg => replace c28 := Bool.eq_false_iff.mpr c28; subst c28; rw [if_neg (qj)] at H; exact absurd H zdw
  subst c28
  rw [if_pos rfl] at H
  by_cases c29 : (t559 == t567) = true
  case neg => exact qn c29 H
  rw [if_pos c29] at H
  have c29b0 : (t559 == t567) = true := c29
  (try (have c29b1 : decide (t559 = t567) = true := by simpa using c29))
  (try (have c29b2 : (t559 == t567) = true := by simpa using c29))
  clear c29
  replace H := qi H
  obtain ⟨t572, A30, H⟩ := H
  by_cases c31 : t572 = true
  case neg => replace c31 := Bool.eq_false_iff.mpr c31; subst c31; rw [if_neg (qj)] at H; exact absurd H zdw
  subst c31
  rw [if_pos rfl] at H
  replace H := qi H
  obtain ⟨t573, A32, H⟩ := H
  by_cases c33 : t573 = 1
  case neg => exact qn c33 H
  rw [if_pos c33] at H
  have c33b0 : (t573 == 1) = true := beq_iff_eq.mpr c33
  have c33b1 : (t573 != 1) = false := bne_eq_false_iff_eq.mpr c33
  clear c33
  replace H := qi H
  obtain ⟨t574, A34, H⟩ := H
  obtain rfl := Option.some.inj H
  go_enter Try.func5, Try.ntmps5
  try go_wp2_with (first | ((with_reducible refine gate_callee (f := 17) rfl ?_); refine qG (some 25) Try.func17 #[.slice A0 l0.length c0] ?_; (with_reducible refine (laws_big.calls _ _ l0 false _ ?side1 ?side2 A2.out).mono ?_); (case side1 => exact zct); (case side2 => exact HC0.out); rintro e w' ⟨rfl, ⟨nd, rfl⟩⟩; refine ⟨_, rfl, ?_⟩) | ((with_reducible refine gate_callee (f := 18) rfl ?_); refine qG (some 27) Try.func18 #[.slice A0 l0.length c0] ?_; (with_reducible refine (spec_DrawMeta.calls k _ _ l0 t477 t478 t479 t480 _ ?side1 ?side2 A4.out).mono ?_); (case side1 => exact zct); (case side2 => exact HC0.out); rintro e w35 ⟨v481, rfl, ho0, hb⟩; refine ⟨_, rfl, ?_⟩; have HO482 := Aside0.mk (Kd.S_lower ho0 (below_size za)); replace HB := Aside0.mk (below_step za hb); try clear hb ho0) | ((with_reducible refine gate_dst (N := 3) rfl ?_); refine qB 3 #[.int .i64 0, .int .i64 0, .int .i64 0, .slice none 0 0] 24 ?_; intro gb483 hg w36 hbox hb; replace HO482 := Aside0.mk (Kd.S_below zad hb); have BK483 := Aside0.mk (hbox); have GW483 := Aside0.mk ((zef : w.heap.size ≤ gb483)); have GE483 := GW483; replace HB := Aside0.mk (below_step za hb); clear hb hbox hg; obtain ⟨_, _, _, _, _, _, _, _⟩ := qk4 BK483.out; obtain ⟨Ao38, co38, eo38⟩ := Kd.S_slice HO482.out; subst eo38) | ((with_reducible refine gate_callee (f := 19) rfl ?_); refine qG (some 29) Try.func19 #[.int .i64 40] ?_; (with_reducible refine (spec_DiskNew.calls 40 t484 t487 t490 _ A5.out).mono ?_); rintro e w39 ⟨v485, v488, rfl, ho0, ho1, hb⟩; refine ⟨_, rfl, ?_⟩; replace HO482 := Aside0.mk (Kd.S_below (sK HO482.out BK483.out) hb); have HO486 := Aside0.mk (Kd.R_lower ho0 (below_size zb5)); have HO489 := Aside0.mk (Kd.R_lower ho1 (below_size zb5)); replace BK483 := Aside0.mk (blk_below (g := gb483) (o := .cells #[.int .i64 t477, .int .i64 t478, .int .i64 t479, .slice Ao38 t480.length co38] 24 (0, 0)) (p4 BK483.out) hb); replace HB := Aside0.mk (below_step zb5 hb); try clear hb ho0 ho1) | ((with_reducible refine gate_dst (N := 4) rfl ?_); refine qB 4 #[.slice none 0 0, .slice none 0 0] 38 ?_; intro gb491 hg w40 hbox hb; replace HO482 := Aside0.mk (Kd.S_below zad hb); replace HO486 := Aside0.mk (Kd.R_below zak hb); replace HO489 := Aside0.mk (Kd.R_below zal hb); have BK491 := Aside0.mk (hbox); have GW491 := Aside0.mk ((by rw [hg]; exact (below_size zb5) : w.heap.size ≤ gb491)); have GE491 := GW491; replace HB := Aside0.mk (below_step zb5 hb); have NB483_491 := Aside0.mk ((zdi : gb483 ≠ gb491)); have NB491_483 := Aside0.mk NB483_491.out.symm; replace BK483 := Aside0.mk (bB BK483.out hb); clear hb hbox hg; obtain ⟨Ao41, co41, eo41⟩ := Kd.R_slice HO486.out; subst eo41; have hnb42 := NB491_483.out; have hnc42 := NB483_491.out; obtain ⟨_, _, _, _⟩ := qk2 BK491.out; obtain ⟨Ao44, co44, eo44⟩ := Kd.R_slice HO489.out; subst eo44; obtain ⟨_, _, _, _, _, _, _, _⟩ := qk4 BK483.out) | ((with_reducible refine gate_callee (f := 20) rfl ?_); refine qG (some 34) Try.func20 #[.agg #[.int .i64 t477, .int .i64 t478, .int .i64 t479, .slice Ao38 t480.length co38]] ?_; (with_reducible refine (spec_MetaText.calls k t477 t478 t479 _ _ t480 t492 t493 _ ?side1 ?side2 A6.out).mono ?_); (case side1 => refine (Kd.S_reads' (e := 60) (base := w.heap.size) (ok := fun k_ => True) (n := t480.length) (c := co38) ?_).2.2; exact (sK HO482.out BK491.out)); (case side2 => exact (Kd.S_reads' HO482.out).2.1); rintro e w46 ⟨rfl, hb⟩; refine ⟨_, rfl, ?_⟩; replace HO482 := Aside0.mk (Kd.S_below (sK HO482.out BK491.out) hb); replace HO486 := Aside0.mk (Kd.R_below (rK HO486.out BK491.out) hb); replace HO489 := Aside0.mk (Kd.R_below (rK HO489.out BK491.out) hb); replace BK483 := Aside0.mk (blk_below (bK BK483.out NB483_491.out) hb); replace BK491 := Aside0.mk (blk_below (g := gb491) (o := .cells #[.slice Ao41 t484.length co41, .slice Ao44 t487.length co44] 38 (0, 0)) (p2 BK491.out) hb); replace HB := Aside0.mk (below_step zcu hb); try clear hb; obtain ⟨_, _, _, _, _, _, _, _⟩ := qk4 BK483.out) | ((with_reducible refine gate_dst (N := 8) rfl ?_); refine qB 8 #[.int .i64 0, .int .i64 0, .int .i64 0, .slice none 0 0] 24 ?_; intro gb494 hg w48 hbox hb; replace HO482 := Aside0.mk (Kd.S_below zad hb); replace HO486 := Aside0.mk (Kd.R_below zak hb); replace HO489 := Aside0.mk (Kd.R_below zal hb); have BK494 := Aside0.mk (hbox); have GW494 := Aside0.mk ((by rw [hg]; exact (below_size zcu) : w.heap.size ≤ gb494)); have GE494 := GW494; replace HB := Aside0.mk (below_step zcu hb); have NB483_494 := Aside0.mk ((zdi : gb483 ≠ gb494)); have NB494_483 := Aside0.mk NB483_494.out.symm; replace BK483 := Aside0.mk (bB BK483.out hb); have NB491_494 := Aside0.mk ((zdt : gb491 ≠ gb494)); have NB494_491 := Aside0.mk NB491_494.out.symm; replace BK491 := Aside0.mk (bB BK491.out hb); clear hb hbox hg; have hnb49 := NB494_483.out; have hnc49 := NB483_494.out; have hnb50 := NB494_491.out; have hnc50 := NB491_494.out; obtain ⟨_, _, _, _, _, _, _, _⟩ := qk4 BK494.out; obtain ⟨_, _, _, _, _, _, _, _⟩ := qk4 BK483.out) | ((with_reducible refine gate_callee (f := 20) rfl ?_); refine qG (some 44) Try.func20 #[.agg #[.int .i64 (wrap64 (t477 + 1)), .int .i64 t478, .int .i64 t479, .slice Ao38 t480.length co38]] ?_; (with_reducible refine (spec_MetaText.calls k (wrap64 (t477 + 1)) t478 t479 _ _ t480 t495 t496 _ ?side1 ?side2 A7.out).mono ?_); (case side1 => refine (Kd.S_reads' (e := 60) (base := w.heap.size) (ok := fun k_ => True) (n := t480.length) (c := co38) ?_).2.2; exact (sK HO482.out BK494.out)); (case side2 => exact (Kd.S_reads' HO482.out).2.1); rintro e w53 ⟨rfl, hb⟩; refine ⟨_, rfl, ?_⟩; replace HO482 := Aside0.mk (Kd.S_below (sK HO482.out BK494.out) hb); replace HO486 := Aside0.mk (Kd.R_below (rK HO486.out BK494.out) hb); replace HO489 := Aside0.mk (Kd.R_below (rK HO489.out BK494.out) hb); replace BK483 := Aside0.mk (blk_below (bK BK483.out NB483_494.out) hb); replace BK491 := Aside0.mk (blk_below (bK BK491.out NB491_494.out) hb); replace BK494 := Aside0.mk (blk_below (g := gb494) (o := .cells #[.int .i64 (wrap64 (t477 + 1)), .int .i64 t478, .int .i64 t479, .slice Ao38 t480.length co38] 24 (0, 0)) (by (with_reducible repeat (first | refine blk_drewN ?_ _ | refine blk_drew ?_ | refine blk_alloc ?_ _)); refine blk_put (cs := #[.int .i64 t477, .int .i64 t478, .int .i64 t479, .slice Ao38 t480.length co38]) ?_ 0 _ rfl; (with_reducible repeat (first | refine blk_drewN ?_ _ | refine blk_drew ?_ | refine blk_alloc ?_ _)); refine blk_put (cs := #[.int .i64 t477, .int .i64 t478, .int .i64 t479, .slice none 0 0]) ?_ 3 _ rfl; (with_reducible repeat (first | refine blk_drewN ?_ _ | refine blk_drew ?_ | refine blk_alloc ?_ _)); refine blk_put (cs := #[.int .i64 t477, .int .i64 t478, .int .i64 0, .slice none 0 0]) ?_ 2 _ rfl; (with_reducible repeat (first | refine blk_drewN ?_ _ | refine blk_drew ?_ | refine blk_alloc ?_ _)); refine blk_put (cs := #[.int .i64 t477, .int .i64 0, .int .i64 0, .slice none 0 0]) ?_ 1 _ rfl; (with_reducible repeat (first | refine blk_drewN ?_ _ | refine blk_drew ?_ | refine blk_alloc ?_ _)); refine blk_put (cs := #[.int .i64 0, .int .i64 0, .int .i64 0, .slice none 0 0]) ?_ 0 _ rfl; (with_reducible repeat (first | refine blk_drewN ?_ _ | refine blk_drew ?_ | refine blk_alloc ?_ _)); exact BK494.out) hb); replace HB := Aside0.mk (below_step zam hb); try clear hb))
  replace HO482 := Aside0.mk (Kd.S_drew HO482.out)
  replace HO486 := Aside0.mk (Kd.R_drew HO486.out)
  replace HO489 := Aside0.mk (Kd.R_drew HO489.out)
  replace BK483 := Aside0.mk (blk_drew BK483.out)
  replace BK491 := Aside0.mk (blk_drew BK491.out)
  replace BK494 := Aside0.mk (blk_drew BK494.out)
  replace HB := Aside0.mk (below_drew1 HB.out)
  refine start_ (n := 10) (S := fun w' => w'.cell? ⟨gb491, 0, none⟩ = some (.slice Ao41 t484.length co41) ∧ w'.cell? ⟨gb491, 1, none⟩ = some (.slice Ao44 t487.length co44) ∧ w'.cell? ⟨gb483, 0, none⟩ = some (.int .i64 t477) ∧ w'.cell? ⟨gb483, 1, none⟩ = some (.int .i64 t478) ∧ w'.cell? ⟨gb483, 2, none⟩ = some (.int .i64 t479) ∧ w'.cell? ⟨gb483, 3, none⟩ = some (.slice Ao38 t480.length co38)) (ds := [9]) (bz 10 0) za5 rfl rfl ⟨qx BK491 0, qx BK491 1, qx BK483 0, qx BK483 1, qx BK483 2, qx BK483 3⟩ (fun hHeld => ?_); refine with_tabW laws_FnBest.tab9 laws_FnBest.bits9 (fun HT_ HW_ => ?_)
  generalize w53.drew = w54 at HO482 HO486 HO489 BK483 BK491 BK494 HB hHeld ⊢
  refine ql 1 (some 49) (bz 10 2) HT_ ?_
  refine ql 4 (some 52) (bz 10 18) HT_ ?_
  refine qt 0 (some 48) (bz 10 19) HT_ HW_ hHeld ?_
  refine qt 2 (some 50) (bz 10 23) HT_ HW_ hHeld ?_
  refine qs 3 (some 51) (bz 10 31) HT_ rfl rfl (fun K hK => ?_)
  refine goes_ Try.func22 za5 rfl #[.int .i64 t477] zdy rfl rfl zv ?_
  with_reducible refine (impl_MetaPage.calls t477 t497 _ A8.out).mono ?_
  rintro e w' ⟨rfl, ⟨nd, rfl⟩⟩
  refine ⟨_, rfl, ?_⟩
  refine hK.out _ _ ⟨qx BK491 0, qx BK491 1, qx BK483 0, qx BK483 1, qx BK483 2, qx BK483 3⟩ (fun hHeld => ?_)
  clear hK K
  refine qr (some 51) ?_
  refine qs 5 (some 53) (bz 10 63) HT_ rfl rfl (fun K hK => ?_)
  refine goes_ Try.func21 za5 rfl #[.agg #[.slice Ao41 t484.length co41, .slice Ao44 t487.length co44], .int .i64 t497, .string t492] zdy rfl rfl zv ?_
  with_reducible refine (spec_WritePage.calls k _ _ t484 _ _ t487 t497 t492 t498 t501 t504 _ ?side1 ?side2 ?side3 ?side4 A9.out).mono ?_
  (case side1 => exact (by repeat (first | exact (Kd.R_reads' HO486.out).2.2 | (with_reducible refine Kd.C_alloc ?_ _) | (with_reducible refine Kd.C_drewN ?_ _) | (with_reducible refine Kd.C_drew ?_))))
  (case side2 => exact (Kd.R_reads' HO486.out).2.1)
  (case side3 => exact (by repeat (first | exact (Kd.R_reads' HO489.out).2.2 | (with_reducible refine Kd.C_alloc ?_ _) | (with_reducible refine Kd.C_drewN ?_ _) | (with_reducible refine Kd.C_drew ?_))))
  (case side4 => exact (Kd.R_reads' HO489.out).2.1)
  rintro e w55 ⟨v499, v502, rfl, ho0, ho1, hb⟩
  refine ⟨_, rfl, ?_⟩
  replace HO482 := Aside0.mk (Kd.S_below zad hb)
  have HO500 := Aside0.mk (Kd.R_lower (Kd.R_new' ho0 (Kd.R_lt zak)) (below_size zam))
  replace HO486 := Aside0.mk (Kd.R_elder' zak (Kd.R_base ho0) hb)
  have HO503 := Aside0.mk (Kd.R_lower (Kd.R_new' ho1 (Kd.R_lt zal)) (below_size zam))
  replace HO489 := Aside0.mk (Kd.R_elder' zal (Kd.R_base ho1) hb)
  replace BK483 := Aside0.mk (bB BK483.out hb)
  replace BK491 := Aside0.mk (bB BK491.out hb)
  replace BK494 := Aside0.mk (bB BK494.out hb)
  replace HB := Aside0.mk (below_step zam hb)
  try clear hb ho0 ho1
  obtain ⟨Ao56, co56, eo56⟩ := Kd.R_slice HO500.out
  (first | subst eo56 | (injection eo56 with f1_ f2_ f3_; have f4_ := f1_.symm; have f5_ := f3_.symm; clear f1_ f2_ f3_; subst f4_; subst f5_))
  obtain ⟨Ao58, co58, eo58⟩ := Kd.R_slice HO503.out
  (first | subst eo58 | (injection eo58 with f1_ f2_ f3_; have f4_ := f1_.symm; have f5_ := f3_.symm; clear f1_ f2_ f3_; subst f4_; subst f5_))
  refine hK.out _ _ ⟨qx BK491 0, qx BK491 1, qx BK483 0, qx BK483 1, qx BK483 2, qx BK483 3⟩ (fun hHeld => ?_)
  clear hK K
  refine qr (some 53) ?_
  refine ql 6 (some 47) (bz 10 127) HT_ ?_
  refine ql 7 (some 54) (bz 10 255) HT_ ?_
  refine ql 8 (some 55) (bz 10 511) HT_ ?_
  refine last_ (i := 9) (N := none) (bz 10 1023) rfl rfl (one_of HT_.out za5) zbf (fun K hK => ?_)
  have hs57 : w55.cell? ⟨gb491, 0, none⟩ = some (.slice Ao41 t484.length co41) := qx BK491 0
  have hfs57 := blk_frozen BK491.out 0
  have hns57_0 := NB483_491.out
  have hns57_2 := NB494_491.out
  have hms57_0 := NB491_483.out
  have hms57_2 := NB491_494.out
  have hs59 : w55.cell? ⟨gb491, 1, none⟩ = some (.slice Ao44 t487.length co44) := qx BK491 1
  have hfs59 := blk_frozen BK491.out 1
  have hns59_0 := NB483_491.out
  have hns59_2 := NB494_491.out
  have hms59_0 := NB491_483.out
  have hms59_2 := NB491_494.out
  refine skip_ (w1 := ?_) zdy rfl ?_ ?_
  rotate_left
  · go_simp
    rfl
  refine hK.out _ _ ?_
  clear hK K
  refine qu HT_ ?_
  obtain ⟨_, _, _, _⟩ := qk2 BK491.out
  try go_wp2_with (first | ((with_reducible refine gate_callee (f := 14) rfl ?_); refine qG (some 58) Try.func14 #[.agg #[.slice Ao56 t498.length co56, .slice Ao58 t501.length co58]] ?_; (with_reducible refine (impl_BestMeta.calls k _ _ t498 _ _ t501 t505 t506 t507 t508 true _ ?side1 ?side2 ?side3 ?side4 A10.out).mono ?_); (case side1 => refine (Kd.R_reads' (e := 9) (base := w.heap.size) (ok := fun k_ => (True ∧ some k_ ≠ (.slice Ao41 t484.length co41 : Value).ownBlock)) (n := t498.length) (c := co56) ?_).2.2; exact (rK HO500.out BK491.out)); (case side2 => exact (Kd.R_reads' HO500.out).2.1); (case side3 => refine (Kd.R_reads' (e := 83) (base := w.heap.size) (ok := fun k_ => (True ∧ some k_ ≠ (.slice Ao44 t487.length co44 : Value).ownBlock)) (n := t501.length) (c := co58) ?_).2.2; exact (rK HO503.out BK491.out)); (case side4 => exact (Kd.R_reads' HO503.out).2.1); rintro e w61 ⟨v509, rfl, ho0, hb⟩; refine ⟨_, rfl, ?_⟩; replace HO486 := Aside0.mk (Kd.R_below (rK HO486.out BK491.out) hb); replace HO489 := Aside0.mk (Kd.R_below (rK HO489.out BK491.out) hb); replace HO500 := Aside0.mk (Kd.R_below (rK HO500.out BK491.out) hb); replace HO503 := Aside0.mk (Kd.R_below (rK HO503.out BK491.out) hb); have HO510 := Aside0.mk (Kd.S_lower (Kd.S_new' ho0 (Kd.S_lt (sK HO482.out BK491.out))) (below_size zam)); replace HO482 := Aside0.mk (Kd.S_elder' (sK HO482.out BK491.out) (Kd.S_base ho0) hb); replace BK483 := Aside0.mk (blk_below (bK BK483.out NB483_491.out) hb); replace BK491 := Aside0.mk (blk_below (g := gb491) (o := .cells #[.slice Ao56 t498.length co56, .slice Ao58 t501.length co58] 38 (0, 0)) (p2 BK491.out) hb); replace BK494 := Aside0.mk (blk_below (bK BK494.out NB494_491.out) hb); replace HB := Aside0.mk (below_step zam hb); try clear hb ho0) | ((with_reducible refine gate_dst (N := 11) rfl ?_); refine qB 11 #[.int .i64 0, .int .i64 0, .int .i64 0, .slice none 0 0] 24 ?_; intro gb512 hg w62 hbox hb; replace HO482 := Aside0.mk (Kd.S_below zad hb); replace HO486 := Aside0.mk (Kd.R_below zak hb); replace HO489 := Aside0.mk (Kd.R_below zal hb); replace HO500 := Aside0.mk (Kd.R_below zaz hb); replace HO503 := Aside0.mk (Kd.R_below za0 hb); replace HO510 := Aside0.mk (Kd.S_below zar hb); have BK512 := Aside0.mk (hbox); have GW512 := Aside0.mk ((by rw [hg]; exact (below_size zam) : w.heap.size ≤ gb512)); have GE512 := GW512; replace HB := Aside0.mk (below_step zam hb); have NB483_512 := Aside0.mk ((zdi : gb483 ≠ gb512)); have NB512_483 := Aside0.mk NB483_512.out.symm; replace BK483 := Aside0.mk (bB BK483.out hb); have NB491_512 := Aside0.mk ((zdt : gb491 ≠ gb512)); have NB512_491 := Aside0.mk NB491_512.out.symm; replace BK491 := Aside0.mk (bB BK491.out hb); have NB494_512 := Aside0.mk ((zdx : gb494 ≠ gb512)); have NB512_494 := Aside0.mk NB494_512.out.symm; replace BK494 := Aside0.mk (bB BK494.out hb); clear hb hbox hg; have hnb63 := NB512_483.out; have hnc63 := NB483_512.out; have hnb64 := NB512_491.out; have hnc64 := NB491_512.out; have hnb65 := NB512_494.out; have hnc65 := NB494_512.out; obtain ⟨_, _, _, _, _, _, _, _⟩ := qk4 BK512.out; obtain ⟨Ao67, co67, eo67⟩ := Kd.S_slice HO510.out; subst eo67))
  have n0_ : Aside0 (Kd.S k60 60 ((((w62.setCell ⟨gb512, 0, none⟩ (.int .i64 t505)).setCell ⟨gb512, 1, none⟩ (.int .i64 t506)).setCell ⟨gb512, 2, none⟩ (.int .i64 t507)).setCell ⟨gb512, 3, none⟩ (.slice Ao67 t508.length co67)) w.heap.size (fun k_ => some k_ ≠ (.slice Ao67 t508.length co67 : Value).ownBlock) (.slice Ao38 t480.length co38) t480) := ⟨by (with_reducible repeat (first | apply Kd.S_alloc | apply Kd.S_drewN | apply Kd.S_drew)); exact Kd.S_mono (Kd.S_far (p := ⟨gb512, 3, none⟩) (Kd.S_far (p := ⟨gb512, 2, none⟩) (Kd.S_far (p := ⟨gb512, 1, none⟩) (Kd.S_far (p := ⟨gb512, 0, none⟩) (Kd.S_types HO482.out BK512.out zbf) (fun _ hk => hk.2) (.int .i64 t505)) (fun _ hk => hk.2) (.int .i64 t506)) (fun _ hk => hk.2) (.int .i64 t507)) (fun _ hk => hk.2) (.slice Ao67 t508.length co67)) (fun _ hk => hk.1.2)⟩
  have n1_ : Aside0 (Kd.R Kd.string 9 ((((w62.setCell ⟨gb512, 0, none⟩ (.int .i64 t505)).setCell ⟨gb512, 1, none⟩ (.int .i64 t506)).setCell ⟨gb512, 2, none⟩ (.int .i64 t507)).setCell ⟨gb512, 3, none⟩ (.slice Ao67 t508.length co67)) w.heap.size (fun k_ => some k_ ≠ (.slice Ao56 t498.length co56 : Value).ownBlock) (.slice Ao41 t484.length co41) t484) := ⟨by (with_reducible repeat (first | apply Kd.R_alloc | apply Kd.R_drewN | apply Kd.R_drew)); exact Kd.R_mono (Kd.R_far (p := ⟨gb512, 3, none⟩) (Kd.R_far (p := ⟨gb512, 2, none⟩) (Kd.R_far (p := ⟨gb512, 1, none⟩) (Kd.R_far (p := ⟨gb512, 0, none⟩) (Kd.R_types HO486.out BK512.out zbf) (fun _ hk => hk.2) (.int .i64 t505)) (fun _ hk => hk.2) (.int .i64 t506)) (fun _ hk => hk.2) (.int .i64 t507)) (fun _ hk => hk.2) (.slice Ao67 t508.length co67)) (fun _ hk => hk.1.2)⟩
  have n2_ : Aside0 (Kd.R k83 83 ((((w62.setCell ⟨gb512, 0, none⟩ (.int .i64 t505)).setCell ⟨gb512, 1, none⟩ (.int .i64 t506)).setCell ⟨gb512, 2, none⟩ (.int .i64 t507)).setCell ⟨gb512, 3, none⟩ (.slice Ao67 t508.length co67)) w.heap.size (fun k_ => some k_ ≠ (.slice Ao58 t501.length co58 : Value).ownBlock) (.slice Ao44 t487.length co44) t487) := ⟨by (with_reducible repeat (first | apply Kd.R_alloc | apply Kd.R_drewN | apply Kd.R_drew)); exact Kd.R_mono (Kd.R_far (p := ⟨gb512, 3, none⟩) (Kd.R_far (p := ⟨gb512, 2, none⟩) (Kd.R_far (p := ⟨gb512, 1, none⟩) (Kd.R_far (p := ⟨gb512, 0, none⟩) (Kd.R_types HO489.out BK512.out zbf) (fun _ hk => hk.2) (.int .i64 t505)) (fun _ hk => hk.2) (.int .i64 t506)) (fun _ hk => hk.2) (.int .i64 t507)) (fun _ hk => hk.2) (.slice Ao67 t508.length co67)) (fun _ hk => hk.1.2)⟩
  have n3_ : Aside0 (Kd.R Kd.string 9 ((((w62.setCell ⟨gb512, 0, none⟩ (.int .i64 t505)).setCell ⟨gb512, 1, none⟩ (.int .i64 t506)).setCell ⟨gb512, 2, none⟩ (.int .i64 t507)).setCell ⟨gb512, 3, none⟩ (.slice Ao67 t508.length co67)) w.heap.size (fun k_ => some k_ ≠ (.slice Ao41 t484.length co41 : Value).ownBlock) (.slice Ao56 t498.length co56) t498) := ⟨by (with_reducible repeat (first | apply Kd.R_alloc | apply Kd.R_drewN | apply Kd.R_drew)); exact Kd.R_mono (Kd.R_far (p := ⟨gb512, 3, none⟩) (Kd.R_far (p := ⟨gb512, 2, none⟩) (Kd.R_far (p := ⟨gb512, 1, none⟩) (Kd.R_far (p := ⟨gb512, 0, none⟩) (Kd.R_types HO500.out BK512.out zbf) (fun _ hk => hk.2) (.int .i64 t505)) (fun _ hk => hk.2) (.int .i64 t506)) (fun _ hk => hk.2) (.int .i64 t507)) (fun _ hk => hk.2) (.slice Ao67 t508.length co67)) (fun _ hk => hk.1.2)⟩
  have n4_ : Aside0 (Kd.R k83 83 ((((w62.setCell ⟨gb512, 0, none⟩ (.int .i64 t505)).setCell ⟨gb512, 1, none⟩ (.int .i64 t506)).setCell ⟨gb512, 2, none⟩ (.int .i64 t507)).setCell ⟨gb512, 3, none⟩ (.slice Ao67 t508.length co67)) w.heap.size (fun k_ => some k_ ≠ (.slice Ao44 t487.length co44 : Value).ownBlock) (.slice Ao58 t501.length co58) t501) := ⟨by (with_reducible repeat (first | apply Kd.R_alloc | apply Kd.R_drewN | apply Kd.R_drew)); exact Kd.R_mono (Kd.R_far (p := ⟨gb512, 3, none⟩) (Kd.R_far (p := ⟨gb512, 2, none⟩) (Kd.R_far (p := ⟨gb512, 1, none⟩) (Kd.R_far (p := ⟨gb512, 0, none⟩) (Kd.R_types HO503.out BK512.out zbf) (fun _ hk => hk.2) (.int .i64 t505)) (fun _ hk => hk.2) (.int .i64 t506)) (fun _ hk => hk.2) (.int .i64 t507)) (fun _ hk => hk.2) (.slice Ao67 t508.length co67)) (fun _ hk => hk.1.2)⟩
  have n5_ : Aside0 (Kd.S k60 60 ((((w62.setCell ⟨gb512, 0, none⟩ (.int .i64 t505)).setCell ⟨gb512, 1, none⟩ (.int .i64 t506)).setCell ⟨gb512, 2, none⟩ (.int .i64 t507)).setCell ⟨gb512, 3, none⟩ (.slice Ao67 t508.length co67)) w.heap.size (fun k_ => some k_ ≠ (.slice Ao38 t480.length co38 : Value).ownBlock) (.slice Ao67 t508.length co67) t508) := ⟨by (with_reducible repeat (first | apply Kd.S_alloc | apply Kd.S_drewN | apply Kd.S_drew)); exact Kd.S_mono (Kd.S_far (p := ⟨gb512, 3, none⟩) (Kd.S_far (p := ⟨gb512, 2, none⟩) (Kd.S_far (p := ⟨gb512, 1, none⟩) (Kd.S_far (p := ⟨gb512, 0, none⟩) (Kd.S_types HO510.out BK512.out zbf) (fun _ hk => hk.2) (.int .i64 t505)) (fun _ hk => hk.2) (.int .i64 t506)) (fun _ hk => hk.2) (.int .i64 t507)) (fun _ hk => hk.2) (.slice Ao67 t508.length co67)) (fun _ hk => hk.1.2)⟩
  have n6_ : Aside0 (((((w62.setCell ⟨gb512, 0, none⟩ (.int .i64 t505)).setCell ⟨gb512, 1, none⟩ (.int .i64 t506)).setCell ⟨gb512, 2, none⟩ (.int .i64 t507)).setCell ⟨gb512, 3, none⟩ (.slice Ao67 t508.length co67)).heap[gb483]? = some (.cells #[.int .i64 t477, .int .i64 t478, .int .i64 t479, .slice Ao38 t480.length co38] 24 (0, 0))) := ⟨by (with_reducible repeat (first | refine blk_drewN ?_ _ | refine blk_drew ?_ | refine blk_alloc ?_ _)); refine blk_far ?_ NB483_512.out _; (with_reducible repeat (first | refine blk_drewN ?_ _ | refine blk_drew ?_ | refine blk_alloc ?_ _)); refine blk_far ?_ NB483_512.out _; (with_reducible repeat (first | refine blk_drewN ?_ _ | refine blk_drew ?_ | refine blk_alloc ?_ _)); refine blk_far ?_ NB483_512.out _; (with_reducible repeat (first | refine blk_drewN ?_ _ | refine blk_drew ?_ | refine blk_alloc ?_ _)); refine blk_far ?_ NB483_512.out _; (with_reducible repeat (first | refine blk_drewN ?_ _ | refine blk_drew ?_ | refine blk_alloc ?_ _)); exact BK483.out⟩
  have n7_ : Aside0 (((((w62.setCell ⟨gb512, 0, none⟩ (.int .i64 t505)).setCell ⟨gb512, 1, none⟩ (.int .i64 t506)).setCell ⟨gb512, 2, none⟩ (.int .i64 t507)).setCell ⟨gb512, 3, none⟩ (.slice Ao67 t508.length co67)).heap[gb491]? = some (.cells #[.slice Ao56 t498.length co56, .slice Ao58 t501.length co58] 38 (0, 0))) := ⟨by (with_reducible repeat (first | refine blk_drewN ?_ _ | refine blk_drew ?_ | refine blk_alloc ?_ _)); refine blk_far ?_ NB491_512.out _; (with_reducible repeat (first | refine blk_drewN ?_ _ | refine blk_drew ?_ | refine blk_alloc ?_ _)); refine blk_far ?_ NB491_512.out _; (with_reducible repeat (first | refine blk_drewN ?_ _ | refine blk_drew ?_ | refine blk_alloc ?_ _)); refine blk_far ?_ NB491_512.out _; (with_reducible repeat (first | refine blk_drewN ?_ _ | refine blk_drew ?_ | refine blk_alloc ?_ _)); refine blk_far ?_ NB491_512.out _; (with_reducible repeat (first | refine blk_drewN ?_ _ | refine blk_drew ?_ | refine blk_alloc ?_ _)); exact BK491.out⟩
  have n8_ : Aside0 (((((w62.setCell ⟨gb512, 0, none⟩ (.int .i64 t505)).setCell ⟨gb512, 1, none⟩ (.int .i64 t506)).setCell ⟨gb512, 2, none⟩ (.int .i64 t507)).setCell ⟨gb512, 3, none⟩ (.slice Ao67 t508.length co67)).heap[gb494]? = some (.cells #[.int .i64 (wrap64 (t477 + 1)), .int .i64 t478, .int .i64 t479, .slice Ao38 t480.length co38] 24 (0, 0))) := ⟨by (with_reducible repeat (first | refine blk_drewN ?_ _ | refine blk_drew ?_ | refine blk_alloc ?_ _)); refine blk_far ?_ NB494_512.out _; (with_reducible repeat (first | refine blk_drewN ?_ _ | refine blk_drew ?_ | refine blk_alloc ?_ _)); refine blk_far ?_ NB494_512.out _; (with_reducible repeat (first | refine blk_drewN ?_ _ | refine blk_drew ?_ | refine blk_alloc ?_ _)); refine blk_far ?_ NB494_512.out _; (with_reducible repeat (first | refine blk_drewN ?_ _ | refine blk_drew ?_ | refine blk_alloc ?_ _)); refine blk_far ?_ NB494_512.out _; (with_reducible repeat (first | refine blk_drewN ?_ _ | refine blk_drew ?_ | refine blk_alloc ?_ _)); exact BK494.out⟩
  have n9_ : Aside0 (((((w62.setCell ⟨gb512, 0, none⟩ (.int .i64 t505)).setCell ⟨gb512, 1, none⟩ (.int .i64 t506)).setCell ⟨gb512, 2, none⟩ (.int .i64 t507)).setCell ⟨gb512, 3, none⟩ (.slice Ao67 t508.length co67)).heap[gb512]? = some (.cells #[.int .i64 t505, .int .i64 t506, .int .i64 t507, .slice Ao67 t508.length co67] 24 (0, 0))) := ⟨by (with_reducible repeat (first | refine blk_drewN ?_ _ | refine blk_drew ?_ | refine blk_alloc ?_ _)); refine blk_put (cs := #[.int .i64 t505, .int .i64 t506, .int .i64 t507, .slice none 0 0]) ?_ 3 _ rfl; (with_reducible repeat (first | refine blk_drewN ?_ _ | refine blk_drew ?_ | refine blk_alloc ?_ _)); refine blk_put (cs := #[.int .i64 t505, .int .i64 t506, .int .i64 0, .slice none 0 0]) ?_ 2 _ rfl; (with_reducible repeat (first | refine blk_drewN ?_ _ | refine blk_drew ?_ | refine blk_alloc ?_ _)); refine blk_put (cs := #[.int .i64 t505, .int .i64 0, .int .i64 0, .slice none 0 0]) ?_ 1 _ rfl; (with_reducible repeat (first | refine blk_drewN ?_ _ | refine blk_drew ?_ | refine blk_alloc ?_ _)); refine blk_put (cs := #[.int .i64 0, .int .i64 0, .int .i64 0, .slice none 0 0]) ?_ 0 _ rfl; (with_reducible repeat (first | refine blk_drewN ?_ _ | refine blk_drew ?_ | refine blk_alloc ?_ _)); exact BK512.out⟩
  have n10_ : Aside0 (Below w.heap.size w ((((w62.setCell ⟨gb512, 0, none⟩ (.int .i64 t505)).setCell ⟨gb512, 1, none⟩ (.int .i64 t506)).setCell ⟨gb512, 2, none⟩ (.int .i64 t507)).setCell ⟨gb512, 3, none⟩ (.slice Ao67 t508.length co67))) := ⟨zaf⟩
  (try clear HO482)
  (try clear HO486)
  (try clear HO489)
  (try clear HO500)
  (try clear HO503)
  (try clear HO510)
  (try clear BK483)
  (try clear BK491)
  (try clear BK494)
  (try clear BK512)
  (try clear HB)
  generalize ((((w62.setCell ⟨gb512, 0, none⟩ (.int .i64 t505)).setCell ⟨gb512, 1, none⟩ (.int .i64 t506)).setCell ⟨gb512, 2, none⟩ (.int .i64 t507)).setCell ⟨gb512, 3, none⟩ (.slice Ao67 t508.length co67)) = w68 at n0_ n1_ n2_ n3_ n4_ n5_ n6_ n7_ n8_ n9_ n10_ ⊢
  have HO482 := n0_
  have HO486 := n1_
  have HO489 := n2_
  have HO500 := n3_
  have HO503 := n4_
  have HO510 := n5_
  have BK483 := n6_
  have BK491 := n7_
  have BK494 := n8_
  have BK512 := n9_
  have HB := n10_
  clear n0_ n1_ n2_ n3_ n4_ n5_ n6_ n7_ n8_ n9_ n10_
  replace HO482 := Aside0.mk (Kd.S_drew HO482.out)
  replace HO486 := Aside0.mk (Kd.R_drew HO486.out)
  replace HO489 := Aside0.mk (Kd.R_drew HO489.out)
  replace HO500 := Aside0.mk (Kd.R_drew HO500.out)
  replace HO503 := Aside0.mk (Kd.R_drew HO503.out)
  replace HO510 := Aside0.mk (Kd.S_drew HO510.out)
  replace BK483 := Aside0.mk (blk_drew BK483.out)
  replace BK491 := Aside0.mk (blk_drew BK491.out)
  replace BK494 := Aside0.mk (blk_drew BK494.out)
  replace BK512 := Aside0.mk (blk_drew BK512.out)
  replace HB := Aside0.mk (below_drew1 HB.out)
  refine start_ (n := 10) (S := fun w' => w'.cell? ⟨gb491, 0, none⟩ = some (.slice Ao56 t498.length co56) ∧ w'.cell? ⟨gb491, 1, none⟩ = some (.slice Ao58 t501.length co58) ∧ w'.cell? ⟨gb494, 0, none⟩ = some (.int .i64 (wrap64 (t477 + 1))) ∧ w'.cell? ⟨gb494, 1, none⟩ = some (.int .i64 t478) ∧ w'.cell? ⟨gb494, 2, none⟩ = some (.int .i64 t479) ∧ w'.cell? ⟨gb494, 3, none⟩ = some (.slice Ao38 t480.length co38)) (ds := [9]) (bz 10 0) za5 rfl rfl ⟨qx BK491 0, qx BK491 1, qx BK494 0, qx BK494 1, qx BK494 2, qx BK494 3⟩ (fun hHeld => ?_); refine with_tabW laws_FnBest.tab11 laws_FnBest.bits11 (fun HT_ HW_ => ?_)
  generalize w68.drew = w69 at HO482 HO486 HO489 HO500 HO503 HO510 BK483 BK491 BK494 BK512 HB hHeld ⊢
  refine ql 1 (some 63) (bz 10 2) HT_ ?_
  refine ql 4 (some 66) (bz 10 18) HT_ ?_
  refine qt 0 (some 62) (bz 10 19) HT_ HW_ hHeld ?_
  refine qt 2 (some 64) (bz 10 23) HT_ HW_ hHeld ?_
  refine qs 3 (some 65) (bz 10 31) HT_ rfl rfl (fun K hK => ?_)
  refine goes_ Try.func22 za5 rfl #[.int .i64 (wrap64 (t477 + 1))] zdy rfl rfl zv ?_
  with_reducible refine (impl_MetaPage.calls (wrap64 (t477 + 1)) t513 _ A11.out).mono ?_
  rintro e w' ⟨rfl, ⟨nd, rfl⟩⟩
  refine ⟨_, rfl, ?_⟩
  refine hK.out _ _ ⟨qx BK491 0, qx BK491 1, qx BK494 0, qx BK494 1, qx BK494 2, qx BK494 3⟩ (fun hHeld => ?_)
  clear hK K
  refine qr (some 65) ?_
  refine qs 5 (some 67) (bz 10 63) HT_ rfl rfl (fun K hK => ?_)
  refine goes_ Try.func21 za5 rfl #[.agg #[.slice Ao56 t498.length co56, .slice Ao58 t501.length co58], .int .i64 t513, .string t495] zdy rfl rfl zv ?_
  with_reducible refine (spec_WritePage.calls k _ _ t498 _ _ t501 t513 t495 t514 t517 t520 _ ?side1 ?side2 ?side3 ?side4 A12.out).mono ?_
  (case side1 => exact (by repeat (first | exact (Kd.R_reads' HO500.out).2.2 | (with_reducible refine Kd.C_alloc ?_ _) | (with_reducible refine Kd.C_drewN ?_ _) | (with_reducible refine Kd.C_drew ?_))))
  (case side2 => exact (Kd.R_reads' HO500.out).2.1)
  (case side3 => exact (by repeat (first | exact (Kd.R_reads' HO503.out).2.2 | (with_reducible refine Kd.C_alloc ?_ _) | (with_reducible refine Kd.C_drewN ?_ _) | (with_reducible refine Kd.C_drew ?_))))
  (case side4 => exact (Kd.R_reads' HO503.out).2.1)
  rintro e w70 ⟨v515, v518, rfl, ho0, ho1, hb⟩
  refine ⟨_, rfl, ?_⟩
  replace HO482 := Aside0.mk (Kd.S_below zad hb)
  replace HO510 := Aside0.mk (Kd.S_below zar hb)
  have HO516 := Aside0.mk (Kd.R_lower (Kd.R_new' (Kd.R_new' ho0 (Kd.R_lt zak)) (Kd.R_lt zaz)) (below_size zaf))
  replace HO486 := Aside0.mk (Kd.R_elder' zak (Kd.R_base ho0) hb)
  replace HO500 := Aside0.mk (Kd.R_elder' zaz (Kd.R_base ho0) hb)
  have HO519 := Aside0.mk (Kd.R_lower (Kd.R_new' (Kd.R_new' ho1 (Kd.R_lt zal)) (Kd.R_lt za0)) (below_size zaf))
  replace HO489 := Aside0.mk (Kd.R_elder' zal (Kd.R_base ho1) hb)
  replace HO503 := Aside0.mk (Kd.R_elder' za0 (Kd.R_base ho1) hb)
  replace BK483 := Aside0.mk (bB BK483.out hb)
  replace BK491 := Aside0.mk (bB BK491.out hb)
  replace BK494 := Aside0.mk (bB BK494.out hb)
  replace BK512 := Aside0.mk (bB BK512.out hb)
  replace HB := Aside0.mk (below_step zaf hb)
  try clear hb ho0 ho1
  obtain ⟨Ao71, co71, eo71⟩ := Kd.R_slice HO516.out
  (first | subst eo71 | (injection eo71 with f1_ f2_ f3_; have f4_ := f1_.symm; have f5_ := f3_.symm; clear f1_ f2_ f3_; subst f4_; subst f5_))
  obtain ⟨Ao73, co73, eo73⟩ := Kd.R_slice HO519.out
  (first | subst eo73 | (injection eo73 with f1_ f2_ f3_; have f4_ := f1_.symm; have f5_ := f3_.symm; clear f1_ f2_ f3_; subst f4_; subst f5_))
  refine hK.out _ _ ⟨qx BK491 0, qx BK491 1, qx BK494 0, qx BK494 1, qx BK494 2, qx BK494 3⟩ (fun hHeld => ?_)
  clear hK K
  refine qr (some 67) ?_
  refine ql 6 (some 61) (bz 10 127) HT_ ?_
  refine ql 7 (some 68) (bz 10 255) HT_ ?_
  refine ql 8 (some 69) (bz 10 511) HT_ ?_
  refine last_ (i := 9) (N := none) (bz 10 1023) rfl rfl (one_of HT_.out za5) zbf (fun K hK => ?_)
  have hs72 : w70.cell? ⟨gb491, 0, none⟩ = some (.slice Ao56 t498.length co56) := qx BK491 0
  have hfs72 := blk_frozen BK491.out 0
  have hns72_0 := NB483_491.out
  have hns72_2 := NB494_491.out
  have hns72_3 := NB512_491.out
  have hms72_0 := NB491_483.out
  have hms72_2 := NB491_494.out
  have hms72_3 := NB491_512.out
  have hs74 : w70.cell? ⟨gb491, 1, none⟩ = some (.slice Ao58 t501.length co58) := qx BK491 1
  have hfs74 := blk_frozen BK491.out 1
  have hns74_0 := NB483_491.out
  have hns74_2 := NB494_491.out
  have hns74_3 := NB512_491.out
  have hms74_0 := NB491_483.out
  have hms74_2 := NB491_494.out
  have hms74_3 := NB491_512.out
  refine skip_ (w1 := ?_) zdy rfl ?_ ?_
  rotate_left
  · go_simp
    rfl
  refine hK.out _ _ ?_
  clear hK K
  refine qu HT_ ?_
  obtain ⟨_, _, _, _⟩ := qk2 BK491.out
  try go_wp2_with (first | ((with_reducible refine gate_callee (f := 14) rfl ?_); refine qG (some 72) Try.func14 #[.agg #[.slice Ao71 t514.length co71, .slice Ao73 t517.length co73]] ?_; (with_reducible refine (impl_BestMeta.calls k _ _ t514 _ _ t517 t521 t522 t523 t524 true _ ?side1 ?side2 ?side3 ?side4 A13.out).mono ?_); (case side1 => refine (Kd.R_reads' (e := 9) (base := w.heap.size) (ok := fun k_ => ((True ∧ some k_ ≠ (.slice Ao41 t484.length co41 : Value).ownBlock) ∧ some k_ ≠ (.slice Ao56 t498.length co56 : Value).ownBlock)) (n := t514.length) (c := co71) ?_).2.2; exact (rK HO516.out BK491.out)); (case side2 => exact (Kd.R_reads' HO516.out).2.1); (case side3 => refine (Kd.R_reads' (e := 83) (base := w.heap.size) (ok := fun k_ => ((True ∧ some k_ ≠ (.slice Ao44 t487.length co44 : Value).ownBlock) ∧ some k_ ≠ (.slice Ao58 t501.length co58 : Value).ownBlock)) (n := t517.length) (c := co73) ?_).2.2; exact (rK HO519.out BK491.out)); (case side4 => exact (Kd.R_reads' HO519.out).2.1); rintro e w76 ⟨v525, rfl, ho0, hb⟩; refine ⟨_, rfl, ?_⟩; replace HO486 := Aside0.mk (Kd.R_below (rK HO486.out BK491.out) hb); replace HO489 := Aside0.mk (Kd.R_below (rK HO489.out BK491.out) hb); replace HO500 := Aside0.mk (Kd.R_below (rK HO500.out BK491.out) hb); replace HO503 := Aside0.mk (Kd.R_below (rK HO503.out BK491.out) hb); replace HO516 := Aside0.mk (Kd.R_below (rK HO516.out BK491.out) hb); replace HO519 := Aside0.mk (Kd.R_below (rK HO519.out BK491.out) hb); have HO526 := Aside0.mk (Kd.S_lower (Kd.S_new' (Kd.S_new' ho0 (Kd.S_lt (sK HO482.out BK491.out))) (Kd.S_lt (sK HO510.out BK491.out))) (below_size zaf)); replace HO482 := Aside0.mk (Kd.S_elder' (sK HO482.out BK491.out) (Kd.S_base ho0) hb); replace HO510 := Aside0.mk (Kd.S_elder' (sK HO510.out BK491.out) (Kd.S_base ho0) hb); replace BK483 := Aside0.mk (blk_below (bK BK483.out NB483_491.out) hb); replace BK491 := Aside0.mk (blk_below (g := gb491) (o := .cells #[.slice Ao71 t514.length co71, .slice Ao73 t517.length co73] 38 (0, 0)) (p2 BK491.out) hb); replace BK494 := Aside0.mk (blk_below (bK BK494.out NB494_491.out) hb); replace BK512 := Aside0.mk (blk_below (bK BK512.out NB512_491.out) hb); replace HB := Aside0.mk (below_step zaf hb); try clear hb ho0) | ((with_reducible refine gate_dst (N := 13) rfl ?_); refine qB 13 #[.int .i64 0, .int .i64 0, .int .i64 0, .slice none 0 0] 24 ?_; intro gb528 hg w77 hbox hb; replace HO482 := Aside0.mk (Kd.S_below zad hb); replace HO486 := Aside0.mk (Kd.R_below zak hb); replace HO489 := Aside0.mk (Kd.R_below zal hb); replace HO500 := Aside0.mk (Kd.R_below zaz hb); replace HO503 := Aside0.mk (Kd.R_below za0 hb); replace HO510 := Aside0.mk (Kd.S_below zar hb); replace HO516 := Aside0.mk (Kd.R_below zbm hb); replace HO519 := Aside0.mk (Kd.R_below zbn hb); replace HO526 := Aside0.mk (Kd.S_below za1 hb); have BK528 := Aside0.mk (hbox); have GW528 := Aside0.mk ((by rw [hg]; exact (below_size zaf) : w.heap.size ≤ gb528)); have GE528 := GW528; replace HB := Aside0.mk (below_step zaf hb); have NB483_528 := Aside0.mk ((zdi : gb483 ≠ gb528)); have NB528_483 := Aside0.mk NB483_528.out.symm; replace BK483 := Aside0.mk (bB BK483.out hb); have NB491_528 := Aside0.mk ((zdt : gb491 ≠ gb528)); have NB528_491 := Aside0.mk NB491_528.out.symm; replace BK491 := Aside0.mk (bB BK491.out hb); have NB494_528 := Aside0.mk ((zdx : gb494 ≠ gb528)); have NB528_494 := Aside0.mk NB494_528.out.symm; replace BK494 := Aside0.mk (bB BK494.out hb); have NB512_528 := Aside0.mk ((zdz : gb512 ≠ gb528)); have NB528_512 := Aside0.mk NB512_528.out.symm; replace BK512 := Aside0.mk (bB BK512.out hb); clear hb hbox hg; have hnb78 := NB528_483.out; have hnc78 := NB483_528.out; have hnb79 := NB528_491.out; have hnc79 := NB491_528.out; have hnb80 := NB528_494.out; have hnc80 := NB494_528.out; have hnb81 := NB528_512.out; have hnc81 := NB512_528.out; obtain ⟨_, _, _, _, _, _, _, _⟩ := qk4 BK528.out; obtain ⟨Ao83, co83, eo83⟩ := Kd.S_slice HO526.out; subst eo83))
  have n0_ : Aside0 (Kd.S k60 60 ((((w77.setCell ⟨gb528, 0, none⟩ (.int .i64 t521)).setCell ⟨gb528, 1, none⟩ (.int .i64 t522)).setCell ⟨gb528, 2, none⟩ (.int .i64 t523)).setCell ⟨gb528, 3, none⟩ (.slice Ao83 t524.length co83)) w.heap.size (fun k_ => some k_ ≠ (.slice Ao67 t508.length co67 : Value).ownBlock ∧ some k_ ≠ (.slice Ao83 t524.length co83 : Value).ownBlock) (.slice Ao38 t480.length co38) t480) := ⟨by (with_reducible repeat (first | apply Kd.S_alloc | apply Kd.S_drewN | apply Kd.S_drew)); exact Kd.S_mono (Kd.S_far (p := ⟨gb528, 3, none⟩) (Kd.S_far (p := ⟨gb528, 2, none⟩) (Kd.S_far (p := ⟨gb528, 1, none⟩) (Kd.S_far (p := ⟨gb528, 0, none⟩) (Kd.S_types HO482.out BK528.out zbf) (fun _ hk => hk.2) (.int .i64 t521)) (fun _ hk => hk.2) (.int .i64 t522)) (fun _ hk => hk.2) (.int .i64 t523)) (fun _ hk => hk.2) (.slice Ao83 t524.length co83)) (fun _ hk => ⟨hk.1.1, hk.1.2⟩)⟩
  have n1_ : Aside0 (Kd.R Kd.string 9 ((((w77.setCell ⟨gb528, 0, none⟩ (.int .i64 t521)).setCell ⟨gb528, 1, none⟩ (.int .i64 t522)).setCell ⟨gb528, 2, none⟩ (.int .i64 t523)).setCell ⟨gb528, 3, none⟩ (.slice Ao83 t524.length co83)) w.heap.size (fun k_ => some k_ ≠ (.slice Ao56 t498.length co56 : Value).ownBlock ∧ some k_ ≠ (.slice Ao71 t514.length co71 : Value).ownBlock) (.slice Ao41 t484.length co41) t484) := ⟨by (with_reducible repeat (first | apply Kd.R_alloc | apply Kd.R_drewN | apply Kd.R_drew)); exact Kd.R_mono (Kd.R_far (p := ⟨gb528, 3, none⟩) (Kd.R_far (p := ⟨gb528, 2, none⟩) (Kd.R_far (p := ⟨gb528, 1, none⟩) (Kd.R_far (p := ⟨gb528, 0, none⟩) (Kd.R_types HO486.out BK528.out zbf) (fun _ hk => hk.2) (.int .i64 t521)) (fun _ hk => hk.2) (.int .i64 t522)) (fun _ hk => hk.2) (.int .i64 t523)) (fun _ hk => hk.2) (.slice Ao83 t524.length co83)) (fun _ hk => ⟨hk.1.1, hk.1.2⟩)⟩
  have n2_ : Aside0 (Kd.R k83 83 ((((w77.setCell ⟨gb528, 0, none⟩ (.int .i64 t521)).setCell ⟨gb528, 1, none⟩ (.int .i64 t522)).setCell ⟨gb528, 2, none⟩ (.int .i64 t523)).setCell ⟨gb528, 3, none⟩ (.slice Ao83 t524.length co83)) w.heap.size (fun k_ => some k_ ≠ (.slice Ao58 t501.length co58 : Value).ownBlock ∧ some k_ ≠ (.slice Ao73 t517.length co73 : Value).ownBlock) (.slice Ao44 t487.length co44) t487) := ⟨by (with_reducible repeat (first | apply Kd.R_alloc | apply Kd.R_drewN | apply Kd.R_drew)); exact Kd.R_mono (Kd.R_far (p := ⟨gb528, 3, none⟩) (Kd.R_far (p := ⟨gb528, 2, none⟩) (Kd.R_far (p := ⟨gb528, 1, none⟩) (Kd.R_far (p := ⟨gb528, 0, none⟩) (Kd.R_types HO489.out BK528.out zbf) (fun _ hk => hk.2) (.int .i64 t521)) (fun _ hk => hk.2) (.int .i64 t522)) (fun _ hk => hk.2) (.int .i64 t523)) (fun _ hk => hk.2) (.slice Ao83 t524.length co83)) (fun _ hk => ⟨hk.1.1, hk.1.2⟩)⟩
  have n3_ : Aside0 (Kd.R Kd.string 9 ((((w77.setCell ⟨gb528, 0, none⟩ (.int .i64 t521)).setCell ⟨gb528, 1, none⟩ (.int .i64 t522)).setCell ⟨gb528, 2, none⟩ (.int .i64 t523)).setCell ⟨gb528, 3, none⟩ (.slice Ao83 t524.length co83)) w.heap.size (fun k_ => some k_ ≠ (.slice Ao41 t484.length co41 : Value).ownBlock ∧ some k_ ≠ (.slice Ao71 t514.length co71 : Value).ownBlock) (.slice Ao56 t498.length co56) t498) := ⟨by (with_reducible repeat (first | apply Kd.R_alloc | apply Kd.R_drewN | apply Kd.R_drew)); exact Kd.R_mono (Kd.R_far (p := ⟨gb528, 3, none⟩) (Kd.R_far (p := ⟨gb528, 2, none⟩) (Kd.R_far (p := ⟨gb528, 1, none⟩) (Kd.R_far (p := ⟨gb528, 0, none⟩) (Kd.R_types HO500.out BK528.out zbf) (fun _ hk => hk.2) (.int .i64 t521)) (fun _ hk => hk.2) (.int .i64 t522)) (fun _ hk => hk.2) (.int .i64 t523)) (fun _ hk => hk.2) (.slice Ao83 t524.length co83)) (fun _ hk => ⟨hk.1.1, hk.1.2⟩)⟩
  have n4_ : Aside0 (Kd.R k83 83 ((((w77.setCell ⟨gb528, 0, none⟩ (.int .i64 t521)).setCell ⟨gb528, 1, none⟩ (.int .i64 t522)).setCell ⟨gb528, 2, none⟩ (.int .i64 t523)).setCell ⟨gb528, 3, none⟩ (.slice Ao83 t524.length co83)) w.heap.size (fun k_ => some k_ ≠ (.slice Ao44 t487.length co44 : Value).ownBlock ∧ some k_ ≠ (.slice Ao73 t517.length co73 : Value).ownBlock) (.slice Ao58 t501.length co58) t501) := ⟨by (with_reducible repeat (first | apply Kd.R_alloc | apply Kd.R_drewN | apply Kd.R_drew)); exact Kd.R_mono (Kd.R_far (p := ⟨gb528, 3, none⟩) (Kd.R_far (p := ⟨gb528, 2, none⟩) (Kd.R_far (p := ⟨gb528, 1, none⟩) (Kd.R_far (p := ⟨gb528, 0, none⟩) (Kd.R_types HO503.out BK528.out zbf) (fun _ hk => hk.2) (.int .i64 t521)) (fun _ hk => hk.2) (.int .i64 t522)) (fun _ hk => hk.2) (.int .i64 t523)) (fun _ hk => hk.2) (.slice Ao83 t524.length co83)) (fun _ hk => ⟨hk.1.1, hk.1.2⟩)⟩
  have n5_ : Aside0 (Kd.S k60 60 ((((w77.setCell ⟨gb528, 0, none⟩ (.int .i64 t521)).setCell ⟨gb528, 1, none⟩ (.int .i64 t522)).setCell ⟨gb528, 2, none⟩ (.int .i64 t523)).setCell ⟨gb528, 3, none⟩ (.slice Ao83 t524.length co83)) w.heap.size (fun k_ => some k_ ≠ (.slice Ao38 t480.length co38 : Value).ownBlock ∧ some k_ ≠ (.slice Ao83 t524.length co83 : Value).ownBlock) (.slice Ao67 t508.length co67) t508) := ⟨by (with_reducible repeat (first | apply Kd.S_alloc | apply Kd.S_drewN | apply Kd.S_drew)); exact Kd.S_mono (Kd.S_far (p := ⟨gb528, 3, none⟩) (Kd.S_far (p := ⟨gb528, 2, none⟩) (Kd.S_far (p := ⟨gb528, 1, none⟩) (Kd.S_far (p := ⟨gb528, 0, none⟩) (Kd.S_types HO510.out BK528.out zbf) (fun _ hk => hk.2) (.int .i64 t521)) (fun _ hk => hk.2) (.int .i64 t522)) (fun _ hk => hk.2) (.int .i64 t523)) (fun _ hk => hk.2) (.slice Ao83 t524.length co83)) (fun _ hk => ⟨hk.1.1, hk.1.2⟩)⟩
  have n6_ : Aside0 (Kd.R Kd.string 9 ((((w77.setCell ⟨gb528, 0, none⟩ (.int .i64 t521)).setCell ⟨gb528, 1, none⟩ (.int .i64 t522)).setCell ⟨gb528, 2, none⟩ (.int .i64 t523)).setCell ⟨gb528, 3, none⟩ (.slice Ao83 t524.length co83)) w.heap.size (fun k_ => some k_ ≠ (.slice Ao41 t484.length co41 : Value).ownBlock ∧ some k_ ≠ (.slice Ao56 t498.length co56 : Value).ownBlock) (.slice Ao71 t514.length co71) t514) := ⟨by (with_reducible repeat (first | apply Kd.R_alloc | apply Kd.R_drewN | apply Kd.R_drew)); exact Kd.R_mono (Kd.R_far (p := ⟨gb528, 3, none⟩) (Kd.R_far (p := ⟨gb528, 2, none⟩) (Kd.R_far (p := ⟨gb528, 1, none⟩) (Kd.R_far (p := ⟨gb528, 0, none⟩) (Kd.R_types HO516.out BK528.out zbf) (fun _ hk => hk.2) (.int .i64 t521)) (fun _ hk => hk.2) (.int .i64 t522)) (fun _ hk => hk.2) (.int .i64 t523)) (fun _ hk => hk.2) (.slice Ao83 t524.length co83)) (fun _ hk => ⟨hk.1.1.2, hk.1.2⟩)⟩
  have n7_ : Aside0 (Kd.R k83 83 ((((w77.setCell ⟨gb528, 0, none⟩ (.int .i64 t521)).setCell ⟨gb528, 1, none⟩ (.int .i64 t522)).setCell ⟨gb528, 2, none⟩ (.int .i64 t523)).setCell ⟨gb528, 3, none⟩ (.slice Ao83 t524.length co83)) w.heap.size (fun k_ => some k_ ≠ (.slice Ao44 t487.length co44 : Value).ownBlock ∧ some k_ ≠ (.slice Ao58 t501.length co58 : Value).ownBlock) (.slice Ao73 t517.length co73) t517) := ⟨by (with_reducible repeat (first | apply Kd.R_alloc | apply Kd.R_drewN | apply Kd.R_drew)); exact Kd.R_mono (Kd.R_far (p := ⟨gb528, 3, none⟩) (Kd.R_far (p := ⟨gb528, 2, none⟩) (Kd.R_far (p := ⟨gb528, 1, none⟩) (Kd.R_far (p := ⟨gb528, 0, none⟩) (Kd.R_types HO519.out BK528.out zbf) (fun _ hk => hk.2) (.int .i64 t521)) (fun _ hk => hk.2) (.int .i64 t522)) (fun _ hk => hk.2) (.int .i64 t523)) (fun _ hk => hk.2) (.slice Ao83 t524.length co83)) (fun _ hk => ⟨hk.1.1.2, hk.1.2⟩)⟩
  have n8_ : Aside0 (Kd.S k60 60 ((((w77.setCell ⟨gb528, 0, none⟩ (.int .i64 t521)).setCell ⟨gb528, 1, none⟩ (.int .i64 t522)).setCell ⟨gb528, 2, none⟩ (.int .i64 t523)).setCell ⟨gb528, 3, none⟩ (.slice Ao83 t524.length co83)) w.heap.size (fun k_ => some k_ ≠ (.slice Ao38 t480.length co38 : Value).ownBlock ∧ some k_ ≠ (.slice Ao67 t508.length co67 : Value).ownBlock) (.slice Ao83 t524.length co83) t524) := ⟨by (with_reducible repeat (first | apply Kd.S_alloc | apply Kd.S_drewN | apply Kd.S_drew)); exact Kd.S_mono (Kd.S_far (p := ⟨gb528, 3, none⟩) (Kd.S_far (p := ⟨gb528, 2, none⟩) (Kd.S_far (p := ⟨gb528, 1, none⟩) (Kd.S_far (p := ⟨gb528, 0, none⟩) (Kd.S_types HO526.out BK528.out zbf) (fun _ hk => hk.2) (.int .i64 t521)) (fun _ hk => hk.2) (.int .i64 t522)) (fun _ hk => hk.2) (.int .i64 t523)) (fun _ hk => hk.2) (.slice Ao83 t524.length co83)) (fun _ hk => ⟨hk.1.1.2, hk.1.2⟩)⟩
  have n9_ : Aside0 (((((w77.setCell ⟨gb528, 0, none⟩ (.int .i64 t521)).setCell ⟨gb528, 1, none⟩ (.int .i64 t522)).setCell ⟨gb528, 2, none⟩ (.int .i64 t523)).setCell ⟨gb528, 3, none⟩ (.slice Ao83 t524.length co83)).heap[gb483]? = some (.cells #[.int .i64 t477, .int .i64 t478, .int .i64 t479, .slice Ao38 t480.length co38] 24 (0, 0))) := ⟨by (with_reducible repeat (first | refine blk_drewN ?_ _ | refine blk_drew ?_ | refine blk_alloc ?_ _)); refine blk_far ?_ NB483_528.out _; (with_reducible repeat (first | refine blk_drewN ?_ _ | refine blk_drew ?_ | refine blk_alloc ?_ _)); refine blk_far ?_ NB483_528.out _; (with_reducible repeat (first | refine blk_drewN ?_ _ | refine blk_drew ?_ | refine blk_alloc ?_ _)); refine blk_far ?_ NB483_528.out _; (with_reducible repeat (first | refine blk_drewN ?_ _ | refine blk_drew ?_ | refine blk_alloc ?_ _)); refine blk_far ?_ NB483_528.out _; (with_reducible repeat (first | refine blk_drewN ?_ _ | refine blk_drew ?_ | refine blk_alloc ?_ _)); exact BK483.out⟩
  have n10_ : Aside0 (((((w77.setCell ⟨gb528, 0, none⟩ (.int .i64 t521)).setCell ⟨gb528, 1, none⟩ (.int .i64 t522)).setCell ⟨gb528, 2, none⟩ (.int .i64 t523)).setCell ⟨gb528, 3, none⟩ (.slice Ao83 t524.length co83)).heap[gb491]? = some (.cells #[.slice Ao71 t514.length co71, .slice Ao73 t517.length co73] 38 (0, 0))) := ⟨by (with_reducible repeat (first | refine blk_drewN ?_ _ | refine blk_drew ?_ | refine blk_alloc ?_ _)); refine blk_far ?_ NB491_528.out _; (with_reducible repeat (first | refine blk_drewN ?_ _ | refine blk_drew ?_ | refine blk_alloc ?_ _)); refine blk_far ?_ NB491_528.out _; (with_reducible repeat (first | refine blk_drewN ?_ _ | refine blk_drew ?_ | refine blk_alloc ?_ _)); refine blk_far ?_ NB491_528.out _; (with_reducible repeat (first | refine blk_drewN ?_ _ | refine blk_drew ?_ | refine blk_alloc ?_ _)); refine blk_far ?_ NB491_528.out _; (with_reducible repeat (first | refine blk_drewN ?_ _ | refine blk_drew ?_ | refine blk_alloc ?_ _)); exact BK491.out⟩
  have n11_ : Aside0 (((((w77.setCell ⟨gb528, 0, none⟩ (.int .i64 t521)).setCell ⟨gb528, 1, none⟩ (.int .i64 t522)).setCell ⟨gb528, 2, none⟩ (.int .i64 t523)).setCell ⟨gb528, 3, none⟩ (.slice Ao83 t524.length co83)).heap[gb494]? = some (.cells #[.int .i64 (wrap64 (t477 + 1)), .int .i64 t478, .int .i64 t479, .slice Ao38 t480.length co38] 24 (0, 0))) := ⟨by (with_reducible repeat (first | refine blk_drewN ?_ _ | refine blk_drew ?_ | refine blk_alloc ?_ _)); refine blk_far ?_ NB494_528.out _; (with_reducible repeat (first | refine blk_drewN ?_ _ | refine blk_drew ?_ | refine blk_alloc ?_ _)); refine blk_far ?_ NB494_528.out _; (with_reducible repeat (first | refine blk_drewN ?_ _ | refine blk_drew ?_ | refine blk_alloc ?_ _)); refine blk_far ?_ NB494_528.out _; (with_reducible repeat (first | refine blk_drewN ?_ _ | refine blk_drew ?_ | refine blk_alloc ?_ _)); refine blk_far ?_ NB494_528.out _; (with_reducible repeat (first | refine blk_drewN ?_ _ | refine blk_drew ?_ | refine blk_alloc ?_ _)); exact BK494.out⟩
  have n12_ : Aside0 (((((w77.setCell ⟨gb528, 0, none⟩ (.int .i64 t521)).setCell ⟨gb528, 1, none⟩ (.int .i64 t522)).setCell ⟨gb528, 2, none⟩ (.int .i64 t523)).setCell ⟨gb528, 3, none⟩ (.slice Ao83 t524.length co83)).heap[gb512]? = some (.cells #[.int .i64 t505, .int .i64 t506, .int .i64 t507, .slice Ao67 t508.length co67] 24 (0, 0))) := ⟨by (with_reducible repeat (first | refine blk_drewN ?_ _ | refine blk_drew ?_ | refine blk_alloc ?_ _)); refine blk_far ?_ NB512_528.out _; (with_reducible repeat (first | refine blk_drewN ?_ _ | refine blk_drew ?_ | refine blk_alloc ?_ _)); refine blk_far ?_ NB512_528.out _; (with_reducible repeat (first | refine blk_drewN ?_ _ | refine blk_drew ?_ | refine blk_alloc ?_ _)); refine blk_far ?_ NB512_528.out _; (with_reducible repeat (first | refine blk_drewN ?_ _ | refine blk_drew ?_ | refine blk_alloc ?_ _)); refine blk_far ?_ NB512_528.out _; (with_reducible repeat (first | refine blk_drewN ?_ _ | refine blk_drew ?_ | refine blk_alloc ?_ _)); exact BK512.out⟩
  have n13_ : Aside0 (((((w77.setCell ⟨gb528, 0, none⟩ (.int .i64 t521)).setCell ⟨gb528, 1, none⟩ (.int .i64 t522)).setCell ⟨gb528, 2, none⟩ (.int .i64 t523)).setCell ⟨gb528, 3, none⟩ (.slice Ao83 t524.length co83)).heap[gb528]? = some (.cells #[.int .i64 t521, .int .i64 t522, .int .i64 t523, .slice Ao83 t524.length co83] 24 (0, 0))) := ⟨by (with_reducible repeat (first | refine blk_drewN ?_ _ | refine blk_drew ?_ | refine blk_alloc ?_ _)); refine blk_put (cs := #[.int .i64 t521, .int .i64 t522, .int .i64 t523, .slice none 0 0]) ?_ 3 _ rfl; (with_reducible repeat (first | refine blk_drewN ?_ _ | refine blk_drew ?_ | refine blk_alloc ?_ _)); refine blk_put (cs := #[.int .i64 t521, .int .i64 t522, .int .i64 0, .slice none 0 0]) ?_ 2 _ rfl; (with_reducible repeat (first | refine blk_drewN ?_ _ | refine blk_drew ?_ | refine blk_alloc ?_ _)); refine blk_put (cs := #[.int .i64 t521, .int .i64 0, .int .i64 0, .slice none 0 0]) ?_ 1 _ rfl; (with_reducible repeat (first | refine blk_drewN ?_ _ | refine blk_drew ?_ | refine blk_alloc ?_ _)); refine blk_put (cs := #[.int .i64 0, .int .i64 0, .int .i64 0, .slice none 0 0]) ?_ 0 _ rfl; (with_reducible repeat (first | refine blk_drewN ?_ _ | refine blk_drew ?_ | refine blk_alloc ?_ _)); exact BK528.out⟩
  have n14_ : Aside0 (Below w.heap.size w ((((w77.setCell ⟨gb528, 0, none⟩ (.int .i64 t521)).setCell ⟨gb528, 1, none⟩ (.int .i64 t522)).setCell ⟨gb528, 2, none⟩ (.int .i64 t523)).setCell ⟨gb528, 3, none⟩ (.slice Ao83 t524.length co83))) := ⟨z1⟩
  (try clear HO482)
  (try clear HO486)
  (try clear HO489)
  (try clear HO500)
  (try clear HO503)
  (try clear HO510)
  (try clear HO516)
  (try clear HO519)
  (try clear HO526)
  (try clear BK483)
  (try clear BK491)
  (try clear BK494)
  (try clear BK512)
  (try clear BK528)
  (try clear HB)
  generalize ((((w77.setCell ⟨gb528, 0, none⟩ (.int .i64 t521)).setCell ⟨gb528, 1, none⟩ (.int .i64 t522)).setCell ⟨gb528, 2, none⟩ (.int .i64 t523)).setCell ⟨gb528, 3, none⟩ (.slice Ao83 t524.length co83)) = w84 at n0_ n1_ n2_ n3_ n4_ n5_ n6_ n7_ n8_ n9_ n10_ n11_ n12_ n13_ n14_ ⊢
  have HO482 := n0_
  have HO486 := n1_
  have HO489 := n2_
  have HO500 := n3_
  have HO503 := n4_
  have HO510 := n5_
  have HO516 := n6_
  have HO519 := n7_
  have HO526 := n8_
  have BK483 := n9_
  have BK491 := n10_
  have BK494 := n11_
  have BK512 := n12_
  have BK528 := n13_
  have HB := n14_
  clear n0_ n1_ n2_ n3_ n4_ n5_ n6_ n7_ n8_ n9_ n10_ n11_ n12_ n13_ n14_
  replace HO482 := Aside0.mk (Kd.S_drew HO482.out)
  replace HO486 := Aside0.mk (Kd.R_drew HO486.out)
  replace HO489 := Aside0.mk (Kd.R_drew HO489.out)
  replace HO500 := Aside0.mk (Kd.R_drew HO500.out)
  replace HO503 := Aside0.mk (Kd.R_drew HO503.out)
  replace HO510 := Aside0.mk (Kd.S_drew HO510.out)
  replace HO516 := Aside0.mk (Kd.R_drew HO516.out)
  replace HO519 := Aside0.mk (Kd.R_drew HO519.out)
  replace HO526 := Aside0.mk (Kd.S_drew HO526.out)
  replace BK483 := Aside0.mk (blk_drew BK483.out)
  replace BK491 := Aside0.mk (blk_drew BK491.out)
  replace BK494 := Aside0.mk (blk_drew BK494.out)
  replace BK512 := Aside0.mk (blk_drew BK512.out)
  replace BK528 := Aside0.mk (blk_drew BK528.out)
  replace HB := Aside0.mk (below_drew1 HB.out)
  refine start_ (n := 11) (S := fun w' => w'.cell? ⟨gb491, 0, none⟩ = some (.slice Ao71 t514.length co71) ∧ w'.cell? ⟨gb491, 1, none⟩ = some (.slice Ao73 t517.length co73) ∧ w'.cell? ⟨gb494, 0, none⟩ = some (.int .i64 (wrap64 (t477 + 1))) ∧ w'.cell? ⟨gb494, 1, none⟩ = some (.int .i64 t478) ∧ w'.cell? ⟨gb494, 2, none⟩ = some (.int .i64 t479) ∧ w'.cell? ⟨gb494, 3, none⟩ = some (.slice Ao38 t480.length co38)) (ds := []) (bz 11 0) za5 rfl rfl ⟨qx BK491 0, qx BK491 1, qx BK494 0, qx BK494 1, qx BK494 2, qx BK494 3⟩ (fun hHeld => ?_); refine with_tabW laws_FnBest.tab13 laws_FnBest.bits13 (fun HT_ HW_ => ?_)
  generalize w84.drew = w85 at HO482 HO486 HO489 HO500 HO503 HO510 HO516 HO519 HO526 BK483 BK491 BK494 BK512 BK528 HB hHeld ⊢
  refine ql 1 (some 77) (bz 11 2) HT_ ?_
  refine qt 0 (some 76) (bz 11 3) HT_ HW_ hHeld ?_
  refine qt 2 (some 78) (bz 11 7) HT_ HW_ hHeld ?_
  refine join_ (σ := Value × Value × Nat) 2 (bz 11 511) (fun s_ => [(79, .int .i64 t529), (80, .tuple #[.agg #[s_.1, s_.2.1], .bool t536]), (15, .pointer (some ⟨s_.2.2, 0, none⟩)), (75, .tuple #[.agg #[s_.1, s_.2.1], .bool t536]), (81, .agg #[s_.1, s_.2.1]), (82, .bool t536)]) (fun s_ w' => (w'.cell? ⟨gb491, 0, none⟩ = some (.slice Ao71 t514.length co71) ∧ w'.cell? ⟨gb491, 1, none⟩ = some (.slice Ao73 t517.length co73) ∧ w'.cell? ⟨gb494, 0, none⟩ = some (.int .i64 (wrap64 (t477 + 1))) ∧ w'.cell? ⟨gb494, 1, none⟩ = some (.int .i64 t478) ∧ w'.cell? ⟨gb494, 2, none⟩ = some (.int .i64 t479) ∧ w'.cell? ⟨gb494, 3, none⟩ = some (.slice Ao38 t480.length co38)) ∧ (Kd.S k60 60 w' w.heap.size (fun k_ => some k_ ≠ (.slice Ao67 t508.length co67 : Value).ownBlock ∧ some k_ ≠ (.slice Ao83 t524.length co83 : Value).ownBlock) (.slice Ao38 t480.length co38) t480) ∧ (Kd.R Kd.string 9 w' w.heap.size (fun k_ => some k_ ≠ (.slice Ao56 t498.length co56 : Value).ownBlock ∧ some k_ ≠ (.slice Ao71 t514.length co71 : Value).ownBlock ∧ some k_ ≠ (s_.1 : Value).ownBlock) (.slice Ao41 t484.length co41) t484) ∧ (Kd.R k83 83 w' w.heap.size (fun k_ => some k_ ≠ (.slice Ao58 t501.length co58 : Value).ownBlock ∧ some k_ ≠ (.slice Ao73 t517.length co73 : Value).ownBlock ∧ some k_ ≠ (s_.2.1 : Value).ownBlock) (.slice Ao44 t487.length co44) t487) ∧ (Kd.R Kd.string 9 w' w.heap.size (fun k_ => some k_ ≠ (.slice Ao41 t484.length co41 : Value).ownBlock ∧ some k_ ≠ (.slice Ao71 t514.length co71 : Value).ownBlock ∧ some k_ ≠ (s_.1 : Value).ownBlock) (.slice Ao56 t498.length co56) t498) ∧ (Kd.R k83 83 w' w.heap.size (fun k_ => some k_ ≠ (.slice Ao44 t487.length co44 : Value).ownBlock ∧ some k_ ≠ (.slice Ao73 t517.length co73 : Value).ownBlock ∧ some k_ ≠ (s_.2.1 : Value).ownBlock) (.slice Ao58 t501.length co58) t501) ∧ (Kd.S k60 60 w' w.heap.size (fun k_ => some k_ ≠ (.slice Ao38 t480.length co38 : Value).ownBlock ∧ some k_ ≠ (.slice Ao83 t524.length co83 : Value).ownBlock) (.slice Ao67 t508.length co67) t508) ∧ (Kd.R Kd.string 9 w' w.heap.size (fun k_ => some k_ ≠ (.slice Ao41 t484.length co41 : Value).ownBlock ∧ some k_ ≠ (.slice Ao56 t498.length co56 : Value).ownBlock ∧ some k_ ≠ (s_.1 : Value).ownBlock) (.slice Ao71 t514.length co71) t514) ∧ (Kd.R k83 83 w' w.heap.size (fun k_ => some k_ ≠ (.slice Ao44 t487.length co44 : Value).ownBlock ∧ some k_ ≠ (.slice Ao58 t501.length co58 : Value).ownBlock ∧ some k_ ≠ (s_.2.1 : Value).ownBlock) (.slice Ao73 t517.length co73) t517) ∧ (Kd.S k60 60 w' w.heap.size (fun k_ => some k_ ≠ (.slice Ao38 t480.length co38 : Value).ownBlock ∧ some k_ ≠ (.slice Ao67 t508.length co67 : Value).ownBlock) (.slice Ao83 t524.length co83) t524) ∧ (Kd.R Kd.string 9 w' w.heap.size (fun k_ => some k_ ≠ (.slice Ao41 t484.length co41 : Value).ownBlock ∧ some k_ ≠ (.slice Ao56 t498.length co56 : Value).ownBlock ∧ some k_ ≠ (.slice Ao71 t514.length co71 : Value).ownBlock) s_.1 t530) ∧ (Kd.R k83 83 w' w.heap.size (fun k_ => some k_ ≠ (.slice Ao44 t487.length co44 : Value).ownBlock ∧ some k_ ≠ (.slice Ao58 t501.length co58 : Value).ownBlock ∧ some k_ ≠ (.slice Ao73 t517.length co73 : Value).ownBlock) s_.2.1 t533) ∧ (w'.heap[gb483]? = some (.cells #[.int .i64 t477, .int .i64 t478, .int .i64 t479, .slice Ao38 t480.length co38] 24 (0, 0))) ∧ (w'.heap[gb491]? = some (.cells #[.slice Ao71 t514.length co71, .slice Ao73 t517.length co73] 38 (0, 0))) ∧ (w'.heap[gb494]? = some (.cells #[.int .i64 (wrap64 (t477 + 1)), .int .i64 t478, .int .i64 t479, .slice Ao38 t480.length co38] 24 (0, 0))) ∧ (w'.heap[gb512]? = some (.cells #[.int .i64 t505, .int .i64 t506, .int .i64 t507, .slice Ao67 t508.length co67] 24 (0, 0))) ∧ (w'.heap[gb528]? = some (.cells #[.int .i64 t521, .int .i64 t522, .int .i64 t523, .slice Ao83 t524.length co83] 24 (0, 0))) ∧ (w'.heap[s_.2.2]? = some (.cells #[.slice none 0 0, .slice none 0 0] 38 (0, 0))) ∧ (w.heap.size ≤ s_.2.2) ∧ (w.heap.size ≤ s_.2.2) ∧ (gb483 ≠ s_.2.2) ∧ (s_.2.2 ≠ gb483) ∧ (gb491 ≠ s_.2.2) ∧ (s_.2.2 ≠ gb491) ∧ (gb494 ≠ s_.2.2) ∧ (s_.2.2 ≠ gb494) ∧ (gb512 ≠ s_.2.2) ∧ (s_.2.2 ≠ gb512) ∧ (gb528 ≠ s_.2.2) ∧ (s_.2.2 ≠ gb528) ∧ (Below w.heap.size w w')) ?_ ?_
  rotate_left
  · intro hCont
    refine two_ (i := 3) (j := 8) (Ni := some 79) (Nj := some 15) (bz 11 15) (bz 11 263) rfl rfl rfl rfl (two_of HT_.out za5) zbf zbf (fun K hK => ?_) (fun K hK => ?_)
    · skip
      refine goes_ Try.func22 za5 rfl #[.int .i64 (wrap64 (t477 + 1))] zdy rfl rfl zv ?_
      with_reducible refine (impl_MetaPage.calls (wrap64 (t477 + 1)) t529 _ A14.out).mono ?_
      rintro e w' ⟨rfl, ⟨nd, rfl⟩⟩
      refine ⟨_, rfl, ?_⟩
      refine hK.out _ _ ⟨qx BK491 0, qx BK491 1, qx BK494 0, qx BK494 1, qx BK494 2, qx BK494 3⟩ (fun hHeld => ?_)
      clear hK K
      refine qr (some 79) ?_
      refine two_ (i := 4) (j := 8) (Ni := some 80) (Nj := some 15) (bz 11 31) (bz 11 271) rfl rfl rfl rfl (two_of HT_.out za5) zbf zbf (fun K hK => ?_) (fun K hK => ?_)
      · skip
        refine goes_ Try.func21 za5 rfl #[.agg #[.slice Ao71 t514.length co71, .slice Ao73 t517.length co73], .int .i64 t529, .string (⟨#[120]⟩ : ByteArray)] zdy rfl rfl zv ?_
        with_reducible refine (spec_WritePage.calls k _ _ t514 _ _ t517 t529 (⟨#[120]⟩ : ByteArray) t530 t533 t536 _ ?side1 ?side2 ?side3 ?side4 A15.out).mono ?_
        (case side1 => exact zc6)
        (case side2 => exact (Kd.R_reads' HO516.out).2.1)
        (case side3 => exact zc7)
        (case side4 => exact (Kd.R_reads' HO519.out).2.1)
        rintro e w86 ⟨v531, v534, rfl, ho0, ho1, hb⟩
        refine ⟨_, rfl, ?_⟩
        replace HO482 := Aside0.mk (Kd.S_below zad hb)
        replace HO510 := Aside0.mk (Kd.S_below zar hb)
        replace HO526 := Aside0.mk (Kd.S_below za1 hb)
        have HO532 := Aside0.mk (Kd.R_lower (Kd.R_new' (Kd.R_new' (Kd.R_new' ho0 (Kd.R_lt zak)) (Kd.R_lt zaz)) (Kd.R_lt zbm)) (below_size z1))
        replace HO486 := Aside0.mk (Kd.R_elder' zak (Kd.R_base ho0) hb)
        replace HO500 := Aside0.mk (Kd.R_elder' zaz (Kd.R_base ho0) hb)
        replace HO516 := Aside0.mk (Kd.R_elder' zbm (Kd.R_base ho0) hb)
        have HO535 := Aside0.mk (Kd.R_lower (Kd.R_new' (Kd.R_new' (Kd.R_new' ho1 (Kd.R_lt zal)) (Kd.R_lt za0)) (Kd.R_lt zbn)) (below_size z1))
        replace HO489 := Aside0.mk (Kd.R_elder' zal (Kd.R_base ho1) hb)
        replace HO503 := Aside0.mk (Kd.R_elder' za0 (Kd.R_base ho1) hb)
        replace HO519 := Aside0.mk (Kd.R_elder' zbn (Kd.R_base ho1) hb)
        replace BK483 := Aside0.mk (bB BK483.out hb)
        replace BK491 := Aside0.mk (bB BK491.out hb)
        replace BK494 := Aside0.mk (bB BK494.out hb)
        replace BK512 := Aside0.mk (bB BK512.out hb)
        replace BK528 := Aside0.mk (bB BK528.out hb)
        replace HB := Aside0.mk (below_step z1 hb)
        try clear hb ho0 ho1
        refine hK.out _ _ ⟨qx BK491 0, qx BK491 1, qx BK494 0, qx BK494 1, qx BK494 2, qx BK494 3⟩ (fun hHeld => ?_)
        clear hK K
        refine qr (some 80) ?_
        refine ql 5 (some 75) (bz 11 63) HT_ ?_
        refine ql 6 (some 81) (bz 11 127) HT_ ?_
        refine ql 7 (some 82) (bz 11 255) HT_ ?_
        refine qs 8 (some 15) (bz 11 511) HT_ rfl rfl (fun K hK => ?_)
        refine box_step ?hg (N := 15) ?hd (cs := #[.slice none 0 0, .slice none 0 0]) (t := 38) ?hr ?_; (case hd => rfl); (case hg => rfl); (case hr => first | (go_simp; done) | (go_simp; rfl))
        intro gb537 hg w87 hbox hb
        replace HO482 := Aside0.mk (Kd.S_below zad hb)
        replace HO486 := Aside0.mk (Kd.R_below zak hb)
        replace HO489 := Aside0.mk (Kd.R_below zal hb)
        replace HO500 := Aside0.mk (Kd.R_below zaz hb)
        replace HO503 := Aside0.mk (Kd.R_below za0 hb)
        replace HO510 := Aside0.mk (Kd.S_below zar hb)
        replace HO516 := Aside0.mk (Kd.R_below zbm hb)
        replace HO519 := Aside0.mk (Kd.R_below zbn hb)
        replace HO526 := Aside0.mk (Kd.S_below za1 hb)
        replace HO532 := Aside0.mk (Kd.R_below (by (with_reducible repeat (first | apply Kd.R_alloc | apply Kd.R_drewN | apply Kd.R_drew)); exact HO532.out) hb)
        replace HO535 := Aside0.mk (Kd.R_below (by (with_reducible repeat (first | apply Kd.R_alloc | apply Kd.R_drewN | apply Kd.R_drew)); exact HO535.out) hb)
        have BK537 := Aside0.mk (hbox)
        have GW537 := Aside0.mk ((by rw [hg]; exact (below_size z1) : w.heap.size ≤ gb537))
        have GE537 := GW537
        replace HB := Aside0.mk (below_step z1 hb)
        have NB483_537 := Aside0.mk ((zdi : gb483 ≠ gb537))
        have NB537_483 := Aside0.mk NB483_537.out.symm
        replace BK483 := Aside0.mk (bB BK483.out hb)
        have NB491_537 := Aside0.mk ((zdt : gb491 ≠ gb537))
        have NB537_491 := Aside0.mk NB491_537.out.symm
        replace BK491 := Aside0.mk (bB BK491.out hb)
        have NB494_537 := Aside0.mk ((zdx : gb494 ≠ gb537))
        have NB537_494 := Aside0.mk NB494_537.out.symm
        replace BK494 := Aside0.mk (bB BK494.out hb)
        have NB512_537 := Aside0.mk ((zdz : gb512 ≠ gb537))
        have NB537_512 := Aside0.mk NB512_537.out.symm
        replace BK512 := Aside0.mk (bB BK512.out hb)
        have NB528_537 := Aside0.mk ((zd2 : gb528 ≠ gb537))
        have NB537_528 := Aside0.mk NB528_537.out.symm
        replace BK528 := Aside0.mk (bB BK528.out hb)
        clear hb hbox hg
        refine hK.out _ _ ⟨qx BK491 0, qx BK491 1, qx BK494 0, qx BK494 1, qx BK494 2, qx BK494 3⟩ (fun hHeld => ?_)
        clear hK K
        refine qr (some 15) ?_
        exact norm_ zeh (hCont (v531, v534, gb537) _ ⟨hHeld, zad, zdj, zdk, zdl, zdm, zar, zdn, zdo, za1, zdg, zdh, (bP BK483.out), (bP BK491.out), (bP BK494.out), (bP BK512.out), (bP BK528.out), (bP BK537.out), GW537.out, GE537.out, NB483_537.out, NB537_483.out, NB491_537.out, NB537_491.out, NB494_537.out, NB537_494.out, NB512_537.out, NB537_512.out, NB528_537.out, NB537_528.out, zq⟩)
      · skip
        refine box_step ?hg (N := 15) ?hd (cs := #[.slice none 0 0, .slice none 0 0]) (t := 38) ?hr ?_; (case hd => rfl); (case hg => rfl); (case hr => first | (go_simp; done) | (go_simp; rfl))
        intro gb537 hg w86 hbox hb
        replace HO482 := Aside0.mk (Kd.S_below zad hb)
        replace HO486 := Aside0.mk (Kd.R_below zak hb)
        replace HO489 := Aside0.mk (Kd.R_below zal hb)
        replace HO500 := Aside0.mk (Kd.R_below zaz hb)
        replace HO503 := Aside0.mk (Kd.R_below za0 hb)
        replace HO510 := Aside0.mk (Kd.S_below zar hb)
        replace HO516 := Aside0.mk (Kd.R_below zbm hb)
        replace HO519 := Aside0.mk (Kd.R_below zbn hb)
        replace HO526 := Aside0.mk (Kd.S_below za1 hb)
        have BK537 := Aside0.mk (hbox)
        have GW537 := Aside0.mk ((by rw [hg]; exact (below_size z1) : w.heap.size ≤ gb537))
        have GE537 := GW537
        replace HB := Aside0.mk (below_step z1 hb)
        have NB483_537 := Aside0.mk ((zdi : gb483 ≠ gb537))
        have NB537_483 := Aside0.mk NB483_537.out.symm
        replace BK483 := Aside0.mk (bB BK483.out hb)
        have NB491_537 := Aside0.mk ((zdt : gb491 ≠ gb537))
        have NB537_491 := Aside0.mk NB491_537.out.symm
        replace BK491 := Aside0.mk (bB BK491.out hb)
        have NB494_537 := Aside0.mk ((zdx : gb494 ≠ gb537))
        have NB537_494 := Aside0.mk NB494_537.out.symm
        replace BK494 := Aside0.mk (bB BK494.out hb)
        have NB512_537 := Aside0.mk ((zdz : gb512 ≠ gb537))
        have NB537_512 := Aside0.mk NB512_537.out.symm
        replace BK512 := Aside0.mk (bB BK512.out hb)
        have NB528_537 := Aside0.mk ((zd2 : gb528 ≠ gb537))
        have NB537_528 := Aside0.mk NB528_537.out.symm
        replace BK528 := Aside0.mk (bB BK528.out hb)
        clear hb hbox hg
        refine hK.out _ _ ⟨qx BK491 0, qx BK491 1, qx BK494 0, qx BK494 1, qx BK494 2, qx BK494 3⟩ (fun hHeld => ?_)
        clear hK K
        refine qr (some 15) ?_
        refine qs 4 (some 80) (bz 11 287) HT_ rfl rfl (fun K hK => ?_)
        refine goes_ Try.func21 za5 rfl #[.agg #[.slice Ao71 t514.length co71, .slice Ao73 t517.length co73], .int .i64 t529, .string (⟨#[120]⟩ : ByteArray)] zdy rfl rfl zv ?_
        with_reducible refine (spec_WritePage.calls k _ _ t514 _ _ t517 t529 (⟨#[120]⟩ : ByteArray) t530 t533 t536 _ ?side1 ?side2 ?side3 ?side4 A15.out).mono ?_
        (case side1 => exact zc6)
        (case side2 => exact (Kd.R_reads' HO516.out).2.1)
        (case side3 => exact zc7)
        (case side4 => exact (Kd.R_reads' HO519.out).2.1)
        rintro e w87 ⟨v531, v534, rfl, ho0, ho1, hb⟩
        refine ⟨_, rfl, ?_⟩
        replace HO482 := Aside0.mk (Kd.S_below zad hb)
        replace HO510 := Aside0.mk (Kd.S_below zar hb)
        replace HO526 := Aside0.mk (Kd.S_below za1 hb)
        have HO532 := Aside0.mk (Kd.R_lower (Kd.R_new' (Kd.R_new' (Kd.R_new' ho0 (Kd.R_lt zak)) (Kd.R_lt zaz)) (Kd.R_lt zbm)) (below_size zq))
        replace HO486 := Aside0.mk (Kd.R_elder' zak (Kd.R_base ho0) hb)
        replace HO500 := Aside0.mk (Kd.R_elder' zaz (Kd.R_base ho0) hb)
        replace HO516 := Aside0.mk (Kd.R_elder' zbm (Kd.R_base ho0) hb)
        have HO535 := Aside0.mk (Kd.R_lower (Kd.R_new' (Kd.R_new' (Kd.R_new' ho1 (Kd.R_lt zal)) (Kd.R_lt za0)) (Kd.R_lt zbn)) (below_size zq))
        replace HO489 := Aside0.mk (Kd.R_elder' zal (Kd.R_base ho1) hb)
        replace HO503 := Aside0.mk (Kd.R_elder' za0 (Kd.R_base ho1) hb)
        replace HO519 := Aside0.mk (Kd.R_elder' zbn (Kd.R_base ho1) hb)
        replace BK483 := Aside0.mk (bB BK483.out hb)
        replace BK491 := Aside0.mk (bB BK491.out hb)
        replace BK494 := Aside0.mk (bB BK494.out hb)
        replace BK512 := Aside0.mk (bB BK512.out hb)
        replace BK528 := Aside0.mk (bB BK528.out hb)
        replace BK537 := Aside0.mk (bB BK537.out hb)
        replace HB := Aside0.mk (below_step zq hb)
        try clear hb ho0 ho1
        refine hK.out _ _ ⟨qx BK491 0, qx BK491 1, qx BK494 0, qx BK494 1, qx BK494 2, qx BK494 3⟩ (fun hHeld => ?_)
        clear hK K
        refine qr (some 80) ?_
        refine ql 5 (some 75) (bz 11 319) HT_ ?_
        refine ql 6 (some 81) (bz 11 383) HT_ ?_
        refine ql 7 (some 82) (bz 11 511) HT_ ?_
        exact norm_ zeh (hCont (v531, v534, gb537) _ ⟨hHeld, zad, zdj, zdk, zdl, zdm, zar, zdn, zdo, za1, zdg, zdh, (bP BK483.out), (bP BK491.out), (bP BK494.out), (bP BK512.out), (bP BK528.out), (bP BK537.out), GW537.out, GE537.out, NB483_537.out, NB537_483.out, NB491_537.out, NB537_491.out, NB494_537.out, NB537_494.out, NB512_537.out, NB537_512.out, NB528_537.out, NB537_528.out, zq⟩)
    · skip
      refine box_step ?hg (N := 15) ?hd (cs := #[.slice none 0 0, .slice none 0 0]) (t := 38) ?hr ?_; (case hd => rfl); (case hg => rfl); (case hr => first | (go_simp; done) | (go_simp; rfl))
      intro gb537 hg w86 hbox hb
      replace HO482 := Aside0.mk (Kd.S_below zad hb)
      replace HO486 := Aside0.mk (Kd.R_below zak hb)
      replace HO489 := Aside0.mk (Kd.R_below zal hb)
      replace HO500 := Aside0.mk (Kd.R_below zaz hb)
      replace HO503 := Aside0.mk (Kd.R_below za0 hb)
      replace HO510 := Aside0.mk (Kd.S_below zar hb)
      replace HO516 := Aside0.mk (Kd.R_below zbm hb)
      replace HO519 := Aside0.mk (Kd.R_below zbn hb)
      replace HO526 := Aside0.mk (Kd.S_below za1 hb)
      have BK537 := Aside0.mk (hbox)
      have GW537 := Aside0.mk ((by rw [hg]; exact (below_size z1) : w.heap.size ≤ gb537))
      have GE537 := GW537
      replace HB := Aside0.mk (below_step z1 hb)
      have NB483_537 := Aside0.mk ((zdi : gb483 ≠ gb537))
      have NB537_483 := Aside0.mk NB483_537.out.symm
      replace BK483 := Aside0.mk (bB BK483.out hb)
      have NB491_537 := Aside0.mk ((zdt : gb491 ≠ gb537))
      have NB537_491 := Aside0.mk NB491_537.out.symm
      replace BK491 := Aside0.mk (bB BK491.out hb)
      have NB494_537 := Aside0.mk ((zdx : gb494 ≠ gb537))
      have NB537_494 := Aside0.mk NB494_537.out.symm
      replace BK494 := Aside0.mk (bB BK494.out hb)
      have NB512_537 := Aside0.mk ((zdz : gb512 ≠ gb537))
      have NB537_512 := Aside0.mk NB512_537.out.symm
      replace BK512 := Aside0.mk (bB BK512.out hb)
      have NB528_537 := Aside0.mk ((zd2 : gb528 ≠ gb537))
      have NB537_528 := Aside0.mk NB528_537.out.symm
      replace BK528 := Aside0.mk (bB BK528.out hb)
      clear hb hbox hg
      refine hK.out _ _ ⟨qx BK491 0, qx BK491 1, qx BK494 0, qx BK494 1, qx BK494 2, qx BK494 3⟩ (fun hHeld => ?_)
      clear hK K
      refine qr (some 15) ?_
      refine qs 3 (some 79) (bz 11 271) HT_ rfl rfl (fun K hK => ?_)
      refine goes_ Try.func22 za5 rfl #[.int .i64 (wrap64 (t477 + 1))] zdy rfl rfl zv ?_
      with_reducible refine (impl_MetaPage.calls (wrap64 (t477 + 1)) t529 _ A14.out).mono ?_
      rintro e w' ⟨rfl, ⟨nd, rfl⟩⟩
      refine ⟨_, rfl, ?_⟩
      refine hK.out _ _ ⟨qx BK491 0, qx BK491 1, qx BK494 0, qx BK494 1, qx BK494 2, qx BK494 3⟩ (fun hHeld => ?_)
      clear hK K
      refine qr (some 79) ?_
      refine qs 4 (some 80) (bz 11 287) HT_ rfl rfl (fun K hK => ?_)
      refine goes_ Try.func21 za5 rfl #[.agg #[.slice Ao71 t514.length co71, .slice Ao73 t517.length co73], .int .i64 t529, .string (⟨#[120]⟩ : ByteArray)] zdy rfl rfl zv ?_
      with_reducible refine (spec_WritePage.calls k _ _ t514 _ _ t517 t529 (⟨#[120]⟩ : ByteArray) t530 t533 t536 _ ?side1 ?side2 ?side3 ?side4 A15.out).mono ?_
      (case side1 => exact zc6)
      (case side2 => exact (Kd.R_reads' HO516.out).2.1)
      (case side3 => exact zc7)
      (case side4 => exact (Kd.R_reads' HO519.out).2.1)
      rintro e w87 ⟨v531, v534, rfl, ho0, ho1, hb⟩
      refine ⟨_, rfl, ?_⟩
      replace HO482 := Aside0.mk (Kd.S_below zad hb)
      replace HO510 := Aside0.mk (Kd.S_below zar hb)
      replace HO526 := Aside0.mk (Kd.S_below za1 hb)
      have HO532 := Aside0.mk (Kd.R_lower (Kd.R_new' (Kd.R_new' (Kd.R_new' ho0 (Kd.R_lt zak)) (Kd.R_lt zaz)) (Kd.R_lt zbm)) (below_size zq))
      replace HO486 := Aside0.mk (Kd.R_elder' zak (Kd.R_base ho0) hb)
      replace HO500 := Aside0.mk (Kd.R_elder' zaz (Kd.R_base ho0) hb)
      replace HO516 := Aside0.mk (Kd.R_elder' zbm (Kd.R_base ho0) hb)
      have HO535 := Aside0.mk (Kd.R_lower (Kd.R_new' (Kd.R_new' (Kd.R_new' ho1 (Kd.R_lt zal)) (Kd.R_lt za0)) (Kd.R_lt zbn)) (below_size zq))
      replace HO489 := Aside0.mk (Kd.R_elder' zal (Kd.R_base ho1) hb)
      replace HO503 := Aside0.mk (Kd.R_elder' za0 (Kd.R_base ho1) hb)
      replace HO519 := Aside0.mk (Kd.R_elder' zbn (Kd.R_base ho1) hb)
      replace BK483 := Aside0.mk (bB BK483.out hb)
      replace BK491 := Aside0.mk (bB BK491.out hb)
      replace BK494 := Aside0.mk (bB BK494.out hb)
      replace BK512 := Aside0.mk (bB BK512.out hb)
      replace BK528 := Aside0.mk (bB BK528.out hb)
      replace BK537 := Aside0.mk (bB BK537.out hb)
      replace HB := Aside0.mk (below_step zq hb)
      try clear hb ho0 ho1
      refine hK.out _ _ ⟨qx BK491 0, qx BK491 1, qx BK494 0, qx BK494 1, qx BK494 2, qx BK494 3⟩ (fun hHeld => ?_)
      clear hK K
      refine qr (some 80) ?_
      refine ql 5 (some 75) (bz 11 319) HT_ ?_
      refine ql 6 (some 81) (bz 11 383) HT_ ?_
      refine ql 7 (some 82) (bz 11 511) HT_ ?_
      exact norm_ zeh (hCont (v531, v534, gb537) _ ⟨hHeld, zad, zdj, zdk, zdl, zdm, zar, zdn, zdo, za1, zdg, zdh, (bP BK483.out), (bP BK491.out), (bP BK494.out), (bP BK512.out), (bP BK528.out), (bP BK537.out), GW537.out, GE537.out, NB483_537.out, NB537_483.out, NB491_537.out, NB537_491.out, NB494_537.out, NB537_494.out, NB512_537.out, NB537_512.out, NB528_537.out, NB537_528.out, zq⟩)
  rintro ⟨v531, v534, gb537⟩ w88 ⟨hS_, h0_, h1_, h2_, h3_, h4_, h5_, h6_, h7_, h8_, h9_, h10_, h11_, h12_, h13_, h14_, h15_, h16_, h17_, h18_, h19_, h20_, h21_, h22_, h23_, h24_, h25_, h26_, h27_, h28_, h29_⟩
  have n0_ : Aside0 (Kd.S k60 60 w88 w.heap.size (fun k_ => some k_ ≠ (.slice Ao67 t508.length co67 : Value).ownBlock ∧ some k_ ≠ (.slice Ao83 t524.length co83 : Value).ownBlock) (.slice Ao38 t480.length co38) t480) := ⟨h0_⟩
  have n1_ : Aside0 (Kd.R Kd.string 9 w88 w.heap.size (fun k_ => some k_ ≠ (.slice Ao56 t498.length co56 : Value).ownBlock ∧ some k_ ≠ (.slice Ao71 t514.length co71 : Value).ownBlock ∧ some k_ ≠ (v531 : Value).ownBlock) (.slice Ao41 t484.length co41) t484) := ⟨h1_⟩
  have n2_ : Aside0 (Kd.R k83 83 w88 w.heap.size (fun k_ => some k_ ≠ (.slice Ao58 t501.length co58 : Value).ownBlock ∧ some k_ ≠ (.slice Ao73 t517.length co73 : Value).ownBlock ∧ some k_ ≠ (v534 : Value).ownBlock) (.slice Ao44 t487.length co44) t487) := ⟨h2_⟩
  have n3_ : Aside0 (Kd.R Kd.string 9 w88 w.heap.size (fun k_ => some k_ ≠ (.slice Ao41 t484.length co41 : Value).ownBlock ∧ some k_ ≠ (.slice Ao71 t514.length co71 : Value).ownBlock ∧ some k_ ≠ (v531 : Value).ownBlock) (.slice Ao56 t498.length co56) t498) := ⟨h3_⟩
  have n4_ : Aside0 (Kd.R k83 83 w88 w.heap.size (fun k_ => some k_ ≠ (.slice Ao44 t487.length co44 : Value).ownBlock ∧ some k_ ≠ (.slice Ao73 t517.length co73 : Value).ownBlock ∧ some k_ ≠ (v534 : Value).ownBlock) (.slice Ao58 t501.length co58) t501) := ⟨h4_⟩
  have n5_ : Aside0 (Kd.S k60 60 w88 w.heap.size (fun k_ => some k_ ≠ (.slice Ao38 t480.length co38 : Value).ownBlock ∧ some k_ ≠ (.slice Ao83 t524.length co83 : Value).ownBlock) (.slice Ao67 t508.length co67) t508) := ⟨h5_⟩
  have n6_ : Aside0 (Kd.R Kd.string 9 w88 w.heap.size (fun k_ => some k_ ≠ (.slice Ao41 t484.length co41 : Value).ownBlock ∧ some k_ ≠ (.slice Ao56 t498.length co56 : Value).ownBlock ∧ some k_ ≠ (v531 : Value).ownBlock) (.slice Ao71 t514.length co71) t514) := ⟨h6_⟩
  have n7_ : Aside0 (Kd.R k83 83 w88 w.heap.size (fun k_ => some k_ ≠ (.slice Ao44 t487.length co44 : Value).ownBlock ∧ some k_ ≠ (.slice Ao58 t501.length co58 : Value).ownBlock ∧ some k_ ≠ (v534 : Value).ownBlock) (.slice Ao73 t517.length co73) t517) := ⟨h7_⟩
  have n8_ : Aside0 (Kd.S k60 60 w88 w.heap.size (fun k_ => some k_ ≠ (.slice Ao38 t480.length co38 : Value).ownBlock ∧ some k_ ≠ (.slice Ao67 t508.length co67 : Value).ownBlock) (.slice Ao83 t524.length co83) t524) := ⟨h8_⟩
  have n9_ : Aside0 (Kd.R Kd.string 9 w88 w.heap.size (fun k_ => some k_ ≠ (.slice Ao41 t484.length co41 : Value).ownBlock ∧ some k_ ≠ (.slice Ao56 t498.length co56 : Value).ownBlock ∧ some k_ ≠ (.slice Ao71 t514.length co71 : Value).ownBlock) v531 t530) := ⟨h9_⟩
  have n10_ : Aside0 (Kd.R k83 83 w88 w.heap.size (fun k_ => some k_ ≠ (.slice Ao44 t487.length co44 : Value).ownBlock ∧ some k_ ≠ (.slice Ao58 t501.length co58 : Value).ownBlock ∧ some k_ ≠ (.slice Ao73 t517.length co73 : Value).ownBlock) v534 t533) := ⟨h10_⟩
  have n11_ : Aside0 (w88.heap[gb483]? = some (.cells #[.int .i64 t477, .int .i64 t478, .int .i64 t479, .slice Ao38 t480.length co38] 24 (0, 0))) := ⟨h11_⟩
  have n12_ : Aside0 (w88.heap[gb491]? = some (.cells #[.slice Ao71 t514.length co71, .slice Ao73 t517.length co73] 38 (0, 0))) := ⟨h12_⟩
  have n13_ : Aside0 (w88.heap[gb494]? = some (.cells #[.int .i64 (wrap64 (t477 + 1)), .int .i64 t478, .int .i64 t479, .slice Ao38 t480.length co38] 24 (0, 0))) := ⟨h13_⟩
  have n14_ : Aside0 (w88.heap[gb512]? = some (.cells #[.int .i64 t505, .int .i64 t506, .int .i64 t507, .slice Ao67 t508.length co67] 24 (0, 0))) := ⟨h14_⟩
  have n15_ : Aside0 (w88.heap[gb528]? = some (.cells #[.int .i64 t521, .int .i64 t522, .int .i64 t523, .slice Ao83 t524.length co83] 24 (0, 0))) := ⟨h15_⟩
  have n16_ : Aside0 (w88.heap[gb537]? = some (.cells #[.slice none 0 0, .slice none 0 0] 38 (0, 0))) := ⟨h16_⟩
  have n17_ : Aside0 (w.heap.size ≤ gb537) := ⟨h17_⟩
  have n18_ : Aside0 (w.heap.size ≤ gb537) := ⟨h18_⟩
  have n19_ : Aside0 (gb483 ≠ gb537) := ⟨h19_⟩
  have n20_ : Aside0 (gb537 ≠ gb483) := ⟨h20_⟩
  have n21_ : Aside0 (gb491 ≠ gb537) := ⟨h21_⟩
  have n22_ : Aside0 (gb537 ≠ gb491) := ⟨h22_⟩
  have n23_ : Aside0 (gb494 ≠ gb537) := ⟨h23_⟩
  have n24_ : Aside0 (gb537 ≠ gb494) := ⟨h24_⟩
  have n25_ : Aside0 (gb512 ≠ gb537) := ⟨h25_⟩
  have n26_ : Aside0 (gb537 ≠ gb512) := ⟨h26_⟩
  have n27_ : Aside0 (gb528 ≠ gb537) := ⟨h27_⟩
  have n28_ : Aside0 (gb537 ≠ gb528) := ⟨h28_⟩
  have n29_ : Aside0 (Below w.heap.size w w88) := ⟨h29_⟩
  clear HO482
  clear HO486
  clear HO489
  clear HO500
  clear HO503
  clear HO510
  clear HO516
  clear HO519
  clear HO526
  clear BK483
  clear BK491
  clear BK494
  clear BK512
  clear BK528
  clear HB
  clear h0_ h1_ h2_ h3_ h4_ h5_ h6_ h7_ h8_ h9_ h10_ h11_ h12_ h13_ h14_ h15_ h16_ h17_ h18_ h19_ h20_ h21_ h22_ h23_ h24_ h25_ h26_ h27_ h28_ h29_
  have HO482 := n0_
  have HO486 := n1_
  have HO489 := n2_
  have HO500 := n3_
  have HO503 := n4_
  have HO510 := n5_
  have HO516 := n6_
  have HO519 := n7_
  have HO526 := n8_
  have HO532 := n9_
  have HO535 := n10_
  have BK483 := n11_
  have BK491 := n12_
  have BK494 := n13_
  have BK512 := n14_
  have BK528 := n15_
  have BK537 := n16_
  have GW537 := n17_
  have GE537 := n18_
  have NB483_537 := n19_
  have NB537_483 := n20_
  have NB491_537 := n21_
  have NB537_491 := n22_
  have NB494_537 := n23_
  have NB537_494 := n24_
  have NB512_537 := n25_
  have NB537_512 := n26_
  have NB528_537 := n27_
  have NB537_528 := n28_
  have HB := n29_
  clear n0_ n1_ n2_ n3_ n4_ n5_ n6_ n7_ n8_ n9_ n10_ n11_ n12_ n13_ n14_ n15_ n16_ n17_ n18_ n19_ n20_ n21_ n22_ n23_ n24_ n25_ n26_ n27_ n28_ n29_
  have hHeld : w88.cell? ⟨gb491, 0, none⟩ = some (.slice Ao71 t514.length co71) ∧ w88.cell? ⟨gb491, 1, none⟩ = some (.slice Ao73 t517.length co73) ∧ w88.cell? ⟨gb494, 0, none⟩ = some (.int .i64 (wrap64 (t477 + 1))) ∧ w88.cell? ⟨gb494, 1, none⟩ = some (.int .i64 t478) ∧ w88.cell? ⟨gb494, 2, none⟩ = some (.int .i64 t479) ∧ w88.cell? ⟨gb494, 3, none⟩ = some (.slice Ao38 t480.length co38) := hS_
  obtain ⟨Ao89, co89, eo89⟩ := Kd.R_slice HO532.out
  (first | subst eo89 | (injection eo89 with f1_ f2_ f3_; have f4_ := f1_.symm; have f5_ := f3_.symm; clear f1_ f2_ f3_; subst f4_; subst f5_))
  obtain ⟨Ao91, co91, eo91⟩ := Kd.R_slice HO535.out
  (first | subst eo91 | (injection eo91 with f1_ f2_ f3_; have f4_ := f1_.symm; have f5_ := f3_.symm; clear f1_ f2_ f3_; subst f4_; subst f5_))
  refine norm_ (a' := ?_) ?_ ?_; rotate_left
  · simp only [putAll, Act.put, qa, qb, qc]
    rfl
  refine qs 9 (none) (bz 11 1023) HT_ rfl rfl (fun K hK => ?_)
  have hs90 : w88.cell? ⟨gb537, 0, none⟩ = some (.slice none 0 0) := qx BK537 0
  have hfs90 := blk_frozen BK537.out 0
  have hns90_0 := NB483_537.out
  have hns90_1 := NB491_537.out
  have hns90_2 := NB494_537.out
  have hns90_3 := NB512_537.out
  have hns90_4 := NB528_537.out
  have hms90_0 := NB537_483.out
  have hms90_1 := NB537_491.out
  have hms90_2 := NB537_494.out
  have hms90_3 := NB537_512.out
  have hms90_4 := NB537_528.out
  have hs92 : w88.cell? ⟨gb537, 1, none⟩ = some (.slice none 0 0) := qx BK537 1
  have hfs92 := blk_frozen BK537.out 1
  have hns92_0 := NB483_537.out
  have hns92_1 := NB491_537.out
  have hns92_2 := NB494_537.out
  have hns92_3 := NB512_537.out
  have hns92_4 := NB528_537.out
  have hms92_0 := NB537_483.out
  have hms92_1 := NB537_491.out
  have hms92_2 := NB537_494.out
  have hms92_3 := NB537_512.out
  have hms92_4 := NB537_528.out
  refine skip_ (w1 := ?_) zdy rfl ?_ ?_
  rotate_left
  · go_simp
    rfl
  refine hK.out _ _ ⟨((cell_far (p := ⟨gb537, _, none⟩) NB491_537.out _).trans (((cell_far (p := ⟨gb537, _, none⟩) NB491_537.out _).trans (hHeld.1)))), ((cell_far (p := ⟨gb537, _, none⟩) NB491_537.out _).trans (((cell_far (p := ⟨gb537, _, none⟩) NB491_537.out _).trans (hHeld.2.1)))), ((cell_far (p := ⟨gb537, _, none⟩) NB494_537.out _).trans (((cell_far (p := ⟨gb537, _, none⟩) NB494_537.out _).trans (hHeld.2.2.1)))), ((cell_far (p := ⟨gb537, _, none⟩) NB494_537.out _).trans (((cell_far (p := ⟨gb537, _, none⟩) NB494_537.out _).trans (hHeld.2.2.2.1)))), ((cell_far (p := ⟨gb537, _, none⟩) NB494_537.out _).trans (((cell_far (p := ⟨gb537, _, none⟩) NB494_537.out _).trans (hHeld.2.2.2.2.1)))), ((cell_far (p := ⟨gb537, _, none⟩) NB494_537.out _).trans (((cell_far (p := ⟨gb537, _, none⟩) NB494_537.out _).trans (hHeld.2.2.2.2.2))))⟩ (fun hHeld => ?_)
  clear hK K
  refine ql 10 (some 16) (bz 11 2047) HT_ ?_
  refine qu HT_ ?_
  have hnb93 := NB537_483.out
  have hnc93 := NB483_537.out
  have hnb94 := NB537_491.out
  have hnc94 := NB491_537.out
  have hnb95 := NB537_494.out
  have hnc95 := NB494_537.out
  have hnb96 := NB537_512.out
  have hnc96 := NB512_537.out
  have hnb97 := NB537_528.out
  have hnc97 := NB528_537.out
  obtain ⟨_, _, _, _⟩ := qk2 BK537.out
  try go_wp2_with (first | ((with_reducible refine gate_callee (f := 14) rfl ?_); refine qG (some 85) Try.func14 #[.agg #[.slice Ao89 t530.length co89, .slice Ao91 t533.length co91]] ?_; (with_reducible refine (impl_BestMeta.calls k _ _ t530 _ _ t533 t538 t539 t540 t541 true _ ?side1 ?side2 ?side3 ?side4 A16.out).mono ?_); (case side1 => refine (Kd.R_reads' (e := 9) (base := w.heap.size) (ok := fun k_ => (some k_ ≠ (.slice Ao41 t484.length co41 : Value).ownBlock ∧ (some k_ ≠ (.slice Ao56 t498.length co56 : Value).ownBlock ∧ some k_ ≠ (.slice Ao71 t514.length co71 : Value).ownBlock))) (n := t530.length) (c := co89) ?_).2.2; exact (rK HO532.out BK537.out)); (case side2 => exact (Kd.R_reads' HO532.out).2.1); (case side3 => refine (Kd.R_reads' (e := 83) (base := w.heap.size) (ok := fun k_ => (some k_ ≠ (.slice Ao44 t487.length co44 : Value).ownBlock ∧ (some k_ ≠ (.slice Ao58 t501.length co58 : Value).ownBlock ∧ some k_ ≠ (.slice Ao73 t517.length co73 : Value).ownBlock))) (n := t533.length) (c := co91) ?_).2.2; exact (rK HO535.out BK537.out)); (case side4 => exact (Kd.R_reads' HO535.out).2.1); rintro e w99 ⟨v542, rfl, ho0, hb⟩; refine ⟨_, rfl, ?_⟩; replace HO486 := Aside0.mk (Kd.R_below (rK HO486.out BK537.out) hb); replace HO489 := Aside0.mk (Kd.R_below (rK HO489.out BK537.out) hb); replace HO500 := Aside0.mk (Kd.R_below (rK HO500.out BK537.out) hb); replace HO503 := Aside0.mk (Kd.R_below (rK HO503.out BK537.out) hb); replace HO516 := Aside0.mk (Kd.R_below (rK HO516.out BK537.out) hb); replace HO519 := Aside0.mk (Kd.R_below (rK HO519.out BK537.out) hb); replace HO532 := Aside0.mk (Kd.R_below (rK HO532.out BK537.out) hb); replace HO535 := Aside0.mk (Kd.R_below (rK HO535.out BK537.out) hb); have HO543 := Aside0.mk (Kd.S_lower (Kd.S_new' (Kd.S_new' (Kd.S_new' ho0 (Kd.S_lt (sK HO482.out BK537.out))) (Kd.S_lt (sK HO510.out BK537.out))) (Kd.S_lt (sK HO526.out BK537.out))) (below_size zq)); replace HO482 := Aside0.mk (Kd.S_elder' (sK HO482.out BK537.out) (Kd.S_base ho0) hb); replace HO510 := Aside0.mk (Kd.S_elder' (sK HO510.out BK537.out) (Kd.S_base ho0) hb); replace HO526 := Aside0.mk (Kd.S_elder' (sK HO526.out BK537.out) (Kd.S_base ho0) hb); replace BK483 := Aside0.mk (blk_below (bK BK483.out NB483_537.out) hb); replace BK491 := Aside0.mk (blk_below (bK BK491.out NB491_537.out) hb); replace BK494 := Aside0.mk (blk_below (bK BK494.out NB494_537.out) hb); replace BK512 := Aside0.mk (blk_below (bK BK512.out NB512_537.out) hb); replace BK528 := Aside0.mk (blk_below (bK BK528.out NB528_537.out) hb); replace BK537 := Aside0.mk (blk_below (g := gb537) (o := .cells #[.slice Ao89 t530.length co89, .slice Ao91 t533.length co91] 38 (0, 0)) (p2 BK537.out) hb); replace HB := Aside0.mk (below_step zq hb); try clear hb ho0) | ((with_reducible refine gate_dst (N := 17) rfl ?_); refine qB 17 #[.int .i64 0, .int .i64 0, .int .i64 0, .slice none 0 0] 24 ?_; intro gb545 hg w100 hbox hb; replace HO482 := Aside0.mk (Kd.S_below zad hb); replace HO486 := Aside0.mk (Kd.R_below zak hb); replace HO489 := Aside0.mk (Kd.R_below zal hb); replace HO500 := Aside0.mk (Kd.R_below zaz hb); replace HO503 := Aside0.mk (Kd.R_below za0 hb); replace HO510 := Aside0.mk (Kd.S_below zar hb); replace HO516 := Aside0.mk (Kd.R_below zbm hb); replace HO519 := Aside0.mk (Kd.R_below zbn hb); replace HO526 := Aside0.mk (Kd.S_below za1 hb); replace HO532 := Aside0.mk (Kd.R_below (by (with_reducible repeat (first | apply Kd.R_alloc | apply Kd.R_drewN | apply Kd.R_drew)); exact HO532.out) hb); replace HO535 := Aside0.mk (Kd.R_below (by (with_reducible repeat (first | apply Kd.R_alloc | apply Kd.R_drewN | apply Kd.R_drew)); exact HO535.out) hb); replace HO543 := Aside0.mk (Kd.S_below zc5 hb); have BK545 := Aside0.mk (hbox); have GW545 := Aside0.mk ((by rw [hg]; exact (below_size zq) : w.heap.size ≤ gb545)); have GE545 := GW545; replace HB := Aside0.mk (below_step zq hb); have NB483_545 := Aside0.mk ((zdi : gb483 ≠ gb545)); have NB545_483 := Aside0.mk NB483_545.out.symm; replace BK483 := Aside0.mk (bB BK483.out hb); have NB491_545 := Aside0.mk ((zdt : gb491 ≠ gb545)); have NB545_491 := Aside0.mk NB491_545.out.symm; replace BK491 := Aside0.mk (bB BK491.out hb); have NB494_545 := Aside0.mk ((zdx : gb494 ≠ gb545)); have NB545_494 := Aside0.mk NB494_545.out.symm; replace BK494 := Aside0.mk (bB BK494.out hb); have NB512_545 := Aside0.mk ((zdz : gb512 ≠ gb545)); have NB545_512 := Aside0.mk NB512_545.out.symm; replace BK512 := Aside0.mk (bB BK512.out hb); have NB528_545 := Aside0.mk ((zd2 : gb528 ≠ gb545)); have NB545_528 := Aside0.mk NB528_545.out.symm; replace BK528 := Aside0.mk (bB BK528.out hb); have NB537_545 := Aside0.mk ((zd7 : gb537 ≠ gb545)); have NB545_537 := Aside0.mk NB537_545.out.symm; replace BK537 := Aside0.mk (bB BK537.out hb); clear hb hbox hg; have hnb101 := NB545_483.out; have hnc101 := NB483_545.out; have hnb102 := NB545_491.out; have hnc102 := NB491_545.out; have hnb103 := NB545_494.out; have hnc103 := NB494_545.out; have hnb104 := NB545_512.out; have hnc104 := NB512_545.out; have hnb105 := NB545_528.out; have hnc105 := NB528_545.out; have hnb106 := NB545_537.out; have hnc106 := NB537_545.out; obtain ⟨_, _, _, _, _, _, _, _⟩ := qk4 BK545.out; obtain ⟨Ao108, co108, eo108⟩ := Kd.S_slice HO543.out; subst eo108) | ((with_reducible refine gate_callee (f := 23) rfl ?_); refine qG (some 89) Try.func23 #[.slice A0 l0.length c0] ?_; (with_reducible refine (spec_DrawBestMeta.calls k _ _ l0 t546 t549 _ ?side1 ?side2 A17.out).mono ?_); (case side1 => exact Kd.C_below HR0.out zae); (case side2 => exact HC0.out); rintro e w109 ⟨v547, v550, rfl, ho0, ho1, hb⟩; refine ⟨_, rfl, ?_⟩; replace HO482 := Aside0.mk (Kd.S_below (sK HO482.out BK545.out) hb); replace HO510 := Aside0.mk (Kd.S_below (sK HO510.out BK545.out) hb); replace HO526 := Aside0.mk (Kd.S_below (sK HO526.out BK545.out) hb); replace HO543 := Aside0.mk (Kd.S_below (sK HO543.out BK545.out) hb); have HO548 := Aside0.mk (Kd.R_lower (Kd.R_new' (Kd.R_new' (Kd.R_new' (Kd.R_new' ho0 (Kd.R_lt (rK HO486.out BK545.out))) (Kd.R_lt (rK HO500.out BK545.out))) (Kd.R_lt (rK HO516.out BK545.out))) (Kd.R_lt (rK HO532.out BK545.out))) (below_size zae)); have HO551 := Aside0.mk (Kd.R_lower (Kd.R_new' (Kd.R_new' (Kd.R_new' (Kd.R_new' ho1 (Kd.R_lt (rK HO489.out BK545.out))) (Kd.R_lt (rK HO503.out BK545.out))) (Kd.R_lt (rK HO519.out BK545.out))) (Kd.R_lt (rK HO535.out BK545.out))) (below_size zae)); replace BK483 := Aside0.mk (blk_below (bK BK483.out NB483_545.out) hb); replace BK491 := Aside0.mk (blk_below (bK BK491.out NB491_545.out) hb); replace BK494 := Aside0.mk (blk_below (bK BK494.out NB494_545.out) hb); replace BK512 := Aside0.mk (blk_below (bK BK512.out NB512_545.out) hb); replace BK528 := Aside0.mk (blk_below (bK BK528.out NB528_545.out) hb); replace BK537 := Aside0.mk (blk_below (bK BK537.out NB537_545.out) hb); replace BK545 := Aside0.mk (blk_below (g := gb545) (o := .cells #[.int .i64 t538, .int .i64 t539, .int .i64 t540, .slice Ao108 t541.length co108] 24 (0, 0)) (p4 BK545.out) hb); replace HB := Aside0.mk (below_step zae hb); try clear hb ho0 ho1) | ((with_reducible refine gate_dst (N := 19) rfl ?_); refine qB 19 #[.slice none 0 0, .slice none 0 0] 38 ?_; intro gb552 hg w110 hbox hb; replace HO482 := Aside0.mk (Kd.S_below zad hb); replace HO510 := Aside0.mk (Kd.S_below zar hb); replace HO526 := Aside0.mk (Kd.S_below za1 hb); replace HO543 := Aside0.mk (Kd.S_below zc5 hb); replace HO548 := Aside0.mk (Kd.R_below (by (with_reducible repeat (first | apply Kd.R_alloc | apply Kd.R_drewN | apply Kd.R_drew)); exact HO548.out) hb); replace HO551 := Aside0.mk (Kd.R_below (by (with_reducible repeat (first | apply Kd.R_alloc | apply Kd.R_drewN | apply Kd.R_drew)); exact HO551.out) hb); have BK552 := Aside0.mk (hbox); have GW552 := Aside0.mk ((by rw [hg]; exact (below_size zae) : w.heap.size ≤ gb552)); have GE552 := GW552; replace HB := Aside0.mk (below_step zae hb); have NB483_552 := Aside0.mk ((zdi : gb483 ≠ gb552)); have NB552_483 := Aside0.mk NB483_552.out.symm; replace BK483 := Aside0.mk (bB BK483.out hb); have NB491_552 := Aside0.mk ((zdt : gb491 ≠ gb552)); have NB552_491 := Aside0.mk NB491_552.out.symm; replace BK491 := Aside0.mk (bB BK491.out hb); have NB494_552 := Aside0.mk ((zdx : gb494 ≠ gb552)); have NB552_494 := Aside0.mk NB494_552.out.symm; replace BK494 := Aside0.mk (bB BK494.out hb); have NB512_552 := Aside0.mk ((zdz : gb512 ≠ gb552)); have NB552_512 := Aside0.mk NB512_552.out.symm; replace BK512 := Aside0.mk (bB BK512.out hb); have NB528_552 := Aside0.mk ((zd2 : gb528 ≠ gb552)); have NB552_528 := Aside0.mk NB528_552.out.symm; replace BK528 := Aside0.mk (bB BK528.out hb); have NB537_552 := Aside0.mk ((zd7 : gb537 ≠ gb552)); have NB552_537 := Aside0.mk NB537_552.out.symm; replace BK537 := Aside0.mk (bB BK537.out hb); have NB545_552 := Aside0.mk ((zed : gb545 ≠ gb552)); have NB552_545 := Aside0.mk NB545_552.out.symm; replace BK545 := Aside0.mk (bB BK545.out hb); clear hb hbox hg; obtain ⟨Ao111, co111, eo111⟩ := Kd.R_slice HO548.out; subst eo111; have hnb112 := NB552_483.out; have hnc112 := NB483_552.out; have hnb113 := NB552_491.out; have hnc113 := NB491_552.out; have hnb114 := NB552_494.out; have hnc114 := NB494_552.out; have hnb115 := NB552_512.out; have hnc115 := NB512_552.out; have hnb116 := NB552_528.out; have hnc116 := NB528_552.out; have hnb117 := NB552_537.out; have hnc117 := NB537_552.out; have hnb118 := NB552_545.out; have hnc118 := NB545_552.out; obtain ⟨_, _, _, _⟩ := qk2 BK552.out; obtain ⟨Ao120, co120, eo120⟩ := Kd.R_slice HO551.out; subst eo120) | ((with_reducible refine gate_callee (f := 14) rfl ?_); refine qG (some 92) Try.func14 #[.agg #[.slice Ao111 t546.length co111, .slice Ao120 t549.length co120]] ?_; (with_reducible refine (impl_BestMeta.calls k _ _ t546 _ _ t549 t553 t554 t555 t556 t559 _ ?side1 ?side2 ?side3 ?side4 A18.out).mono ?_); (case side1 => refine (Kd.R_reads' (e := 9) (base := w.heap.size) (ok := fun k_ => ((((True ∧ some k_ ≠ (.slice Ao41 t484.length co41 : Value).ownBlock) ∧ some k_ ≠ (.slice Ao56 t498.length co56 : Value).ownBlock) ∧ some k_ ≠ (.slice Ao71 t514.length co71 : Value).ownBlock) ∧ some k_ ≠ (.slice Ao89 t530.length co89 : Value).ownBlock)) (n := t546.length) (c := co111) ?_).2.2; exact (rK HO548.out BK552.out)); (case side2 => exact (Kd.R_reads' HO548.out).2.1); (case side3 => refine (Kd.R_reads' (e := 83) (base := w.heap.size) (ok := fun k_ => ((((True ∧ some k_ ≠ (.slice Ao44 t487.length co44 : Value).ownBlock) ∧ some k_ ≠ (.slice Ao58 t501.length co58 : Value).ownBlock) ∧ some k_ ≠ (.slice Ao73 t517.length co73 : Value).ownBlock) ∧ some k_ ≠ (.slice Ao91 t533.length co91 : Value).ownBlock)) (n := t549.length) (c := co120) ?_).2.2; exact (rK HO551.out BK552.out)); (case side4 => exact (Kd.R_reads' HO551.out).2.1); rintro e w121 ⟨v557, rfl, ho0, hb⟩; refine ⟨_, rfl, ?_⟩; replace HO548 := Aside0.mk (Kd.R_below (rK HO548.out BK552.out) hb); replace HO551 := Aside0.mk (Kd.R_below (rK HO551.out BK552.out) hb); have HO558 := Aside0.mk (Kd.S_lower (Kd.S_new' (Kd.S_new' (Kd.S_new' (Kd.S_new' ho0 (Kd.S_lt (sK HO482.out BK552.out))) (Kd.S_lt (sK HO510.out BK552.out))) (Kd.S_lt (sK HO526.out BK552.out))) (Kd.S_lt (sK HO543.out BK552.out))) (below_size zav)); replace HO482 := Aside0.mk (Kd.S_elder' (sK HO482.out BK552.out) (Kd.S_base ho0) hb); replace HO510 := Aside0.mk (Kd.S_elder' (sK HO510.out BK552.out) (Kd.S_base ho0) hb); replace HO526 := Aside0.mk (Kd.S_elder' (sK HO526.out BK552.out) (Kd.S_base ho0) hb); replace HO543 := Aside0.mk (Kd.S_elder' (sK HO543.out BK552.out) (Kd.S_base ho0) hb); replace BK483 := Aside0.mk (blk_below (bK BK483.out NB483_552.out) hb); replace BK491 := Aside0.mk (blk_below (bK BK491.out NB491_552.out) hb); replace BK494 := Aside0.mk (blk_below (bK BK494.out NB494_552.out) hb); replace BK512 := Aside0.mk (blk_below (bK BK512.out NB512_552.out) hb); replace BK528 := Aside0.mk (blk_below (bK BK528.out NB528_552.out) hb); replace BK537 := Aside0.mk (blk_below (bK BK537.out NB537_552.out) hb); replace BK545 := Aside0.mk (blk_below (bK BK545.out NB545_552.out) hb); replace BK552 := Aside0.mk (blk_below (g := gb552) (o := .cells #[.slice Ao111 t546.length co111, .slice Ao120 t549.length co120] 38 (0, 0)) (p2 BK552.out) hb); replace HB := Aside0.mk (below_step zav hb); try clear hb ho0) | ((with_reducible refine gate_dst (N := 20) rfl ?_); refine qB 20 #[.int .i64 0, .int .i64 0, .int .i64 0, .slice none 0 0] 24 ?_; intro gb560 hg w122 hbox hb; replace HO482 := Aside0.mk (Kd.S_below zad hb); replace HO510 := Aside0.mk (Kd.S_below zar hb); replace HO526 := Aside0.mk (Kd.S_below za1 hb); replace HO543 := Aside0.mk (Kd.S_below zc5 hb); replace HO548 := Aside0.mk (Kd.R_below (by (with_reducible repeat (first | apply Kd.R_alloc | apply Kd.R_drewN | apply Kd.R_drew)); exact HO548.out) hb); replace HO551 := Aside0.mk (Kd.R_below (by (with_reducible repeat (first | apply Kd.R_alloc | apply Kd.R_drewN | apply Kd.R_drew)); exact HO551.out) hb); replace HO558 := Aside0.mk (Kd.S_below zdv hb); have BK560 := Aside0.mk (hbox); have GW560 := Aside0.mk ((by rw [hg]; exact (below_size zav) : w.heap.size ≤ gb560)); have GE560 := GW560; replace HB := Aside0.mk (below_step zav hb); have NB483_560 := Aside0.mk ((zdi : gb483 ≠ gb560)); have NB560_483 := Aside0.mk NB483_560.out.symm; replace BK483 := Aside0.mk (bB BK483.out hb); have NB491_560 := Aside0.mk ((zdt : gb491 ≠ gb560)); have NB560_491 := Aside0.mk NB491_560.out.symm; replace BK491 := Aside0.mk (bB BK491.out hb); have NB494_560 := Aside0.mk ((zdx : gb494 ≠ gb560)); have NB560_494 := Aside0.mk NB494_560.out.symm; replace BK494 := Aside0.mk (bB BK494.out hb); have NB512_560 := Aside0.mk ((zdz : gb512 ≠ gb560)); have NB560_512 := Aside0.mk NB512_560.out.symm; replace BK512 := Aside0.mk (bB BK512.out hb); have NB528_560 := Aside0.mk ((zd2 : gb528 ≠ gb560)); have NB560_528 := Aside0.mk NB528_560.out.symm; replace BK528 := Aside0.mk (bB BK528.out hb); have NB537_560 := Aside0.mk ((zd7 : gb537 ≠ gb560)); have NB560_537 := Aside0.mk NB537_560.out.symm; replace BK537 := Aside0.mk (bB BK537.out hb); have NB545_560 := Aside0.mk ((zed : gb545 ≠ gb560)); have NB560_545 := Aside0.mk NB545_560.out.symm; replace BK545 := Aside0.mk (bB BK545.out hb); have NB552_560 := Aside0.mk ((by rw [hg]; exact Nat.ne_of_lt (bL BK552.out) : gb552 ≠ gb560)); have NB560_552 := Aside0.mk NB552_560.out.symm; replace BK552 := Aside0.mk (bB BK552.out hb); clear hb hbox hg; have hnb123 := NB560_483.out; have hnc123 := NB483_560.out; have hnb124 := NB560_491.out; have hnc124 := NB491_560.out; have hnb125 := NB560_494.out; have hnc125 := NB494_560.out; have hnb126 := NB560_512.out; have hnc126 := NB512_560.out; have hnb127 := NB560_528.out; have hnc127 := NB528_560.out; have hnb128 := NB560_537.out; have hnc128 := NB537_560.out; have hnb129 := NB560_545.out; have hnc129 := NB545_560.out; have hnb130 := NB560_552.out; have hnc130 := NB552_560.out; obtain ⟨_, _, _, _, _, _, _, _⟩ := qk4 BK560.out; obtain ⟨Ao132, co132, eo132⟩ := Kd.S_slice HO558.out; subst eo132; obtain ⟨_, _, _, _⟩ := qk2 BK552.out) | ((with_reducible refine gate_callee (f := 12) rfl ?_); refine qG (some 97) Try.func12 #[.agg #[.slice Ao111 t546.length co111, .slice Ao120 t549.length co120]] ?_; (with_reducible refine (spec_BestMeta.calls k _ _ t546 _ _ t549 t561 t562 t563 t564 t567 _ ?side1 ?side2 ?side3 ?side4 A19.out).mono ?_); (case side1 => refine (Kd.R_reads' (e := 9) (base := w.heap.size) (ok := fun k_ => ((((True ∧ some k_ ≠ (.slice Ao41 t484.length co41 : Value).ownBlock) ∧ some k_ ≠ (.slice Ao56 t498.length co56 : Value).ownBlock) ∧ some k_ ≠ (.slice Ao71 t514.length co71 : Value).ownBlock) ∧ some k_ ≠ (.slice Ao89 t530.length co89 : Value).ownBlock)) (n := t546.length) (c := co111) ?_).2.2; exact (rK HO548.out BK560.out)); (case side2 => exact (Kd.R_reads' HO548.out).2.1); (case side3 => refine (Kd.R_reads' (e := 83) (base := w.heap.size) (ok := fun k_ => ((((True ∧ some k_ ≠ (.slice Ao44 t487.length co44 : Value).ownBlock) ∧ some k_ ≠ (.slice Ao58 t501.length co58 : Value).ownBlock) ∧ some k_ ≠ (.slice Ao73 t517.length co73 : Value).ownBlock) ∧ some k_ ≠ (.slice Ao91 t533.length co91 : Value).ownBlock)) (n := t549.length) (c := co120) ?_).2.2; exact (rK HO551.out BK560.out)); (case side4 => exact (Kd.R_reads' HO551.out).2.1); rintro e w134 ⟨v565, rfl, ho0, hb⟩; refine ⟨_, rfl, ?_⟩; have HO566 := Aside0.mk (Kd.S_lower (Kd.S_new' (Kd.S_new' (Kd.S_new' (Kd.S_new' (Kd.S_new' ho0 (Kd.S_lt (sK HO482.out BK560.out))) (Kd.S_lt (sK HO510.out BK560.out))) (Kd.S_lt (sK HO526.out BK560.out))) (Kd.S_lt (sK HO543.out BK560.out))) (Kd.S_lt (sK HO558.out BK560.out))) (below_size zaq)); replace HO482 := Aside0.mk (Kd.S_elder' (sK HO482.out BK560.out) (Kd.S_base ho0) hb); replace HO510 := Aside0.mk (Kd.S_elder' (sK HO510.out BK560.out) (Kd.S_base ho0) hb); replace HO526 := Aside0.mk (Kd.S_elder' (sK HO526.out BK560.out) (Kd.S_base ho0) hb); replace HO543 := Aside0.mk (Kd.S_elder' (sK HO543.out BK560.out) (Kd.S_base ho0) hb); replace HO558 := Aside0.mk (Kd.S_elder' (sK HO558.out BK560.out) (Kd.S_base ho0) hb); replace BK483 := Aside0.mk (blk_below (bK BK483.out NB483_560.out) hb); replace BK491 := Aside0.mk (blk_below (bK BK491.out NB491_560.out) hb); replace BK494 := Aside0.mk (blk_below (bK BK494.out NB494_560.out) hb); replace BK512 := Aside0.mk (blk_below (bK BK512.out NB512_560.out) hb); replace BK528 := Aside0.mk (blk_below (bK BK528.out NB528_560.out) hb); replace BK537 := Aside0.mk (blk_below (bK BK537.out NB537_560.out) hb); replace BK545 := Aside0.mk (blk_below (bK BK545.out NB545_560.out) hb); replace BK552 := Aside0.mk (blk_below (bK BK552.out NB552_560.out) hb); replace BK560 := Aside0.mk (blk_below (g := gb560) (o := .cells #[.int .i64 t553, .int .i64 t554, .int .i64 t555, .slice Ao132 t556.length co132] 24 (0, 0)) (p4 BK560.out) hb); replace HB := Aside0.mk (below_step zaq hb); try clear hb ho0) | ((with_reducible refine gate_dst (N := 22) rfl ?_); refine qB 22 #[.int .i64 0, .int .i64 0, .int .i64 0, .slice none 0 0] 24 ?_; intro gb568 hg w135 hbox hb; replace HO482 := Aside0.mk (Kd.S_below zad hb); replace HO510 := Aside0.mk (Kd.S_below zar hb); replace HO526 := Aside0.mk (Kd.S_below za1 hb); replace HO543 := Aside0.mk (Kd.S_below zc5 hb); replace HO558 := Aside0.mk (Kd.S_below zdv hb); replace HO566 := Aside0.mk (Kd.S_below zd1 hb); have BK568 := Aside0.mk (hbox); have GW568 := Aside0.mk ((by rw [hg]; exact (below_size zaq) : w.heap.size ≤ gb568)); have GE568 := GW568; replace HB := Aside0.mk (below_step zaq hb); have NB483_568 := Aside0.mk ((zdi : gb483 ≠ gb568)); have NB568_483 := Aside0.mk NB483_568.out.symm; replace BK483 := Aside0.mk (bB BK483.out hb); have NB491_568 := Aside0.mk ((zdt : gb491 ≠ gb568)); have NB568_491 := Aside0.mk NB491_568.out.symm; have NB494_568 := Aside0.mk ((zdx : gb494 ≠ gb568)); have NB568_494 := Aside0.mk NB494_568.out.symm; replace BK494 := Aside0.mk (bB BK494.out hb); have NB512_568 := Aside0.mk ((zdz : gb512 ≠ gb568)); have NB568_512 := Aside0.mk NB512_568.out.symm; replace BK512 := Aside0.mk (bB BK512.out hb); have NB528_568 := Aside0.mk ((zd2 : gb528 ≠ gb568)); have NB568_528 := Aside0.mk NB528_568.out.symm; replace BK528 := Aside0.mk (bB BK528.out hb); have NB537_568 := Aside0.mk ((zd7 : gb537 ≠ gb568)); have NB568_537 := Aside0.mk NB537_568.out.symm; have NB545_568 := Aside0.mk ((zed : gb545 ≠ gb568)); have NB568_545 := Aside0.mk NB545_568.out.symm; replace BK545 := Aside0.mk (bB BK545.out hb); have NB552_568 := Aside0.mk ((by rw [hg]; exact Nat.ne_of_lt (bL BK552.out) : gb552 ≠ gb568)); have NB568_552 := Aside0.mk NB552_568.out.symm; have NB560_568 := Aside0.mk ((by rw [hg]; exact Nat.ne_of_lt (bL BK560.out) : gb560 ≠ gb568)); have NB568_560 := Aside0.mk NB560_568.out.symm; replace BK560 := Aside0.mk (bB BK560.out hb); clear hb hbox hg; have hnb136 := NB568_483.out; have hnc136 := NB483_568.out; have hnb137 := NB568_491.out; have hnc137 := NB491_568.out; have hnb138 := NB568_494.out; have hnc138 := NB494_568.out; have hnb139 := NB568_512.out; have hnc139 := NB512_568.out; have hnb140 := NB568_528.out; have hnc140 := NB528_568.out; have hnb141 := NB568_537.out; have hnc141 := NB537_568.out; have hnb142 := NB568_545.out; have hnc142 := NB545_568.out; have hnb143 := NB568_552.out; have hnc143 := NB552_568.out; have hnb144 := NB568_560.out; have hnc144 := NB560_568.out; obtain ⟨_, _, _, _, _, _, _, _⟩ := qk4 BK568.out; obtain ⟨Ao146, co146, eo146⟩ := Kd.S_slice HO566.out; subst eo146; obtain ⟨_, _, _, _, _, _, _, _⟩ := qk4 BK512.out; obtain ⟨_, _, _, _, _, _, _, _⟩ := qk4 BK483.out) | (go_at_call 24; (with_reducible refine (laws_sameMeta.calls k t505 t506 t507 _ _ t508 t477 t478 t479 _ _ t480 true _ ?side1 ?side2 ?side3 ?side4 A21.out).mono ?_); (case side1 => refine (Kd.S_reads' (e := 60) (base := w.heap.size) (ok := fun k_ => ((((some k_ ≠ (.slice Ao38 t480.length co38 : Value).ownBlock ∧ some k_ ≠ (.slice Ao83 t524.length co83 : Value).ownBlock) ∧ some k_ ≠ (.slice Ao108 t541.length co108 : Value).ownBlock) ∧ some k_ ≠ (.slice Ao132 t556.length co132 : Value).ownBlock) ∧ some k_ ≠ (.slice Ao146 t564.length co146 : Value).ownBlock)) (n := t508.length) (c := co67) ?_).2.2; exact (sK HO510.out BK568.out)); (case side2 => exact (Kd.S_reads' HO510.out).2.1); (case side3 => refine (Kd.S_reads' (e := 60) (base := w.heap.size) (ok := fun k_ => ((((some k_ ≠ (.slice Ao67 t508.length co67 : Value).ownBlock ∧ some k_ ≠ (.slice Ao83 t524.length co83 : Value).ownBlock) ∧ some k_ ≠ (.slice Ao108 t541.length co108 : Value).ownBlock) ∧ some k_ ≠ (.slice Ao132 t556.length co132 : Value).ownBlock) ∧ some k_ ≠ (.slice Ao146 t564.length co146 : Value).ownBlock)) (n := t480.length) (c := co38) ?_).2.2; exact (sK HO482.out BK568.out)); (case side4 => exact (Kd.S_reads' HO482.out).2.1); rintro e w149 ⟨rfl, hb⟩; replace HO482 := Aside0.mk (Kd.S_below (sK HO482.out BK568.out) hb); replace HO526 := Aside0.mk (Kd.S_below (sK HO526.out BK568.out) hb); replace HO543 := Aside0.mk (Kd.S_below (sK HO543.out BK568.out) hb); replace HO558 := Aside0.mk (Kd.S_below (sK HO558.out BK568.out) hb); replace HO566 := Aside0.mk (Kd.S_below (sK HO566.out BK568.out) hb); replace BK483 := Aside0.mk (blk_below (bK BK483.out NB483_568.out) hb); replace BK494 := Aside0.mk (blk_below (bK BK494.out NB494_568.out) hb); replace BK528 := Aside0.mk (blk_below (bK BK528.out NB528_568.out) hb); replace BK545 := Aside0.mk (blk_below (bK BK545.out NB545_568.out) hb); replace BK560 := Aside0.mk (blk_below (bK BK560.out NB560_568.out) hb); replace BK568 := Aside0.mk (blk_below (g := gb568) (o := .cells #[.int .i64 t561, .int .i64 t562, .int .i64 t563, .slice Ao146 t564.length co146] 24 (0, 0)) (p4 BK568.out) hb); replace HB := Aside0.mk (below_step zab hb); try clear hb; obtain ⟨_, _, _, _, _, _, _, _⟩ := qk4 BK528.out; obtain ⟨_, _, _, _, _, _, _, _⟩ := qk4 BK494.out) | (go_at_call 24; (with_reducible refine (laws_sameMeta.calls k t521 t522 t523 _ _ t524 (wrap64 (t477 + 1)) t478 t479 _ _ t480 true _ ?side1 ?side2 ?side3 ?side4 A24.out).mono ?_); (case side1 => exact (by repeat (first | exact (Kd.S_reads' HO526.out).2.2 | (with_reducible refine Kd.C_alloc ?_ _) | (with_reducible refine Kd.C_drewN ?_ _) | (with_reducible refine Kd.C_drew ?_)))); (case side2 => exact (Kd.S_reads' HO526.out).2.1); (case side3 => exact (by repeat (first | exact (Kd.S_reads' HO482.out).2.2 | (with_reducible refine Kd.C_alloc ?_ _) | (with_reducible refine Kd.C_drewN ?_ _) | (with_reducible refine Kd.C_drew ?_)))); (case side4 => exact (Kd.S_reads' HO482.out).2.1); rintro e w152 ⟨rfl, hb⟩; replace HO482 := Aside0.mk (Kd.S_below zad hb); replace HO543 := Aside0.mk (Kd.S_below zc5 hb); replace HO558 := Aside0.mk (Kd.S_below zdv hb); replace HO566 := Aside0.mk (Kd.S_below zd1 hb); replace BK483 := Aside0.mk (bB BK483.out hb); replace BK545 := Aside0.mk (bB BK545.out hb); replace BK560 := Aside0.mk (bB BK560.out hb); replace BK568 := Aside0.mk (bB BK568.out hb); replace HB := Aside0.mk (below_step zab hb); try clear hb; obtain ⟨_, _, _, _, _, _, _, _⟩ := qk4 BK545.out; obtain ⟨_, _, _, _, _, _, _, _⟩ := qk4 BK483.out) | (go_at_call 24; (with_reducible refine (laws_sameMeta.calls k t538 t539 t540 _ _ t541 t477 t478 t479 _ _ t480 true _ ?side1 ?side2 ?side3 ?side4 A27.out).mono ?_); (case side1 => exact (by repeat (first | exact (Kd.S_reads' HO543.out).2.2 | (with_reducible refine Kd.C_alloc ?_ _) | (with_reducible refine Kd.C_drewN ?_ _) | (with_reducible refine Kd.C_drew ?_)))); (case side2 => exact (Kd.S_reads' HO543.out).2.1); (case side3 => exact (by repeat (first | exact (Kd.S_reads' HO482.out).2.2 | (with_reducible refine Kd.C_alloc ?_ _) | (with_reducible refine Kd.C_drewN ?_ _) | (with_reducible refine Kd.C_drew ?_)))); (case side4 => exact (Kd.S_reads' HO482.out).2.1); rintro e w155 ⟨rfl, hb⟩; replace HO558 := Aside0.mk (Kd.S_below zdv hb); replace HO566 := Aside0.mk (Kd.S_below zd1 hb); replace BK560 := Aside0.mk (bB BK560.out hb); replace BK568 := Aside0.mk (bB BK568.out hb); replace HB := Aside0.mk (below_step zab hb); try clear hb; obtain ⟨_, _, _, _, _, _, _, _⟩ := qk4 BK560.out; obtain ⟨_, _, _, _, _, _, _, _⟩ := qk4 BK568.out) | (go_at_call 24; (with_reducible refine (laws_sameMeta.calls k t553 t554 t555 _ _ t556 t561 t562 t563 _ _ t564 true _ ?side1 ?side2 ?side3 ?side4 A30.out).mono ?_); (case side1 => exact (by repeat (first | exact (Kd.S_reads' HO558.out).2.2 | (with_reducible refine Kd.C_alloc ?_ _) | (with_reducible refine Kd.C_drewN ?_ _) | (with_reducible refine Kd.C_drew ?_)))); (case side2 => exact (Kd.S_reads' HO558.out).2.1); (case side3 => exact (by repeat (first | exact (Kd.S_reads' HO566.out).2.2 | (with_reducible refine Kd.C_alloc ?_ _) | (with_reducible refine Kd.C_drewN ?_ _) | (with_reducible refine Kd.C_drew ?_)))); (case side4 => exact (Kd.S_reads' HO566.out).2.1); rintro e w158 ⟨rfl, hb⟩; replace HB := Aside0.mk (below_step zab hb); try clear hb) | (go_at_call 22; (with_reducible refine (impl_MetaPage.calls 5 t573 _ A32.out).mono ?_); rintro e w' ⟨rfl, ⟨nd, rfl⟩⟩) | (go_at_call 22; (with_reducible refine (impl_MetaPage.calls 6 t574 _ A34.out).mono ?_); rintro e w' ⟨rfl, ⟨nd, rfl⟩⟩))
  go_ret
  exact ⟨zc, zab⟩
/-- THE ONE PURE STATEMENT of laws_FnBest: yours. -/
def laws_FnBest.Pure : Prop := ∀ (l0 : List Int), l0.length ≤ maxLen → l0.length * 1 ≤ 140737488351232 → (∀ x ∈ l0, (Lit.int .u8 x).wf = true) → ∃ k, laws_FnBest.f k l0 = some true
theorem laws_FnBest.walk (P : laws_FnBest.Pure) (a0 : Option Addr) (len0 cap0 : Nat) (z0 : List Int) (w : World) (w0 : (a0 = none ∧ len0 = 0 ∧ cap0 = 0 ∧ z0 = []) ∨ ∃ x, a0 = some x ∧ len0 ≤ cap0 ∧ cap0 ≤ maxLen ∧ z0.length = cap0 ∧ (∀ i, i < z0.length → w.cell? (x.add i) = some (.int .u8 (z0.getD i 0))) ∧ ∀ n ∈ z0, (Lit.int .u8 n).wf = true) (y0 : len0 * 1 ≤ 140737488351232) :
    Calls Try.prog 5 #[.slice a0 len0 cap0] w fun e w' => e = .returned (.bool true) ∧ Below w.heap.size w w' := by
  obtain ⟨l0, rfl, hr0, hm0, hw0, hc0⟩ := ReadsInt.ofRowC w0
  obtain ⟨k, h⟩ := P l0 hm0 y0 hw0
  refine (laws_FnBest.calls k _ _ l0 true w (Kd.C_of_reads (d := (0 : Int)) (h1 := fun _ => rfl) hr0) hc0 h).mono ?_
  rintro e w' ⟨rfl, hd⟩
  exact ⟨rfl, hd⟩

end Go.Proofs.Yteokilffbcbllaa.VFnBest
