-- Written by a program of this repo (wip/myprint.py), over the kit's print; functions that the print does not take stand in it by hand-proved contracts.
import Derived.Test.YteokilffbcbllaaVFnBestx0
import Derived.Test.YteokilffbcbllaaVFnBestx4
import Derived.Test.YteokilffbcbllaaVFnBestx5
import Derived.Test.YteokilffbcbllaaVFnBestx7
namespace Go.Proofs.Yteokilffbcbllaa.VFnBest
open Go.RowKit Go.Proofs.YteokilffbcbllaaW.PrintWords Go.Proofs.YteokilffbcbllaaW.PrintLast Go.Proofs.YteokilffbcbllaaW.PrintMore
attribute [local go_sem] max2_int min2_int max_two min_two max_three min_three max_four min_four   -- for this text's walks alone
attribute [local go_sem high] str_leq str_gtr str_geq str_lss
set_option linter.unusedVariables false
set_option linter.unusedSimpArgs false

/-! ### spec_ReadMeta: function 6 -/
mutual
def spec_ReadMeta.l0 : Nat → ByteArray → Int → Int → ByteArray → Int → Bool → Int → Int → Int → List (S60) → Option (Int × Int × Int × (List (S60)) × Bool)
  | 0, _, _, _, _, _, _, _, _, _, _ => none
  | k + 1, x0, x8, x9, x144000, x144001, x144002, x149000, x149001, x149002, x149003 => if x9 < x8 then (if x9 < 30 then (spec_ReadMeta.j1 k x0 x8 x9 (!x144002) x144000 x144001 x144002 x149000 x149001 x149002 x149003) else (spec_ReadMeta.j1 k x0 x8 x9 false x144000 x144001 x144002 x149000 x149001 x149002 x149003)) else (spec_ReadMeta.j1 k x0 x8 x9 false x144000 x144001 x144002 x149000 x149001 x149002 x149003)
def spec_ReadMeta.j1 : Nat → ByteArray → Int → Int → Bool → ByteArray → Int → Bool → Int → Int → Int → List (S60) → Option (Int × Int × Int × (List (S60)) × Bool)
  | 0, _, _, _, _, _, _, _, _, _, _, _ => none
  | k + 1, x0, x8, x9, x49, x144000, x144001, x144002, x149000, x149001, x149002, x149003 => if x49 = true then ((spec_l04Var.f k x144000 x144001 x144002).bind fun bt163 => ((spec_l04Var.f k bt163.2.1 bt163.2.2.1 bt163.2.2.2).bind fun bt168 => (spec_ReadMeta.l1 k x0 x8 x9 bt168.1 0 bt168.2.1 bt168.2.2.1 bt168.2.2.2 x149000 x149001 x149002 x149003 bt163.1 ([] : List Int)))) else ((spec_MetaText.f k x149000 x149001 x149002 x149003).bind fun bt161 => (if x144002 = true then (some (0, 0, 0, ([] : List (S60)), false)) else (if bt161.2 = true then (if bt161.1.toList = x0.toList then (some (x149000, x149001, x149002, x149003, true)) else (some (0, 0, 0, ([] : List (S60)), false))) else (some (0, 0, 0, ([] : List (S60)), false)))))
def spec_ReadMeta.l1 : Nat → ByteArray → Int → Int → Int → Int → ByteArray → Int → Bool → Int → Int → Int → List (S60) → Int → List Int → Option (Int × Int × Int × (List (S60)) × Bool)
  | 0, _, _, _, _, _, _, _, _, _, _, _, _, _, _ => none
  | k + 1, x0, x8, x9, x11, x12, x144000, x144001, x144002, x149000, x149001, x149002, x149003, x168000, x168001 => if x12 < x11 then (if x12 < 50 then (if x144002 = true then (if x149003.length < 4398046511104 then (spec_ReadMeta.l0 k x0 x8 (wrap64 (x9 + 1)) x144000 x144001 x144002 x149000 x149001 x149002 (x149003 ++ [(⟨x168000, x168001⟩ : S60)])) else (none)) else ((spec_l04Var.f k x144000 x144001 x144002).bind fun bt175 => (if x168001.length < 17592186044416 then (spec_ReadMeta.l1 k x0 x8 x9 x11 (wrap64 (x12 + 1)) bt175.2.1 bt175.2.2.1 bt175.2.2.2 x149000 x149001 x149002 x149003 x168000 (x168001 ++ [bt175.1])) else (none)))) else (if x149003.length < 4398046511104 then (spec_ReadMeta.l0 k x0 x8 (wrap64 (x9 + 1)) x144000 x144001 x144002 x149000 x149001 x149002 (x149003 ++ [(⟨x168000, x168001⟩ : S60)])) else (none))) else (if x149003.length < 4398046511104 then (spec_ReadMeta.l0 k x0 x8 (wrap64 (x9 + 1)) x144000 x144001 x144002 x149000 x149001 x149002 (x149003 ++ [(⟨x168000, x168001⟩ : S60)])) else (none))
end
def spec_ReadMeta.f (k : Nat) (a0 : ByteArray) : Option (Int × Int × Int × (List (S60)) × Bool) := (spec_Unsealed.f k a0).bind fun bt141 => ((spec_l04Var.f k bt141.1 0 (!bt141.2)).bind fun bt144 => ((spec_l04Var.f k bt144.2.1 bt144.2.2.1 bt144.2.2.2).bind fun bt149 => ((spec_l04Var.f k bt149.2.1 bt149.2.2.1 bt149.2.2.2).bind fun bt153 => ((spec_l04Var.f k bt153.2.1 bt153.2.2.1 bt153.2.2.2).bind fun bt157 => (spec_ReadMeta.l0 k a0 bt157.1 0 bt157.2.1 bt157.2.2.1 bt157.2.2.2 bt144.1 bt149.1 bt153.1 ([] : List (S60)))))))
theorem spec_ReadMeta.mono_l : ∀ k, (∀ y0 y1 y2 y3 y4 y5 y6 y7 y8 y9, LeO (spec_ReadMeta.l0 k y0 y1 y2 y3 y4 y5 y6 y7 y8 y9) (spec_ReadMeta.l0 (k + 1) y0 y1 y2 y3 y4 y5 y6 y7 y8 y9)) ∧ (∀ y0 y1 y2 y3 y4 y5 y6 y7 y8 y9 y10, LeO (spec_ReadMeta.j1 k y0 y1 y2 y3 y4 y5 y6 y7 y8 y9 y10) (spec_ReadMeta.j1 (k + 1) y0 y1 y2 y3 y4 y5 y6 y7 y8 y9 y10)) ∧ (∀ y0 y1 y2 y3 y4 y5 y6 y7 y8 y9 y10 y11 y12 y13, LeO (spec_ReadMeta.l1 k y0 y1 y2 y3 y4 y5 y6 y7 y8 y9 y10 y11 y12 y13) (spec_ReadMeta.l1 (k + 1) y0 y1 y2 y3 y4 y5 y6 y7 y8 y9 y10 y11 y12 y13))
  | 0 => ⟨fun _ _ _ _ _ _ _ _ _ _ r h => by simp [spec_ReadMeta.l0] at h, fun _ _ _ _ _ _ _ _ _ _ _ r h => by simp [spec_ReadMeta.j1] at h, fun _ _ _ _ _ _ _ _ _ _ _ _ _ _ r h => by simp [spec_ReadMeta.l1] at h⟩
  | k + 1 => by
    obtain ⟨ih0, ih1, ih2⟩ := spec_ReadMeta.mono_l k
    refine ⟨?_, ?_, ?_⟩
    · intro y0 y1 y2 y3 y4 y5 y6 y7 y8 y9
      unfold spec_ReadMeta.l0
      exact qv
    · intro y0 y1 y2 y3 y4 y5 y6 y7 y8 y9 y10
      unfold spec_ReadMeta.j1
      exact qv
    · intro y0 y1 y2 y3 y4 y5 y6 y7 y8 y9 y10 y11 y12 y13
      unfold spec_ReadMeta.l1
      exact qv
theorem spec_ReadMeta.mono : ∀ a0 k, LeO (spec_ReadMeta.f k a0) (spec_ReadMeta.f (k + 1) a0) := by
  intro a0 k
  obtain ⟨ih0, ih1, ih2⟩ := spec_ReadMeta.mono_l k
  unfold spec_ReadMeta.f
  exact qv
def spec_ReadMeta.T15 : Bool × List (List Nat × List Nat) := (true, [([], []), ([0], [0]), ([], []), ([2], [2]), ([3], [3]), ([1, 4, 3], [1, 4]), ([0, 1, 2, 3, 4, 5], []), ([6, 5, 5, 0, 1, 2, 3, 4, 5], [5, 6])])
def spec_ReadMeta.B15 : List Nat := [0, 1, 0, 4, 12, 31, 63, 127]
theorem spec_ReadMeta.tab15 : rtab .any (opsOf Try.f6 15) = spec_ReadMeta.T15 := by kernel_rfl
theorem spec_ReadMeta.bits15 : waitsOk spec_ReadMeta.T15.2 spec_ReadMeta.B15 = true := by kernel_rfl
set_option maxHeartbeats 8000000 in
set_option maxRecDepth 100000 in
theorem spec_ReadMeta.calls (k : Nat) (a0 : ByteArray) (r1 : Int) (r2 : Int) (r3 : Int) (r4 : List (S60)) (r5 : Bool) (w : World) (h : spec_ReadMeta.f k a0 = some (r1, r2, r3, r4, r5)) :
    Calls Try.prog 6 #[.string a0] w fun e w' => ∃ v3_ : Value, e = .returned (.tuple #[.agg #[.int .i64 r1, .int .i64 r2, .int .i64 r3, v3_], .bool r5]) ∧ Kd.S k60 60 w' w.heap.size (fun _ => True) v3_ r4 ∧ Below w.heap.size w w' := by
  have hu24 := Try.underlying24
  have hu56 := Try.underlying56
  have hu60 := Try.underlying60
  have HB := Aside0.mk (Below.refl w.heap.size w)
  unfold spec_ReadMeta.f at h
  have H := h
  clear h
  replace H := qi H
  obtain ⟨⟨t141, t142⟩, A2, H⟩ := H
  dsimp only at H
  replace H := qi H
  obtain ⟨⟨t144, t145, t146, t147⟩, A3, H⟩ := H
  dsimp only at H
  replace H := qi H
  obtain ⟨⟨t149, t150, t151, t152⟩, A4, H⟩ := H
  dsimp only at H
  replace H := qi H
  obtain ⟨⟨t153, t154, t155, t156⟩, A5, H⟩ := H
  dsimp only at H
  replace H := qi H
  obtain ⟨⟨t157, t158, t159, t160⟩, A6, H⟩ := H
  dsimp only at H
  have H' := Aside0.mk H
  clear H
  go_enter Try.func6, Try.ntmps6
  go_wp2_with (first | ((with_reducible refine gate_dst (N := 2) rfl ?_); refine qB 2 #[.int .i64 0, .int .i64 0, .int .i64 0, .slice none 0 0] 24 ?_; intro gb140 hg w7 hbox hb; have BK140 := Aside0.mk (hbox); have GW140 := Aside0.mk ((zef : w.heap.size ≤ gb140)); have GE140 := GW140; replace HB := Aside0.mk (below_step za hb); clear hb hbox hg) | ((with_reducible refine gate_callee (f := 25) rfl ?_); refine qG (some 17) Try.func25 #[.string a0] ?_; (with_reducible refine (spec_Unsealed.calls k a0 t141 t142 _ A2.out).mono ?_); rintro e w8 ⟨rfl, hb⟩; refine ⟨_, rfl, ?_⟩; replace BK140 := Aside0.mk (bB BK140.out hb); replace HB := Aside0.mk (below_step zc9 hb); try clear hb) | ((with_reducible refine gate_dst (N := 24) rfl ?_); refine qB 24 #[.string t141, .int .i64 0, .bool (!t142)] 56 ?_; intro gb143 hg w9 hbox hb; have HI143 := Aside0.mk ((show IsS56 w w9 gb143 t141 0 (!t142) from ⟨hbox, (by rw [hg]; exact (below_size zc9) : w.heap.size ≤ gb143)⟩)); replace HB := Aside0.mk (below_step zc9 hb); have NB140_143 := Aside0.mk ((zee : gb140 ≠ gb143)); have NB143_140 := Aside0.mk NB140_143.out.symm; replace BK140 := Aside0.mk (bB BK140.out hb); clear hb hbox hg) | ((with_reducible refine gate_callee (f := 26) rfl ?_); refine qG (some 26) Try.func26 #[.pointer (some ⟨gb143, 0, none⟩)] ?_; (with_reducible refine (spec_l04Var.calls k gb143 t141 0 (!t142) t144 t145 t146 t147 w _ ?side1 ?side2 A3.out).mono ?_); (case side1 => exact (by repeat (first | (with_reducible first | exact HI143.out | apply IsS56.alloc | apply IsS56.drewN | apply IsS56.drew | apply IsS56.set_0 | apply IsS56.set_1 | apply IsS56.set_2 | apply IsS56.far (hne := NB143_140.out)) | apply IsS56.far (hne := NB143_140.out) | exact HI143.out))); (case side2 => exact zcq); rintro e w10 ⟨rfl, hi, hb, hk⟩; refine ⟨_, rfl, ?_⟩; replace BK140 := Aside0.mk (KeepBut.blk hk (bP BK140.out) NB140_143.out zdw); replace HB := Aside0.mk (hb); replace HI143 := Aside0.mk (hi); try clear hb hk hi) | ((with_reducible refine gate_dst (N := 7) rfl ?_); refine qB 7 #[.int .i64 0, .int .i64 0, .int .i64 0, .slice none 0 0] 24 ?_; intro gb148 hg w11 hbox hb; have BK148 := Aside0.mk (hbox); have GW148 := Aside0.mk ((by rw [hg]; exact (below_size zcq) : w.heap.size ≤ gb148)); have GE148 := GW148; replace HB := Aside0.mk (below_step zcq hb); have NB140_148 := Aside0.mk ((zee : gb140 ≠ gb148)); have NB148_140 := Aside0.mk NB140_148.out.symm; replace BK140 := Aside0.mk (bB BK140.out hb); have NB143_148 := Aside0.mk ((by rw [hg]; exact Nat.ne_of_lt (IsS56.lt (show IsS56 w _ gb143 t145 t146 t147 from by repeat (first | (with_reducible first | exact HI143.out | apply IsS56.alloc | apply IsS56.drewN | apply IsS56.drew | apply IsS56.set_0 | apply IsS56.set_1 | apply IsS56.set_2 | apply IsS56.far (hne := NB143_140.out)) | apply IsS56.far (hne := NB143_140.out) | exact HI143.out))) : gb143 ≠ gb148)); have NB148_143 := Aside0.mk NB143_148.out.symm; replace HI143 := Aside0.mk (IsS56.below (by repeat (first | (with_reducible first | exact HI143.out | apply IsS56.alloc | apply IsS56.drewN | apply IsS56.drew | apply IsS56.set_0 | apply IsS56.set_1 | apply IsS56.set_2 | apply IsS56.far (hne := NB143_140.out)) | apply IsS56.far (hne := NB143_140.out) | exact HI143.out)) hb); clear hb hbox hg; have hnb12 := NB148_140.out; have hnc12 := NB140_148.out; have hnb13 := NB148_143.out; have hnc13 := NB143_148.out; obtain ⟨hcz14_0, hcz14_1, hcz14_2, hcz14_3, hfz14_0, hfz14_1, hfz14_2, hfz14_3⟩ := qk4 BK148.out) | ((with_reducible refine gate_callee (f := 26) rfl ?_); refine qG (some 29) Try.func26 #[.pointer (some ⟨gb143, 0, none⟩)] ?_; (with_reducible refine (spec_l04Var.calls k gb143 t145 t146 t147 t149 t150 t151 t152 w _ ?side1 ?side2 A4.out).mono ?_); (case side1 => exact zl); (case side2 => exact zp); rintro e w15 ⟨rfl, hi, hb, hk⟩; refine ⟨_, rfl, ?_⟩; replace BK140 := Aside0.mk (KeepBut.blk hk (bK BK140.out NB140_148.out) NB140_143.out zdw); replace BK148 := Aside0.mk (KeepBut.blk hk (g' := gb148) (o := .cells #[.int .i64 t144, .int .i64 0, .int .i64 0, .slice none 0 0] 24 (0, 0)) (p4 BK148.out) NB148_143.out zdw); replace HB := Aside0.mk (hb); replace HI143 := Aside0.mk (hi); try clear hb hk hi; obtain ⟨hcz16_0, hcz16_1, hcz16_2, hcz16_3, hfz16_0, hfz16_1, hfz16_2, hfz16_3⟩ := qk4 BK148.out) | ((with_reducible refine gate_callee (f := 26) rfl ?_); refine qG (some 32) Try.func26 #[.pointer (some ⟨gb143, 0, none⟩)] ?_; (with_reducible refine (spec_l04Var.calls k gb143 t150 t151 t152 t153 t154 t155 t156 w _ ?side1 ?side2 A5.out).mono ?_); (case side1 => exact zl); (case side2 => exact zp); rintro e w17 ⟨rfl, hi, hb, hk⟩; refine ⟨_, rfl, ?_⟩; replace BK140 := Aside0.mk (KeepBut.blk hk (bK BK140.out NB140_148.out) NB140_143.out zdw); replace BK148 := Aside0.mk (KeepBut.blk hk (g' := gb148) (o := .cells #[.int .i64 t144, .int .i64 t149, .int .i64 0, .slice none 0 0] 24 (0, 0)) (by (with_reducible repeat (first | refine blk_drewN ?_ _ | refine blk_drew ?_ | refine blk_alloc ?_ _)); refine blk_put (cs := #[.int .i64 t144, .int .i64 0, .int .i64 0, .slice none 0 0]) ?_ 1 _ rfl; (with_reducible repeat (first | refine blk_drewN ?_ _ | refine blk_drew ?_ | refine blk_alloc ?_ _)); exact BK148.out) NB148_143.out zdw); replace HB := Aside0.mk (hb); replace HI143 := Aside0.mk (hi); try clear hb hk hi; obtain ⟨hcz18_0, hcz18_1, hcz18_2, hcz18_3, hfz18_0, hfz18_1, hfz18_2, hfz18_3⟩ := qk4 BK148.out) | ((with_reducible refine gate_callee (f := 26) rfl ?_); refine qG (some 35) Try.func26 #[.pointer (some ⟨gb143, 0, none⟩)] ?_; (with_reducible refine (spec_l04Var.calls k gb143 t154 t155 t156 t157 t158 t159 t160 w _ ?side1 ?side2 A6.out).mono ?_); (case side1 => exact zl); (case side2 => exact zp); rintro e w19 ⟨rfl, hi, hb, hk⟩; refine ⟨_, rfl, ?_⟩; replace BK140 := Aside0.mk (KeepBut.blk hk (bK BK140.out NB140_148.out) NB140_143.out zdw); replace BK148 := Aside0.mk (KeepBut.blk hk (g' := gb148) (o := .cells #[.int .i64 t144, .int .i64 t149, .int .i64 t153, .slice none 0 0] 24 (0, 0)) (by (with_reducible repeat (first | refine blk_drewN ?_ _ | refine blk_drew ?_ | refine blk_alloc ?_ _)); refine blk_put (cs := #[.int .i64 t144, .int .i64 t149, .int .i64 0, .slice none 0 0]) ?_ 2 _ rfl; (with_reducible repeat (first | refine blk_drewN ?_ _ | refine blk_drew ?_ | refine blk_alloc ?_ _)); exact BK148.out) NB148_143.out zdw); replace HB := Aside0.mk (hb); replace HI143 := Aside0.mk (hi); try clear hb hk hi))
  go_loopg [9] k (fun kq v9 w' => ∃ (x9_1 : Int) (x144000_1 : ByteArray) (x144001_1 : Int) (x144002_1 : Bool) (x149003_1 : List (S60)) (u149003 : Value), v9 = .int .i64 x9_1 ∧ Aside0 (spec_ReadMeta.l0 kq a0 t157 x9_1 x144000_1 x144001_1 x144002_1 t144 t149 t153 x149003_1 = some (r1, r2, r3, r4, r5)) ∧ Aside0 (kq ≤ k) ∧ Aside0 (Kd.S k60 60 w' w.heap.size (fun _ => True) u149003 x149003_1) ∧ Aside0 (w'.heap[gb140]? = some (.cells #[.int .i64 0, .int .i64 0, .int .i64 0, (.slice none 0 0)] 24 (0, 0))) ∧ Aside0 (w'.heap[gb148]? = some (.cells #[.int .i64 t144, .int .i64 t149, .int .i64 t153, u149003] 24 (0, 0))) ∧ Aside0 (IsS56 w w' gb143 x144000_1 x144001_1 x144002_1) ∧ Aside0 (Below w.heap.size w w'))
  case atStart => exact ⟨(0), (t158), (t159), (t160), (([] : List (S60))), (.slice none 0 0), zd, H', ⟨Nat.le_refl _⟩, ⟨za9⟩, ⟨zcw⟩, ⟨zcx⟩, ⟨zl⟩, ⟨zp⟩⟩
  case round =>
    clear H'
    (try clear hcz14_0 hcz14_1 hcz14_2 hcz14_3 hfz14_0 hfz14_1 hfz14_2 hfz14_3); (try clear hcz16_0 hcz16_1 hcz16_2 hcz16_3 hfz16_0 hfz16_1 hfz16_2 hfz16_3); (try clear hcz18_0 hcz18_1 hcz18_2 hcz18_3 hfz18_0 hfz18_1 hfz18_2 hfz18_3)
    try clear BK140 BK148 HI143 HB
    obtain ⟨x9_1, x144000_1, x144001_1, x144002_1, x149003_1, u149003, rfl, HA, HK1, HO_149003, BK140, BK148, HI143, HB⟩ := hrel
    cases gk with
    | zero => exact absurd HA.out (by simp [spec_ReadMeta.l0])
    | succ k1 =>
      have H := HA.out
      clear HA
      simp only [spec_ReadMeta.l0] at H
      have HC20 := Aside0.mk H
      clear H
      go_upto_region 8 with (fail)
      go_cut [49] (fun v49 wc => ∃ (kq : Nat) (x49_19 : Bool), v49 = .bool x49_19 ∧ Aside0 (spec_ReadMeta.j1 kq a0 t157 x9_1 x49_19 x144000_1 x144001_1 x144002_1 t144 t149 t153 x149003_1 = some (r1, r2, r3, r4, r5)) ∧ Aside0 (kq ≤ k1) ∧ Aside0 (Kd.S k60 60 wc w.heap.size (fun _ => True) u149003 x149003_1) ∧ Aside0 (wc.heap[gb140]? = some (.cells #[.int .i64 0, .int .i64 0, .int .i64 0, (.slice none 0 0)] 24 (0, 0))) ∧ Aside0 (wc.heap[gb148]? = some (.cells #[.int .i64 t144, .int .i64 t149, .int .i64 t153, u149003] 24 (0, 0))) ∧ Aside0 (IsS56 w wc gb143 x144000_1 x144001_1 x144002_1) ∧ Aside0 (Below w.heap.size w wc))
      case first =>
        have H := HC20.out
        clear HC20
        by_cases c21 : x9_1 < t157
        case neg =>
          rw [if_neg c21] at H
          have c21b0 := decide_eq_false c21
          clear c21
          (first | rw [c21b0] | (simp only [i64_w, i32_w]; rw [c21b0]) | skip)
          have H' := Aside0.mk H
          clear H
          go_wp2
          go_meet
          case rel => exact ⟨_, (false), zd, H', ⟨zcy⟩, ⟨zby⟩, ⟨zcw⟩, ⟨zcx⟩, ⟨zl⟩, ⟨zp⟩⟩
        rw [if_pos c21] at H
        have c21b0 := decide_eq_true c21
        clear c21
        (first | rw [c21b0] | (simp only [i64_w, i32_w]; rw [c21b0]) | skip)
        by_cases c22 : x9_1 < 30
        case neg =>
          rw [if_neg c22] at H
          have c22b0 := decide_eq_false c22
          clear c22
          have H' := Aside0.mk H
          clear H
          go_wp2
          go_meet
          case rel => exact ⟨_, (false), zd, H', ⟨zcy⟩, ⟨zby⟩, ⟨zcw⟩, ⟨zcx⟩, ⟨zl⟩, ⟨zp⟩⟩
        rw [if_pos c22] at H
        have c22b0 := decide_eq_true c22
        clear c22
        have H' := Aside0.mk H
        clear H
        obtain ⟨_, _, _, _, _, _⟩ := qk3 HI143.out.1
        go_wp2
        go_meet
        case rel => exact ⟨_, (!x144002_1), zd, H', ⟨zcy⟩, ⟨zby⟩, ⟨zcw⟩, ⟨zcx⟩, ⟨zl⟩, ⟨zp⟩⟩
      case rest =>
        clear HC20
        (try clear c21); (try clear c21b0); (try clear c22); (try clear c22b0); (try clear hcz14_0 hcz14_1 hcz14_2 hcz14_3 hfz14_0 hfz14_1 hfz14_2 hfz14_3); (try clear hcz16_0 hcz16_1 hcz16_2 hcz16_3 hfz16_0 hfz16_1 hfz16_2 hfz16_3); (try clear hcz18_0 hcz18_1 hcz18_2 hcz18_3 hfz18_0 hfz18_1 hfz18_2 hfz18_3)
        obtain ⟨kq, x49_19, rfl, HA, HJ19, HO_149003, BK140, BK148, HI143, HB⟩ := hcut
        cases kq with
        | zero => exact absurd HA.out (by simp [spec_ReadMeta.j1])
        | succ kj19 =>
          have H := HA.out
          clear HA
          simp only [spec_ReadMeta.j1] at H
          by_cases c24 : x49_19 = true
          case neg =>
            replace c24 := Bool.eq_false_iff.mpr c24
            subst c24
            rw [if_neg (qj)] at H
            replace H := qi H
            obtain ⟨⟨t161, t162⟩, A82, H⟩ := H
            dsimp only at H
            by_cases c83 : x144002_1 = true
            case pos =>
              subst c83
              rw [if_pos rfl] at H
              simp only [Option.some.injEq, Prod.mk.injEq] at H
              obtain ⟨rfl, rfl, rfl, rfl, rfl⟩ := H
              have hnb84 := NB148_140.out
              have hnc84 := NB140_148.out
              have hnb85 := NB148_143.out
              have hnc85 := NB143_148.out
              obtain ⟨_, _, _, _, _, _, _, _⟩ := qk4 BK148.out
              obtain ⟨Ao87, co87, eo87⟩ := Kd.S_slice HO_149003.out
              subst eo87
              go_wp2_with (first | ((with_reducible refine gate_callee (f := 20) rfl ?_); refine qG (some 88) Try.func20 #[.agg #[.int .i64 t144, .int .i64 t149, .int .i64 t153, .slice Ao87 x149003_1.length co87]] ?_; (with_reducible refine (spec_MetaText.calls kj19 t144 t149 t153 _ _ x149003_1 t161 t162 _ ?side1 ?side2 A82.out).mono ?_); (case side1 => exact zcd); (case side2 => exact (Kd.S_reads' HO_149003.out).2.1); rintro e w88 ⟨rfl, hb⟩; refine ⟨_, rfl, ?_⟩; replace HO_149003 := Aside0.mk (Kd.S_below zby hb); replace BK140 := Aside0.mk (bB BK140.out hb); replace BK148 := Aside0.mk (bB BK148.out hb); replace HB := Aside0.mk (below_step zp hb); replace HI143 := Aside0.mk (IsS56.below zl hb); try clear hb; obtain ⟨_, _, _, _, _, _⟩ := qk3 HI143.out.1; have hnb90 := NB140_143.out; have hnc90 := NB143_140.out; obtain ⟨_, _, _, _, _, _, _, _⟩ := qk4 BK140.out))
              refine bodyPost_ret (results_ct rfl _ _ gb140 24 #[.int .i64 0, .int .i64 0, .int .i64 0, .slice none 0 0] (0, 0) _ rfl (p4 BK140.out) Try.underlying24 rfl za5) rfl ?_
              exact ⟨_, zc, za9, zp⟩
            replace c83 := Bool.eq_false_iff.mpr c83
            subst c83
            rw [if_neg (qj)] at H
            by_cases c92 : t162 = true
            case neg =>
              replace c92 := Bool.eq_false_iff.mpr c92
              subst c92
              rw [if_neg (qj)] at H
              simp only [Option.some.injEq, Prod.mk.injEq] at H
              obtain ⟨rfl, rfl, rfl, rfl, rfl⟩ := H
              have hnb111 := NB148_140.out
              have hnc111 := NB140_148.out
              have hnb112 := NB148_143.out
              have hnc112 := NB143_148.out
              obtain ⟨_, _, _, _, _, _, _, _⟩ := qk4 BK148.out
              obtain ⟨Ao114, co114, eo114⟩ := Kd.S_slice HO_149003.out
              subst eo114
              go_wp2_with (first | ((with_reducible refine gate_callee (f := 20) rfl ?_); refine qG (some 88) Try.func20 #[.agg #[.int .i64 t144, .int .i64 t149, .int .i64 t153, .slice Ao114 x149003_1.length co114]] ?_; (with_reducible refine (spec_MetaText.calls kj19 t144 t149 t153 _ _ x149003_1 t161 false _ ?side1 ?side2 A82.out).mono ?_); (case side1 => exact zcd); (case side2 => exact (Kd.S_reads' HO_149003.out).2.1); rintro e w115 ⟨rfl, hb⟩; refine ⟨_, rfl, ?_⟩; replace BK140 := Aside0.mk (bB BK140.out hb); replace HB := Aside0.mk (below_step zp hb); replace HI143 := Aside0.mk (IsS56.below zl hb); try clear hb; obtain ⟨_, _, _, _, _, _⟩ := qk3 HI143.out.1; have hnb117 := NB140_143.out; have hnc117 := NB143_140.out; obtain ⟨_, _, _, _, _, _, _, _⟩ := qk4 BK140.out))
              refine bodyPost_ret (results_ct rfl _ _ gb140 24 #[.int .i64 0, .int .i64 0, .int .i64 0, .slice none 0 0] (0, 0) _ rfl (p4 BK140.out) Try.underlying24 rfl za5) rfl ?_
              exact ⟨_, zc, za9, zp⟩

            subst c92
            rw [if_pos rfl] at H
            by_cases c93 : t161.toList = a0.toList
            case neg =>
              rw [if_neg c93] at H
              have c93b0 : (t161.toList == a0.toList) = false := beq_eq_false_iff_ne.mpr c93
              have c93b1 : (t161.toList != a0.toList) = true := bne_iff_ne.mpr c93
              simp only [Option.some.injEq, Prod.mk.injEq] at H
              obtain ⟨rfl, rfl, rfl, rfl, rfl⟩ := H
              have hnb103 := NB148_140.out
              have hnc103 := NB140_148.out
              have hnb104 := NB148_143.out
              have hnc104 := NB143_148.out
              obtain ⟨_, _, _, _, _, _, _, _⟩ := qk4 BK148.out
              obtain ⟨Ao106, co106, eo106⟩ := Kd.S_slice HO_149003.out
              subst eo106
              go_wp2_with (first | ((with_reducible refine gate_callee (f := 20) rfl ?_); refine qG (some 88) Try.func20 #[.agg #[.int .i64 t144, .int .i64 t149, .int .i64 t153, .slice Ao106 x149003_1.length co106]] ?_; (with_reducible refine (spec_MetaText.calls kj19 t144 t149 t153 _ _ x149003_1 t161 true _ ?side1 ?side2 A82.out).mono ?_); (case side1 => exact zcd); (case side2 => exact (Kd.S_reads' HO_149003.out).2.1); rintro e w107 ⟨rfl, hb⟩; refine ⟨_, rfl, ?_⟩; replace HO_149003 := Aside0.mk (Kd.S_below zby hb); replace BK140 := Aside0.mk (bB BK140.out hb); replace BK148 := Aside0.mk (bB BK148.out hb); replace HB := Aside0.mk (below_step zp hb); replace HI143 := Aside0.mk (IsS56.below zl hb); try clear hb; obtain ⟨_, _, _, _, _, _⟩ := qk3 HI143.out.1; have hnb109 := NB140_143.out; have hnc109 := NB143_140.out; obtain ⟨_, _, _, _, _, _, _, _⟩ := qk4 BK140.out))
              refine bodyPost_ret (results_ct rfl _ _ gb140 24 #[.int .i64 0, .int .i64 0, .int .i64 0, .slice none 0 0] (0, 0) _ rfl (p4 BK140.out) Try.underlying24 rfl za5) rfl ?_
              exact ⟨_, zc, za9, zp⟩
            rw [if_pos c93] at H
            have c93b0 : (t161.toList == a0.toList) = true := beq_iff_eq.mpr c93
            have c93b1 : (t161.toList != a0.toList) = false := bne_eq_false_iff_eq.mpr c93
            clear c93
            simp only [Option.some.injEq, Prod.mk.injEq] at H
            obtain ⟨rfl, rfl, rfl, rfl, rfl⟩ := H
            have hnb94 := NB148_140.out
            have hnc94 := NB140_148.out
            have hnb95 := NB148_143.out
            have hnc95 := NB143_148.out
            obtain ⟨_, _, _, _, _, _, _, _⟩ := qk4 BK148.out
            obtain ⟨Ao97, co97, eo97⟩ := Kd.S_slice HO_149003.out
            subst eo97
            go_wp2_with (first | ((with_reducible refine gate_callee (f := 20) rfl ?_); refine qG (some 88) Try.func20 #[.agg #[.int .i64 t144, .int .i64 t149, .int .i64 t153, .slice Ao97 x149003_1.length co97]] ?_; (with_reducible refine (spec_MetaText.calls kj19 t144 t149 t153 _ _ x149003_1 t161 true _ ?side1 ?side2 A82.out).mono ?_); (case side1 => exact zcd); (case side2 => exact (Kd.S_reads' HO_149003.out).2.1); rintro e w98 ⟨rfl, hb⟩; refine ⟨_, rfl, ?_⟩; replace HO_149003 := Aside0.mk (Kd.S_below zby hb); replace BK140 := Aside0.mk (bB BK140.out hb); replace BK148 := Aside0.mk (bB BK148.out hb); replace HB := Aside0.mk (below_step zp hb); replace HI143 := Aside0.mk (IsS56.below zl hb); try clear hb; obtain ⟨_, _, _, _, _, _⟩ := qk3 HI143.out.1; obtain ⟨_, _, _, _, _, _, _, _⟩ := qk4 BK148.out; have hnb101 := NB140_143.out; have hnc101 := NB143_140.out; obtain ⟨_, _, _, _, _, _, _, _⟩ := qk4 BK140.out))
            refine bodyPost_ret (results_ct rfl _ _ gb140 24 #[.int .i64 t144, .int .i64 t149, .int .i64 t153, .slice Ao97 x149003_1.length co97] (0, 0) _ rfl (p4 BK140.out) Try.underlying24 rfl za5) rfl ?_
            exact ⟨_, zc, Kd.S_mono (sK HO_149003.out BK140.out) (fun _ _ => trivial), zp⟩
          subst c24
          rw [if_pos rfl] at H
          replace H := qi H
          obtain ⟨⟨t163, t164, t165, t166⟩, A25, H⟩ := H
          dsimp only at H
          replace H := qi H
          obtain ⟨⟨t168, t169, t170, t171⟩, A26, H⟩ := H
          dsimp only at H
          have H' := Aside0.mk H
          clear H
          go_wp2_with (first | ((with_reducible refine gate_callee (f := 26) rfl ?_); refine qG (some 53) Try.func26 #[.pointer (some ⟨gb143, 0, none⟩)] ?_; (with_reducible refine (spec_l04Var.calls kj19 gb143 x144000_1 x144001_1 x144002_1 t163 t164 t165 t166 w _ ?side1 ?side2 A25.out).mono ?_); (case side1 => exact zl); (case side2 => exact zp); rintro e w27 ⟨rfl, hi, hb, hk⟩; refine ⟨_, rfl, ?_⟩; replace HO_149003 := Aside0.mk (Kd.S_mono (Kd.S_keep (IsS56.apartS (show IsS56 w _ gb143 x144000_1 x144001_1 x144002_1 from by repeat (first | (with_reducible first | exact HI143.out | apply IsS56.alloc | apply IsS56.drewN | apply IsS56.drew | apply IsS56.set_0 | apply IsS56.set_1 | apply IsS56.set_2 | apply IsS56.far (hne := NB143_140.out) | apply IsS56.far (hne := NB143_148.out)) | apply IsS56.far (hne := NB143_140.out) | apply IsS56.far (hne := NB143_148.out) | exact HI143.out)) zby zbf) hk (fun _ h => h.2)) (fun _ h => h.1)); replace BK140 := Aside0.mk (KeepBut.blk hk (bP BK140.out) NB140_143.out zdw); replace BK148 := Aside0.mk (KeepBut.blk hk (bP BK148.out) NB148_143.out zdw); replace HB := Aside0.mk (hb); replace HI143 := Aside0.mk (hi); try clear hb hk hi) | ((with_reducible refine gate_dst (N := 10) rfl ?_); refine qB 10 #[.int .i64 0, .slice none 0 0] 60 ?_; intro gb167 hg w28 hbox hb; replace HO_149003 := Aside0.mk (Kd.S_below (Kd.S_elderB zby gb167 (Nat.le_of_eq hg.symm)) hb); have BK167 := Aside0.mk (hbox); have GW167 := Aside0.mk ((by rw [hg]; exact (below_size zp) : w.heap.size ≤ gb167)); have GE167 := GW167; replace HB := Aside0.mk (below_step zp hb); have NB140_167 := Aside0.mk ((zee : gb140 ≠ gb167)); have NB167_140 := Aside0.mk NB140_167.out.symm; replace BK140 := Aside0.mk (bB BK140.out hb); have NB148_167 := Aside0.mk ((by rw [hg]; exact Nat.ne_of_lt (bL BK148.out) : gb148 ≠ gb167)); have NB167_148 := Aside0.mk NB148_167.out.symm; replace BK148 := Aside0.mk (bB BK148.out hb); have NB143_167 := Aside0.mk ((by rw [hg]; exact Nat.ne_of_lt (IsS56.lt (show IsS56 w _ gb143 t164 t165 t166 from by repeat (first | (with_reducible first | exact HI143.out | apply IsS56.alloc | apply IsS56.drewN | apply IsS56.drew | apply IsS56.set_0 | apply IsS56.set_1 | apply IsS56.set_2 | apply IsS56.far (hne := NB143_140.out) | apply IsS56.far (hne := NB143_148.out)) | apply IsS56.far (hne := NB143_140.out) | apply IsS56.far (hne := NB143_148.out) | exact HI143.out))) : gb143 ≠ gb167)); have NB167_143 := Aside0.mk NB143_167.out.symm; replace HI143 := Aside0.mk (IsS56.below zl hb); clear hb hbox hg; have hnb29 := NB167_140.out; have hnc29 := NB140_167.out; have hnb30 := NB167_148.out; have hnc30 := NB148_167.out; have hnb31 := NB167_143.out; have hnc31 := NB143_167.out; obtain ⟨hcz32_0, hcz32_1, hfz32_0, hfz32_1⟩ := qk2 BK167.out) | ((with_reducible refine gate_callee (f := 26) rfl ?_); refine qG (some 56) Try.func26 #[.pointer (some ⟨gb143, 0, none⟩)] ?_; (with_reducible refine (spec_l04Var.calls kj19 gb143 t164 t165 t166 t168 t169 t170 t171 w _ ?side1 ?side2 A26.out).mono ?_); (case side1 => exact zk); (case side2 => exact zr); rintro e w33 ⟨rfl, hi, hb, hk⟩; refine ⟨_, rfl, ?_⟩; replace HO_149003 := Aside0.mk (Kd.S_mono (Kd.S_keep (IsS56.apartS (show IsS56 w _ gb143 t164 t165 t166 from by repeat (first | (with_reducible first | exact HI143.out | apply IsS56.alloc | apply IsS56.drewN | apply IsS56.drew | apply IsS56.set_0 | apply IsS56.set_1 | apply IsS56.set_2 | apply IsS56.far (hne := NB143_140.out) | apply IsS56.far (hne := NB143_148.out) | apply IsS56.far (hne := NB143_167.out)) | apply IsS56.far (hne := NB143_140.out) | apply IsS56.far (hne := NB143_148.out) | apply IsS56.far (hne := NB143_167.out) | exact HI143.out)) (by (with_reducible repeat (first | apply Kd.S_alloc | apply Kd.S_drewN | apply Kd.S_drew)); exact (Kd.S_mono (Kd.S_far (p := ⟨gb167, 1, none⟩) (Kd.S_far (p := ⟨gb167, 0, none⟩) (Kd.S_mono HO_149003.out (fun k_ hk => (⟨hk, hk.2⟩ : _ ∧ k_ ≠ gb167))) (fun _ hk => hk.2) (.int .i64 t163)) (fun _ hk => hk.2) (.slice none 0 0)) (fun _ h_ => h_.1))) zbf) hk (fun _ h => h.2)) (fun _ h => h.1)); replace BK140 := Aside0.mk (KeepBut.blk hk (bK BK140.out NB140_167.out) NB140_143.out zdw); replace BK148 := Aside0.mk (KeepBut.blk hk (bK BK148.out NB148_167.out) NB148_143.out zdw); replace BK167 := Aside0.mk (KeepBut.blk hk (g' := gb167) (o := .cells #[.int .i64 t163, .slice none 0 0] 60 (0, 0)) (p2 BK167.out) NB167_143.out zdw); replace HB := Aside0.mk (hb); replace HI143 := Aside0.mk (hi); try clear hb hk hi))
          go_loopg [12] kj19 (fun kq v12 w' => ∃ (x12_3 : Int) (x144000_3 : ByteArray) (x144001_3 : Int) (x144002_3 : Bool) (x168001_3 : List Int) (u168001 : Value), v12 = .int .i64 x12_3 ∧ Aside0 (spec_ReadMeta.l1 kq a0 t157 x9_1 t168 x12_3 x144000_3 x144001_3 x144002_3 t144 t149 t153 x149003_1 t163 x168001_3 = some (r1, r2, r3, r4, r5)) ∧ Aside0 (kq ≤ kj19) ∧ Aside0 (Kd.S k60 60 w' w.heap.size (fun k_ => some k_ ≠ (u168001 : Value).ownBlock ∧ k_ ≠ gb167) u149003 x149003_1) ∧ Aside0 (Kd.R (Kd.int .i64) 3 w' w.heap.size (fun _ => True) u168001 x168001_3) ∧ Aside0 (w'.heap[gb140]? = some (.cells #[.int .i64 0, .int .i64 0, .int .i64 0, (.slice none 0 0)] 24 (0, 0))) ∧ Aside0 (w'.heap[gb148]? = some (.cells #[.int .i64 t144, .int .i64 t149, .int .i64 t153, u149003] 24 (0, 0))) ∧ Aside0 (w'.heap[gb167]? = some (.cells #[.int .i64 t163, u168001] 60 (0, 0))) ∧ Aside0 (IsS56 w w' gb143 x144000_3 x144001_3 x144002_3) ∧ Aside0 (Below w.heap.size w w'))
          case atStart => exact ⟨(0), (t169), (t170), (t171), (([] : List Int)), (.slice none 0 0), zd, H', ⟨Nat.le_refl _⟩, ⟨by (with_reducible repeat (first | apply Kd.S_alloc | apply Kd.S_drewN | apply Kd.S_drew)); exact Kd.S_mono HO_149003.out (fun _ hk => ⟨(by simp [Value.ownBlock]), hk.2⟩)⟩, ⟨zb3⟩, ⟨zcw⟩, ⟨zcx⟩, ⟨by (with_reducible repeat (first | refine blk_drewN ?_ _ | refine blk_drew ?_ | refine blk_alloc ?_ _)); exact BK167.out⟩, ⟨zk⟩, ⟨zr⟩⟩
          case round =>
            clear H'
            (try clear c21); (try clear c21b0); (try clear c22); (try clear c22b0); (try clear c24); (try clear hcz14_0 hcz14_1 hcz14_2 hcz14_3 hfz14_0 hfz14_1 hfz14_2 hfz14_3); (try clear hcz16_0 hcz16_1 hcz16_2 hcz16_3 hfz16_0 hfz16_1 hfz16_2 hfz16_3); (try clear hcz18_0 hcz18_1 hcz18_2 hcz18_3 hfz18_0 hfz18_1 hfz18_2 hfz18_3); (try clear hcz32_0 hcz32_1 hfz32_0 hfz32_1)
            try clear HO_149003 BK140 BK148 BK167 HI143 HB
            obtain ⟨x12_3, x144000_3, x144001_3, x144002_3, x168001_3, u168001, rfl, HA, HK3, HO_149003, HO_168001, BK140, BK148, BK167, HI143, HB⟩ := hrel
            cases gk with
            | zero => exact absurd HA.out (by simp [spec_ReadMeta.l1])
            | succ k3 =>
              have H := HA.out
              clear HA
              simp only [spec_ReadMeta.l1] at H
              by_cases c34 : x12_3 < t168
              case neg =>
                rw [if_neg c34] at H
                have c34b0 := decide_eq_false c34
                clear c34
                by_cases c70 : x149003_1.length < 4398046511104
                case neg => exact qn c70 H
                rw [if_pos c70] at H
                have LMc70 := Aside0.mk c70
                clear c70
                obtain ⟨y185, hy185⟩ : ∃ y_ : List (S60), y_ = (x149003_1 ++ [(⟨t163, x168001_3⟩ : S60)]) := ⟨_, rfl⟩
                replace H : (spec_ReadMeta.l0 k3 a0 t157 (wrap64 (x9_1 + 1)) x144000_3 x144001_3 x144002_3 t144 t149 t153 y185) = some (r1, r2, r3, r4, r5) := by first | (rw [hy185]; with_reducible exact H) | (have H2_ := (Option.bind_some _ _).symm.trans H; rw [hy185]; with_reducible exact H2_) | (have H2_ := (Option.bind_some _ _).symm.trans H; with_reducible exact H2_) | with_reducible exact H | (rw [hy185]; exact H) | exact H
                have Ny185 := Aside0.mk hy185
                clear hy185
                have H' := Aside0.mk H
                clear H
                have hnb71 := NB148_140.out
                have hnc71 := NB140_148.out
                have hnb72 := NB148_167.out
                have hnc72 := NB167_148.out
                have hnb73 := NB148_143.out
                have hnc73 := NB143_148.out
                obtain ⟨_, _, _, _, _, _, _, _⟩ := qk4 BK148.out
                have hnb75 := NB167_140.out
                have hnc75 := NB140_167.out
                have hnb76 := NB167_143.out
                have hnc76 := NB143_167.out
                obtain ⟨_, _, _, _⟩ := qk2 BK167.out
                obtain ⟨Ao79, co79, eo79⟩ := Kd.R_slice HO_168001.out
                subst eo79
                go_wp2_with (first | ((with_reducible refine gate_builtin (b := .append) (xs := #[.tmp 81, .tmp 83]) rfl ?_); at_builtin; refine Kd.S_append k60 (w0 := w) w.heap.size rfl (.tmp 81) (.tmp 83) 22 60 (.agg #[(.int .i64 0), (.slice none 0 0)]) 32 rfl Try.underlying22 info60 rfl zbf zd4 u149003 x149003_1 (⟨t163, x168001_3⟩ : S60) [.int .i64 t163, .slice Ao79 x168001_3.length co79] (fun k_ => k_ ≠ gb167) (fun k_ => some k_ = (.slice Ao79 x168001_3.length co79 : Value).ownBlock) rfl rfl ?aP (fun k_ hk_ => ((Kd.R_mono (ok' := fun k_ => ((fun k_ => k_ ≠ gb167)) k_ ∧ some k_ ≠ (u149003 : Value).ownBlock) (Kd.R_types (Kd.R_apart' (HO_168001.out) (Kd.S_typed HO_149003.out) zbf) BK167.out zbf) (fun k_ hk => ⟨hk.2, hk.1.2⟩))).1 k_ hk_.symm) ?aF ?aO ?aB ?aS ?aL ?_; (case aP => exact k60_mkM _ _ _ (⟨t163, x168001_3⟩ : S60) (Kd.R_mono (Kd.R_tight rfl (Kd.R_mono (ok' := fun k_ => ((fun k_ => k_ ≠ gb167)) k_ ∧ some k_ ≠ (u149003 : Value).ownBlock) (Kd.R_types (Kd.R_apart' (HO_168001.out) (Kd.S_typed HO_149003.out) zbf) BK167.out zbf) (fun k_ hk => ⟨hk.2, hk.1.2⟩))) (fun _ h_ => h_))); (case aB => exact zr); (case aF => exact (fun k_ hk => Kd.freshB (bP BK167.out) k_ hk)); (case aO => exact zdc); (case aS => exact (below_size zr)); (case aL => have := LMc70.out; omega); intro v186 w78 ho hb hg hat; rw [← Ny185.out] at ho; replace BK140 := Aside0.mk (blk_grown (bP BK140.out) hg (Kd.S_ne HO_149003.out BK140.out zbf)); replace BK148 := Aside0.mk (blk_grown (bP BK148.out) hg (Kd.S_ne HO_149003.out BK148.out zbf)); replace HI143 := Aside0.mk (IsS56.grown zk hg (IsS56.own_neS HI143.out HO_149003.out zbf)); replace HB := Aside0.mk (hb); have HO187 := Aside0.mk (ho); clear HO_149003 HO_168001; clear ho hb hg hat; obtain ⟨Ao80, co80, eo80⟩ := Kd.S_slice HO187.out; subst eo80; obtain ⟨_, _, _, _, _, _, _, _⟩ := qk4 BK148.out))
                go_roundg k3
                case measure => have := HK1.out; have := HJ19.out; have := HK3.out; omega
                case rel => exact ⟨(wrap64 (x9_1 + 1)), (x144000_3), (x144001_3), (x144002_3), (y185), (.slice Ao80 y185.length co80), zd, H', ⟨zd5⟩, ⟨Kd.S_mono (sK HO187.out BK148.out) (fun _ _ => trivial)⟩, ⟨zca⟩, ⟨zbz⟩, ⟨zk⟩, ⟨zr⟩⟩
              rw [if_pos c34] at H
              have c34b0 := decide_eq_true c34
              clear c34
              by_cases c35 : x12_3 < 50
              case neg =>
                rw [if_neg c35] at H
                have c35b0 := decide_eq_false c35
                clear c35
                by_cases c58 : x149003_1.length < 4398046511104
                case neg => exact qn c58 H
                rw [if_pos c58] at H
                have LMc58 := Aside0.mk c58
                clear c58
                obtain ⟨y182, hy182⟩ : ∃ y_ : List (S60), y_ = (x149003_1 ++ [(⟨t163, x168001_3⟩ : S60)]) := ⟨_, rfl⟩
                replace H : (spec_ReadMeta.l0 k3 a0 t157 (wrap64 (x9_1 + 1)) x144000_3 x144001_3 x144002_3 t144 t149 t153 y182) = some (r1, r2, r3, r4, r5) := by first | (rw [hy182]; with_reducible exact H) | (have H2_ := (Option.bind_some _ _).symm.trans H; rw [hy182]; with_reducible exact H2_) | (have H2_ := (Option.bind_some _ _).symm.trans H; with_reducible exact H2_) | with_reducible exact H | (rw [hy182]; exact H) | exact H
                have Ny182 := Aside0.mk hy182
                clear hy182
                have H' := Aside0.mk H
                clear H
                have hnb59 := NB148_140.out
                have hnc59 := NB140_148.out
                have hnb60 := NB148_167.out
                have hnc60 := NB167_148.out
                have hnb61 := NB148_143.out
                have hnc61 := NB143_148.out
                obtain ⟨_, _, _, _, _, _, _, _⟩ := qk4 BK148.out
                have hnb63 := NB167_140.out
                have hnc63 := NB140_167.out
                have hnb64 := NB167_143.out
                have hnc64 := NB143_167.out
                obtain ⟨_, _, _, _⟩ := qk2 BK167.out
                obtain ⟨Ao67, co67, eo67⟩ := Kd.R_slice HO_168001.out
                subst eo67
                go_wp2_with (first | ((with_reducible refine gate_builtin (b := .append) (xs := #[.tmp 81, .tmp 83]) rfl ?_); at_builtin; refine Kd.S_append k60 (w0 := w) w.heap.size rfl (.tmp 81) (.tmp 83) 22 60 (.agg #[(.int .i64 0), (.slice none 0 0)]) 32 rfl Try.underlying22 info60 rfl zbf zd4 u149003 x149003_1 (⟨t163, x168001_3⟩ : S60) [.int .i64 t163, .slice Ao67 x168001_3.length co67] (fun k_ => k_ ≠ gb167) (fun k_ => some k_ = (.slice Ao67 x168001_3.length co67 : Value).ownBlock) rfl rfl ?aP (fun k_ hk_ => ((Kd.R_mono (ok' := fun k_ => ((fun k_ => k_ ≠ gb167)) k_ ∧ some k_ ≠ (u149003 : Value).ownBlock) (Kd.R_types (Kd.R_apart' (HO_168001.out) (Kd.S_typed HO_149003.out) zbf) BK167.out zbf) (fun k_ hk => ⟨hk.2, hk.1.2⟩))).1 k_ hk_.symm) ?aF ?aO ?aB ?aS ?aL ?_; (case aP => exact k60_mkM _ _ _ (⟨t163, x168001_3⟩ : S60) (Kd.R_mono (Kd.R_tight rfl (Kd.R_mono (ok' := fun k_ => ((fun k_ => k_ ≠ gb167)) k_ ∧ some k_ ≠ (u149003 : Value).ownBlock) (Kd.R_types (Kd.R_apart' (HO_168001.out) (Kd.S_typed HO_149003.out) zbf) BK167.out zbf) (fun k_ hk => ⟨hk.2, hk.1.2⟩))) (fun _ h_ => h_))); (case aB => exact zr); (case aF => exact (fun k_ hk => Kd.freshB (bP BK167.out) k_ hk)); (case aO => exact zdc); (case aS => exact (below_size zr)); (case aL => have := LMc58.out; omega); intro v183 w66 ho hb hg hat; rw [← Ny182.out] at ho; replace BK140 := Aside0.mk (blk_grown (bP BK140.out) hg (Kd.S_ne HO_149003.out BK140.out zbf)); replace BK148 := Aside0.mk (blk_grown (bP BK148.out) hg (Kd.S_ne HO_149003.out BK148.out zbf)); replace BK167 := Aside0.mk (blk_grown (bP BK167.out) hg (Kd.S_away HO_149003.out (fun _ hk => hk.2))); replace HI143 := Aside0.mk (IsS56.grown zk hg (IsS56.own_neS HI143.out HO_149003.out zbf)); replace HB := Aside0.mk (hb); have HO184 := Aside0.mk (ho); clear HO_149003 HO_168001; clear ho hb hg hat; obtain ⟨Ao68, co68, eo68⟩ := Kd.S_slice HO184.out; subst eo68; obtain ⟨_, _, _, _, _, _, _, _⟩ := qk4 BK148.out))
                go_roundg k3
                case measure => have := HK1.out; have := HJ19.out; have := HK3.out; omega
                case rel => exact ⟨(wrap64 (x9_1 + 1)), (x144000_3), (x144001_3), (x144002_3), (y182), (.slice Ao68 y182.length co68), zd, H', ⟨zd5⟩, ⟨Kd.S_mono (sK HO184.out BK148.out) (fun _ _ => trivial)⟩, ⟨zca⟩, ⟨zbz⟩, ⟨zk⟩, ⟨zr⟩⟩
              rw [if_pos c35] at H
              have c35b0 := decide_eq_true c35
              clear c35
              by_cases c36 : x144002_3 = true
              case pos =>
                subst c36
                rw [if_pos rfl] at H
                by_cases c37 : x149003_1.length < 4398046511104
                case neg => exact qn c37 H
                rw [if_pos c37] at H
                have LMc37 := Aside0.mk c37
                clear c37
                obtain ⟨y172, hy172⟩ : ∃ y_ : List (S60), y_ = (x149003_1 ++ [(⟨t163, x168001_3⟩ : S60)]) := ⟨_, rfl⟩
                replace H : (spec_ReadMeta.l0 k3 a0 t157 (wrap64 (x9_1 + 1)) x144000_3 x144001_3 true t144 t149 t153 y172) = some (r1, r2, r3, r4, r5) := by first | (rw [hy172]; with_reducible exact H) | (have H2_ := (Option.bind_some _ _).symm.trans H; rw [hy172]; with_reducible exact H2_) | (have H2_ := (Option.bind_some _ _).symm.trans H; with_reducible exact H2_) | with_reducible exact H | (rw [hy172]; exact H) | exact H
                have Ny172 := Aside0.mk hy172
                clear hy172
                have H' := Aside0.mk H
                clear H
                obtain ⟨_, _, _, _, _, _⟩ := qk3 HI143.out.1
                have hnb39 := NB148_140.out
                have hnc39 := NB140_148.out
                have hnb40 := NB148_167.out
                have hnc40 := NB167_148.out
                have hnb41 := NB148_143.out
                have hnc41 := NB143_148.out
                obtain ⟨_, _, _, _, _, _, _, _⟩ := qk4 BK148.out
                have hnb43 := NB167_140.out
                have hnc43 := NB140_167.out
                have hnb44 := NB167_143.out
                have hnc44 := NB143_167.out
                obtain ⟨_, _, _, _⟩ := qk2 BK167.out
                obtain ⟨Ao47, co47, eo47⟩ := Kd.R_slice HO_168001.out
                subst eo47
                go_wp2_with (first | ((with_reducible refine gate_builtin (b := .append) (xs := #[.tmp 81, .tmp 83]) rfl ?_); at_builtin; refine Kd.S_append k60 (w0 := w) w.heap.size rfl (.tmp 81) (.tmp 83) 22 60 (.agg #[(.int .i64 0), (.slice none 0 0)]) 32 rfl Try.underlying22 info60 rfl zbf zd4 u149003 x149003_1 (⟨t163, x168001_3⟩ : S60) [.int .i64 t163, .slice Ao47 x168001_3.length co47] (fun k_ => k_ ≠ gb167) (fun k_ => some k_ = (.slice Ao47 x168001_3.length co47 : Value).ownBlock) rfl rfl ?aP (fun k_ hk_ => ((Kd.R_mono (ok' := fun k_ => ((fun k_ => k_ ≠ gb167)) k_ ∧ some k_ ≠ (u149003 : Value).ownBlock) (Kd.R_types (Kd.R_apart' (HO_168001.out) (Kd.S_typed HO_149003.out) zbf) BK167.out zbf) (fun k_ hk => ⟨hk.2, hk.1.2⟩))).1 k_ hk_.symm) ?aF ?aO ?aB ?aS ?aL ?_; (case aP => exact k60_mkM _ _ _ (⟨t163, x168001_3⟩ : S60) (Kd.R_mono (Kd.R_tight rfl (Kd.R_mono (ok' := fun k_ => ((fun k_ => k_ ≠ gb167)) k_ ∧ some k_ ≠ (u149003 : Value).ownBlock) (Kd.R_types (Kd.R_apart' (HO_168001.out) (Kd.S_typed HO_149003.out) zbf) BK167.out zbf) (fun k_ hk => ⟨hk.2, hk.1.2⟩))) (fun _ h_ => h_))); (case aB => exact zr); (case aF => exact (fun k_ hk => Kd.freshB (bP BK167.out) k_ hk)); (case aO => exact zdc); (case aS => exact (below_size zr)); (case aL => have := LMc37.out; omega); intro v173 w46 ho hb hg hat; rw [← Ny172.out] at ho; replace BK140 := Aside0.mk (blk_grown (bP BK140.out) hg (Kd.S_ne HO_149003.out BK140.out zbf)); replace BK148 := Aside0.mk (blk_grown (bP BK148.out) hg (Kd.S_ne HO_149003.out BK148.out zbf)); replace BK167 := Aside0.mk (blk_grown (bP BK167.out) hg (Kd.S_away HO_149003.out (fun _ hk => hk.2))); replace HI143 := Aside0.mk (IsS56.grown zk hg (IsS56.own_neS HI143.out HO_149003.out zbf)); replace HB := Aside0.mk (hb); have HO174 := Aside0.mk (ho); clear HO_149003 HO_168001; clear ho hb hg hat; obtain ⟨Ao48, co48, eo48⟩ := Kd.S_slice HO174.out; subst eo48; obtain ⟨_, _, _, _, _, _, _, _⟩ := qk4 BK148.out))
                go_roundg k3
                case measure => have := HK1.out; have := HJ19.out; have := HK3.out; omega
                case rel => exact ⟨(wrap64 (x9_1 + 1)), (x144000_3), (x144001_3), (true), (y172), (.slice Ao48 y172.length co48), zd, H', ⟨zd5⟩, ⟨Kd.S_mono (sK HO174.out BK148.out) (fun _ _ => trivial)⟩, ⟨zca⟩, ⟨zbz⟩, ⟨zk⟩, ⟨zr⟩⟩
              replace c36 := Bool.eq_false_iff.mpr c36
              subst c36
              rw [if_neg (qj)] at H
              replace H := qi H
              obtain ⟨⟨t175, t176, t177, t178⟩, A50, H⟩ := H
              dsimp only at H
              by_cases c51 : x168001_3.length < 17592186044416
              case neg => exact qn c51 H
              rw [if_pos c51] at H
              have LMc51 := Aside0.mk c51
              clear c51
              obtain ⟨y179, hy179⟩ : ∃ y_ : List Int, y_ = (x168001_3 ++ [t175]) := ⟨_, rfl⟩
              replace H : (spec_ReadMeta.l1 k3 a0 t157 x9_1 t168 (wrap64 (x12_3 + 1)) t176 t177 t178 t144 t149 t153 x149003_1 t163 y179) = some (r1, r2, r3, r4, r5) := by first | (rw [hy179]; with_reducible exact H) | (have H2_ := (Option.bind_some _ _).symm.trans H; rw [hy179]; with_reducible exact H2_) | (have H2_ := (Option.bind_some _ _).symm.trans H; with_reducible exact H2_) | with_reducible exact H | (rw [hy179]; exact H) | exact H
              have Ny179 := Aside0.mk hy179
              clear hy179
              have H' := Aside0.mk H
              clear H
              obtain ⟨_, _, _, _, _, _⟩ := qk3 HI143.out.1
              try go_wp2
              replace HO_149003 := Aside0.mk (Kd.S_drew HO_149003.out)
              replace HO_168001 := Aside0.mk (Kd.R_drew HO_168001.out)
              replace BK140 := Aside0.mk (blk_drew BK140.out)
              replace BK148 := Aside0.mk (blk_drew BK148.out)
              replace BK167 := Aside0.mk (blk_drew BK167.out)
              replace HI143 := Aside0.mk (IsS56.drew HI143.out)
              replace HB := Aside0.mk (below_drew1 HB.out)
              refine start_ (n := 8) (S := fun w' => w'.cell? ⟨gb167, 0, none⟩ = some (.int .i64 t163) ∧ w'.cell? ⟨gb167, 1, none⟩ = some (u168001)) (ds := [7]) (bz 8 0) za5 rfl rfl ⟨qx BK167 0, qx BK167 1⟩ (fun hHeld => ?_); refine with_tabW spec_ReadMeta.tab15 spec_ReadMeta.bits15 (fun HT_ HW_ => ?_)
              generalize wr.drew = w53 at HO_149003 HO_168001 BK140 BK148 BK167 HI143 HB hHeld ⊢
              refine ql 0 (some 73) (bz 8 1) HT_ ?_
              refine ql 2 (some 75) (bz 8 5) HT_ ?_
              refine qt 1 (some 74) (bz 8 7) HT_ HW_ hHeld ?_
              refine qs 3 (some 76) (bz 8 15) HT_ rfl rfl (fun K hK => ?_)
              refine goes_ Try.func26 za5 rfl #[.pointer (some ⟨gb143, 0, none⟩)] zdy rfl rfl zv ?_
              with_reducible refine (spec_l04Var.calls k3 gb143 x144000_3 x144001_3 false t175 t176 t177 t178 w _ ?side1 ?side2 A50.out).mono ?_
              (case side1 => exact zk)
              (case side2 => exact zr)
              rintro e w54 ⟨rfl, hi, hb, hk⟩
              refine ⟨_, rfl, ?_⟩
              replace HO_149003 := Aside0.mk (Kd.S_mono (Kd.S_keep (IsS56.apartS (show IsS56 w _ gb143 x144000_3 x144001_3 false from by repeat (first | (with_reducible first | exact HI143.out | apply IsS56.alloc | apply IsS56.drewN | apply IsS56.drew | apply IsS56.set_0 | apply IsS56.set_1 | apply IsS56.set_2 | apply IsS56.far (hne := NB143_140.out) | apply IsS56.far (hne := NB143_148.out) | apply IsS56.far (hne := NB143_167.out)) | apply IsS56.far (hne := NB143_140.out) | apply IsS56.far (hne := NB143_148.out) | apply IsS56.far (hne := NB143_167.out) | exact HI143.out)) zby zbf) hk (fun _ h => h.2)) (fun _ h => h.1))
              replace HO_168001 := Aside0.mk (Kd.R_mono (Kd.R_keep (IsS56.apart (show IsS56 w _ gb143 x144000_3 x144001_3 false from by repeat (first | (with_reducible first | exact HI143.out | apply IsS56.alloc | apply IsS56.drewN | apply IsS56.drew | apply IsS56.set_0 | apply IsS56.set_1 | apply IsS56.set_2 | apply IsS56.far (hne := NB143_140.out) | apply IsS56.far (hne := NB143_148.out) | apply IsS56.far (hne := NB143_167.out)) | apply IsS56.far (hne := NB143_140.out) | apply IsS56.far (hne := NB143_148.out) | apply IsS56.far (hne := NB143_167.out) | exact HI143.out)) (by (with_reducible repeat (first | apply Kd.R_alloc | apply Kd.R_drewN | apply Kd.R_drew)); exact HO_168001.out) zbf) hk (fun _ h => h.2)) (fun _ h => h.1))
              replace BK140 := Aside0.mk (KeepBut.blk hk (bP BK140.out) NB140_143.out zdw)
              replace BK148 := Aside0.mk (KeepBut.blk hk (bP BK148.out) NB148_143.out zdw)
              replace BK167 := Aside0.mk (KeepBut.blk hk (bP BK167.out) NB167_143.out zdw)
              replace HB := Aside0.mk (hb)
              replace HI143 := Aside0.mk (hi)
              try clear hb hk hi
              refine hK.out _ _ ⟨qx BK167 0, qx BK167 1⟩ (fun hHeld => ?_)
              clear hK K
              refine qr (some 76) ?_
              refine qs 4 (some 77) (bz 8 31) HT_ rfl rfl (fun K hK => ?_)
              refine value_ (w1 := ?_) (v := ?_) zdy rfl ?_ ?_
              rotate_left 2
              · go_simp
                constructor
                · rfl
                · rfl
              refine hK.out _ _ ⟨(blk_cell (blk_alloc BK167.out _) 0).trans rfl, (blk_cell (blk_alloc BK167.out _) 1).trans rfl⟩ (fun hHeld => ?_)
              clear hK K
              refine qr (some 77) ?_
              refine qs 5 (some 78) (bz 8 63) HT_ rfl rfl (fun K hK => ?_)
              refine Kd.R_append_step (Kd.int .i64) (w0 := w) w.heap.size zdy (.tmp 74) (.tmp 77) 58 3 (.int .i64 0) 8 rfl Try.underlying58 info3 rfl zbf zd4 u168001 x168001_3 t175 [.int .i64 t175] (fun _ => True) (fun _ => False) rfl rfl ?aP (fun _ hk => hk.elim) ?aF ?aO ?aB ?aS ?aL ?_
              (case aP => exact rfl)
              (case aB => exact zr)
              (case aF => exact (fun _ _ => trivial))
              (case aO => exact (by (with_reducible repeat (first | apply Kd.R_alloc | apply Kd.R_drewN | apply Kd.R_drew)); exact HO_168001.out))
              (case aS => exact (below_size zr))
              (case aL => have := LMc51.out; omega)
              intro v180 w55 ho hb hg hat
              rw [← Ny179.out] at ho
              replace HO_149003 := Aside0.mk (Kd.S_after (ok := (fun k_ => k_ ≠ gb167)) (by (with_reducible repeat (first | apply Kd.S_alloc | apply Kd.S_drewN | apply Kd.S_drew)); exact Kd.S_mono HO_149003.out (fun _ hk => ⟨hk.2, hk.1⟩)) hg hat)
              replace BK140 := Aside0.mk (blk_grown (bP BK140.out) hg (Kd.R_ne HO_168001.out BK140.out zbf))
              replace BK148 := Aside0.mk (blk_grown (bP BK148.out) hg (Kd.R_ne HO_168001.out BK148.out zbf))
              replace BK167 := Aside0.mk (blk_grown (bP BK167.out) hg (Kd.R_ne HO_168001.out BK167.out zbf))
              replace HI143 := Aside0.mk (IsS56.grown zk hg (IsS56.own_ne HI143.out HO_168001.out zbf))
              replace HB := Aside0.mk (hb)
              have HO181 := Aside0.mk (ho)
              clear HO_168001
              clear ho hb hg hat
              obtain ⟨Ao56, co56, eo56⟩ := Kd.R_slice HO181.out
              (first | subst eo56 | (injection eo56 with f1_ f2_ f3_; have f4_ := f1_.symm; have f5_ := f3_.symm; clear f1_ f2_ f3_; subst f4_; subst f5_))
              refine hK.out _ _ ⟨qx BK167 0, qx BK167 1⟩ (fun hHeld => ?_)
              clear hK K
              refine qr (some 78) ?_
              refine ql 6 (some 79) (bz 8 127) HT_ ?_
              refine last_ (i := 7) (N := none) (bz 8 255) rfl rfl (one_of HT_.out za5) zbf (fun K hK => ?_)
              have hs57 : w55.cell? ⟨gb167, 1, none⟩ = some (u168001) := qx BK167 1
              have hfs57 := blk_frozen BK167.out 1
              have hns57_0 := NB140_167.out
              have hns57_1 := NB148_167.out
              have hms57_0 := NB167_140.out
              have hms57_1 := NB167_148.out
              refine skip_ (w1 := ?_) zdy rfl ?_ ?_
              rotate_left
              · go_simp
                rfl
              refine hK.out _ _ ?_
              clear hK K
              refine qu HT_ ?_
              try go_wp2
              go_roundg k3
              case measure => have := HK1.out; have := HJ19.out; have := HK3.out; omega
              case rel => exact ⟨(wrap64 (x12_3 + 1)), (t176), (t177), (t178), (y179), (.slice Ao56 y179.length co56), zd, H', ⟨zd5⟩, ⟨by (with_reducible repeat (first | apply Kd.S_alloc | apply Kd.S_drewN | apply Kd.S_drew)); exact Kd.S_mono (Kd.S_far (p := ⟨gb167, 1, none⟩) (Kd.S_mono HO_149003.out (fun k_ hk => (⟨hk, hk.1⟩ : _ ∧ k_ ≠ gb167))) (fun _ hk => hk.2) (.slice Ao56 y179.length co56)) (fun _ hk => ⟨hk.1.2, hk.1.1⟩)⟩, ⟨Kd.R_mono (rK HO181.out BK167.out) (fun _ _ => trivial)⟩, ⟨by (with_reducible repeat (first | refine blk_drewN ?_ _ | refine blk_drew ?_ | refine blk_alloc ?_ _)); refine blk_far ?_ NB140_167.out _; (with_reducible repeat (first | refine blk_drewN ?_ _ | refine blk_drew ?_ | refine blk_alloc ?_ _)); exact BK140.out⟩, ⟨by (with_reducible repeat (first | refine blk_drewN ?_ _ | refine blk_drew ?_ | refine blk_alloc ?_ _)); refine blk_far ?_ NB148_167.out _; (with_reducible repeat (first | refine blk_drewN ?_ _ | refine blk_drew ?_ | refine blk_alloc ?_ _)); exact BK148.out⟩, ⟨by (with_reducible repeat (first | refine blk_drewN ?_ _ | refine blk_drew ?_ | refine blk_alloc ?_ _)); refine blk_put (cs := #[.int .i64 t163, u168001]) ?_ 1 _ rfl; (with_reducible repeat (first | refine blk_drewN ?_ _ | refine blk_drew ?_ | refine blk_alloc ?_ _)); exact BK167.out⟩, ⟨zk⟩, ⟨zr⟩⟩
end Go.Proofs.Yteokilffbcbllaa.VFnBest
