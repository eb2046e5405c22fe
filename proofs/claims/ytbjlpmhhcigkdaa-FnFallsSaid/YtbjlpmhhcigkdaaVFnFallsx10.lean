-- Written by a program of this repo (wip/myprint.py), over the kit's print; functions that the print does not take stand in it by hand-proved contracts.
import Derived.Test.YtbjlpmhhcigkdaaVFnFallsx0
import Derived.Test.YtbjlpmhhcigkdaaVFnFallsx3
import Derived.Test.YtbjlpmhhcigkdaaVFnFallsx4
namespace Go.Proofs.Ytbjlpmhhcigkdaa.VFnFalls
open Go.RowKit Go.Proofs.YtbjlpmhhcigkdaaW.PrintWords Go.Proofs.YtbjlpmhhcigkdaaW.PrintLast Go.Proofs.YtbjlpmhhcigkdaaW.PrintMore
attribute [local go_sem] max2_int min2_int max_two min_two max_three min_three max_four min_four   -- for this text's walks alone
attribute [local go_sem high] str_leq str_gtr str_geq str_lss
set_option linter.unusedVariables false
set_option linter.unusedSimpArgs false

/-! ### spec_FallDisk: function 50 -/
mutual
def spec_FallDisk.l0 : Nat → List Bool → Int → Int → List ByteArray → List (S74) → List ByteArray → Option (List ByteArray × (List (S74)))
 | 0, _, _, _, _, _, _ => none
 | k + 1, x1, x2, x8, x379000, x379001, x394000 => if x8 < (x379001.length : Int) then (if x8 ≥ (x1.length : Int) then (spec_FallDisk.j1 k x1 x2 x8 true x379000 x379001 x394000) else (if 0 ≤ x8 then (if x8 < (x1.length : Int) then (spec_FallDisk.j1 k x1 x2 x8 (!(rdOf false x1 x8)) x379000 x379001 x394000) else (none)) else (none))) else (some (x394000, ([] : List (S74))))
def spec_FallDisk.j1 : Nat → List Bool → Int → Int → Bool → List ByteArray → List (S74) → List ByteArray → Option (List ByteArray × (List (S74)))
 | 0, _, _, _, _, _, _, _ => none
 | k + 1, x1, x2, x8, x37, x379000, x379001, x394000 => if x37 = true then (spec_FallDisk.l0 k x1 x2 (wrap64 (x8 + 1)) x379000 x379001 x394000) else (if 0 ≤ x8 then (if x8 < (x379001.length : Int) then (if x8 = x2 then (if 0 ≤ (wrap64 ((((rd_T74 x379001 x8).f1).size : Int) / 2)) then (if (wrap64 ((((rd_T74 x379001 x8).f1).size : Int) / 2)) ≤ (((rd_T74 x379001 x8).f1).size : Int) then (if 0 ≤ ((rd_T74 x379001 x8).f0) then (if ((rd_T74 x379001 x8).f0) < (x394000.length : Int) then (spec_FallDisk.l0 k x1 x2 (wrap64 (x8 + 1)) x379000 x379001 (x394000.set (((rd_T74 x379001 x8).f0) : Int).toNat (((rd_T74 x379001 x8).f1).extract 0 ((wrap64 ((((rd_T74 x379001 x8).f1).size : Int) / 2)) : Int).toNat))) else (none)) else (none)) else (none)) else (none)) else (if 0 ≤ ((rd_T74 x379001 x8).f0) then (if ((rd_T74 x379001 x8).f0) < (x394000.length : Int) then (spec_FallDisk.l0 k x1 x2 (wrap64 (x8 + 1)) x379000 x379001 (x394000.set (((rd_T74 x379001 x8).f0) : Int).toNat ((rd_T74 x379001 x8).f1))) else (none)) else (none))) else (none)) else (none))
end
def spec_FallDisk.f (k : Nat) (l0_0 : List ByteArray) (l0_1 : List (S74)) (l1 : List Bool) (a2 : Int) : Option (List ByteArray × (List (S74))) := (spec_DiskOk.f k l0_0 l0_1).bind fun t380 => (if t380 = true then ((some (([] : List ByteArray) : List ByteArray)).bind fun y387 => (if y387.length + l0_0.length < 8796093022208 then (spec_FallDisk.l0 k l1 a2 0 l0_0 l0_1 (y387 ++ l0_0)) else (none))) else ((spec_l03Copy.f l0_0 l0_1).bind fun bt381 => (some (bt381.1, bt381.2))))
theorem spec_FallDisk.mono_l : ∀ k, (∀ y0 y1 y2 y3 y4 y5, LeO (spec_FallDisk.l0 k y0 y1 y2 y3 y4 y5) (spec_FallDisk.l0 (k + 1) y0 y1 y2 y3 y4 y5)) ∧ (∀ y0 y1 y2 y3 y4 y5 y6, LeO (spec_FallDisk.j1 k y0 y1 y2 y3 y4 y5 y6) (spec_FallDisk.j1 (k + 1) y0 y1 y2 y3 y4 y5 y6))
 | 0 => ⟨fun _ _ _ _ _ _ r h => by simp [spec_FallDisk.l0] at h, fun _ _ _ _ _ _ _ r h => by simp [spec_FallDisk.j1] at h⟩
 | k + 1 => by
  obtain ⟨ih0, ih1⟩ := spec_FallDisk.mono_l k
  refine ⟨?_, ?_⟩
  ·intro y0 y1 y2 y3 y4 y5
   unfold spec_FallDisk.l0
   repeat' first
   | (with_reducible exact ih0 _ _ _ _ _ _)
   | (with_reducible exact ih1 _ _ _ _ _ _ _)
   | (with_reducible exact spec_DiskOk.mono _ _ _)
   | (with_reducible exact LeO.refl _)
   | (with_reducible exact LeO.none _)
   | (with_reducible refine LeO.ite ?_ ?_)
   | (with_reducible refine LeO.bind ?_ (fun _ => ?_))
   | exact ih0 _ _ _ _ _ _
   | exact ih1 _ _ _ _ _ _ _
   | exact spec_DiskOk.mono _ _ _
   | exact LeO.none _
   | refine LeO.ite ?_ ?_
   | refine LeO.bind ?_ (fun _ => ?_)
  ·intro y0 y1 y2 y3 y4 y5 y6
   unfold spec_FallDisk.j1
   repeat' first
   | (with_reducible exact ih0 _ _ _ _ _ _)
   | (with_reducible exact ih1 _ _ _ _ _ _ _)
   | (with_reducible exact spec_DiskOk.mono _ _ _)
   | (with_reducible exact LeO.refl _)
   | (with_reducible exact LeO.none _)
   | (with_reducible refine LeO.ite ?_ ?_)
   | (with_reducible refine LeO.bind ?_ (fun _ => ?_))
   | exact ih0 _ _ _ _ _ _
   | exact ih1 _ _ _ _ _ _ _
   | exact spec_DiskOk.mono _ _ _
   | exact LeO.none _
   | refine LeO.ite ?_ ?_
   | refine LeO.bind ?_ (fun _ => ?_)
theorem spec_FallDisk.mono : ∀ a0 a1 a2 a3 k, LeO (spec_FallDisk.f k a0 a1 a2 a3) (spec_FallDisk.f (k + 1) a0 a1 a2 a3) := by
 intro a0 a1 a2 a3 k
 obtain ⟨ih0, ih1⟩ := spec_FallDisk.mono_l k
 unfold spec_FallDisk.f
 repeat' first
   | (with_reducible exact ih0 _ _ _ _ _ _)
   | (with_reducible exact ih1 _ _ _ _ _ _ _)
   | (with_reducible exact spec_DiskOk.mono _ _ _)
   | (with_reducible exact LeO.refl _)
   | (with_reducible exact LeO.none _)
   | (with_reducible refine LeO.ite ?_ ?_)
   | (with_reducible refine LeO.bind ?_ (fun _ => ?_))
   | exact ih0 _ _ _ _ _ _
   | exact ih1 _ _ _ _ _ _ _
   | exact spec_DiskOk.mono _ _ _
   | exact LeO.none _
   | refine LeO.ite ?_ ?_
   | refine LeO.bind ?_ (fun _ => ?_)
def spec_FallDisk.T11 : Bool × List (List Nat × List Nat) := (true, [([], []), ([0], [0]), ([], []), ([2], [2]), ([], []), ([3, 4], [3, 4]), ([5], [5]), ([6], [6]), ([], []), ([1, 7, 0, 1, 2, 3, 4, 5, 6, 7, 8], [1, 7]), ([9, 8, 0, 1, 2, 3, 4, 5, 6, 7, 8], [8, 9])])
def spec_FallDisk.B11 : List Nat := [0, 1, 0, 4, 0, 28, 60, 124, 0, 511, 1023]
theorem spec_FallDisk.tab11 : rtab .any (opsOf Try.f50 11) = spec_FallDisk.T11 := by kernel_rfl
theorem spec_FallDisk.bits11 : waitsOk spec_FallDisk.T11.2 spec_FallDisk.B11 = true := by kernel_rfl
set_option maxHeartbeats 8000000 in
set_option maxRecDepth 100000 in
theorem spec_FallDisk.calls (k : Nat) (A0_0 : Option Addr) (c0_0 : Nat) (l0_0 : List ByteArray) (A0_1 : Option Addr) (c0_1 : Nat) (l0_1 : List (S74)) (A1 : Option Addr) (c1 : Nat) (l1 : List Bool) (a2 : Int) (r1 : List ByteArray) (r2 : List (S74)) (w : World) (hr0_0 : Kd.C Kd.string w A0_0 l0_0.length l0_0) (hc0_0 : l0_0.length ≤ c0_0) (hr0_1 : Kd.C k74 w A0_1 l0_1.length l0_1) (hc0_1 : l0_1.length ≤ c0_1) (hr1 : Kd.C Kd.bool w A1 l1.length l1) (hc1 : l1.length ≤ c1) (h : spec_FallDisk.f k l0_0 l0_1 l1 a2 = some (r1, r2)) :
  Calls Try.prog 50 #[.agg #[.slice A0_0 l0_0.length c0_0, .slice A0_1 l0_1.length c0_1], .slice A1 l1.length c1, .int .i64 a2] w fun e w' => ∃ v0_ v1_ : Value, e = .returned (.agg #[v0_, v1_]) ∧ Kd.R Kd.string 9 w' w.heap.size (fun _ => True) v0_ r1 ∧ Kd.R k74 74 w' w.heap.size (fun _ => True) v1_ r2 ∧ Below w.heap.size w w' := by
 have hu36 := Try.underlying36
 have HR0_0 := zj hr0_0
 have HC0_0 := zj hc0_0
 clear hr0_0 hc0_0
 have HR0_1 := zj hr0_1
 have HC0_1 := zj hc0_1
 clear hr0_1 hc0_1
 have HR1 := zj hr1
 have HC1 := zj hc1
 clear hr1 hc1
 have HB := zj (Below.refl w.heap.size w)
 have H : ((spec_DiskOk.f k l0_0 l0_1).bind fun t380 => (if t380 = true then ((some (([] : List ByteArray) : List ByteArray)).bind fun y387 => (if y387.length + l0_0.length < 8796093022208 then (spec_FallDisk.l0 k l1 a2 0 l0_0 l0_1 (y387 ++ l0_0)) else (none))) else ((spec_l03Copy.f l0_0 l0_1).bind fun bt381 => (some (bt381.1, bt381.2))))) = some (r1, r2) := h
 clear h
 replace H := Option.bind_eq_some_iff.mp H
 obtain ⟨t380, A40, H⟩ := H
 replace H : (if t380 = true then ((some (([] : List ByteArray) : List ByteArray)).bind fun y387 => (if y387.length + l0_0.length < 8796093022208 then (spec_FallDisk.l0 k l1 a2 0 l0_0 l0_1 (y387 ++ l0_0)) else (none))) else ((spec_l03Copy.f l0_0 l0_1).bind fun bt381 => (some (bt381.1, bt381.2)))) = some (r1, r2) := H
 have A4 := zj A40
 clear A40
 by_cases c5 : t380 = true
 ·subst c5
  have H1 : ((some (([] : List ByteArray) : List ByteArray)).bind fun y387 => (if y387.length + l0_0.length < 8796093022208 then (spec_FallDisk.l0 k l1 a2 0 l0_0 l0_1 (y387 ++ l0_0)) else (none))) = some (r1, r2) := by rw [if_pos rfl] at H; exact H
  clear H
  have H := H1
  clear H1
  obtain ⟨y387, hy387⟩ : ∃ y_ : List ByteArray, y_ = (([] : List ByteArray)) := ⟨_, rfl⟩
  replace H : (if y387.length + l0_0.length < 8796093022208 then (spec_FallDisk.l0 k l1 a2 0 l0_0 l0_1 (y387 ++ l0_0)) else (none)) = some (r1, r2) := by first | (rw [hy387]; with_reducible exact H) | (have H2_ := (Option.bind_some _ _).symm.trans H; rw [hy387]; with_reducible exact H2_) | (have H2_ := (Option.bind_some _ _).symm.trans H; with_reducible exact H2_) | with_reducible exact H | (rw [hy387]; exact H) | exact H
  have Ny387 := zj hy387
  clear hy387
  by_cases c6 : y387.length + l0_0.length < 8796093022208
  ·rw [if_pos c6] at H
   have LMc6 := zj c6
   clear c6
   obtain ⟨y390, hy390⟩ : ∃ y_ : List ByteArray, y_ = (y387 ++ l0_0) := ⟨_, rfl⟩
   replace H : (spec_FallDisk.l0 k l1 a2 0 l0_0 l0_1 y390) = some (r1, r2) := by first | (rw [hy390]; with_reducible exact H) | (have H2_ := (Option.bind_some _ _).symm.trans H; rw [hy390]; with_reducible exact H2_) | (have H2_ := (Option.bind_some _ _).symm.trans H; with_reducible exact H2_) | with_reducible exact H | (rw [hy390]; exact H) | exact H
   have Ny390 := zj hy390
   clear hy390
   have H' := zj H
   clear H
   go_enter Try.func50, Try.ntmps50
   go_wp2_with (first | ((with_reducible refine gate_dst (N := 3) rfl ?_); refine box_event ?hg (N := 3) ?hd (cs := #[.slice A0_0 l0_0.length c0_0, .slice A0_1 l0_1.length c0_1]) (t := 36) ?hr ?_; (case hd => rfl); (case hg => rfl); (case hr => first | (go_simp; done) | (go_simp; rfl)); intro gb378 hg w7 hbox hb; have n0_ := zj (zl (by repeat (first | (with_reducible first | exact HB.out | apply zg | apply zh | apply zi) | exact HB.out)) hb); have n1_ := zj (hbox); have n2_ := zj ((by rw [hg]; exact (zk (by repeat (first | (with_reducible first | exact HB.out | apply zg | apply zh | apply zi) | exact HB.out))) : w.heap.size ≤ gb378)); have n3_ := zj ((by rw [hg]; exact (zk (by repeat (first | (with_reducible first | exact HB.out | apply zg | apply zh | apply zi) | exact HB.out))) : w.heap.size ≤ gb378)); clear HB; have HB := n0_; have BK378 := n1_; have GW378 := n2_; have GE378 := n3_; clear n0_ n1_ n2_ n3_; clear hb hbox hg) | ((with_reducible refine gate_dst (N := 6) rfl ?_); refine box_event ?hg (N := 6) ?hd (cs := #[.slice none 0 0, .slice none 0 0]) (t := 36) ?hr ?_; (case hd => rfl); (case hg => rfl); (case hr => first | (go_simp; done) | (go_simp; rfl)); intro gb379 hg w8 hbox hb; have n0_ := zj (zo (g := gb378) (o := .cells #[.slice A0_0 l0_0.length c0_0, .slice A0_1 l0_1.length c0_1] 36 (0, 0)) (by (with_reducible repeat (first | refine za ?_ _ | refine zb ?_ | refine zc ?_ _)); exact BK378.out) hb); have n1_ := zj (zl (by repeat (first | (with_reducible first | exact HB.out | apply zg | apply zh | apply zi | refine zs ?_ GE378.out) | exact HB.out)) hb); have n2_ := zj (hbox); have n3_ := zj ((by rw [hg]; exact (zk (by repeat (first | (with_reducible first | exact HB.out | apply zg | apply zh | apply zi | refine zs ?_ GE378.out) | exact HB.out))) : w.heap.size ≤ gb379)); have n4_ := zj ((by rw [hg]; exact (zk (by repeat (first | (with_reducible first | exact HB.out | apply zg | apply zh | apply zi | refine zs ?_ GE378.out) | exact HB.out))) : w.heap.size ≤ gb379)); have n5_ := zj ((by rw [hg]; exact Nat.ne_of_lt (blk_lt (g := gb378) (o := .cells #[.slice A0_0 l0_0.length c0_0, .slice A0_1 l0_1.length c0_1] 36 (0, 0)) (by (with_reducible repeat (first | refine za ?_ _ | refine zb ?_ | refine zc ?_ _)); exact BK378.out)) : gb378 ≠ gb379)); have n6_ := zj ((by rw [hg]; exact Nat.ne_of_gt (blk_lt (g := gb378) (o := .cells #[.slice A0_0 l0_0.length c0_0, .slice A0_1 l0_1.length c0_1] 36 (0, 0)) (by (with_reducible repeat (first | refine za ?_ _ | refine zb ?_ | refine zc ?_ _)); exact BK378.out)) : gb379 ≠ gb378)); clear BK378; clear HB; have BK378 := n0_; have HB := n1_; have BK379 := n2_; have GW379 := n3_; have GE379 := n4_; have NB378_379 := n5_; have NB379_378 := n6_; clear n0_ n1_ n2_ n3_ n4_ n5_ n6_; clear hb hbox hg; have hnb9 := NB378_379.out; have hnc9 := NB379_378.out; have hcz10_0 : w8.cell? ⟨gb378, 0, none⟩ = some (.slice A0_0 l0_0.length c0_0) := (zq BK378.out 0).trans rfl; have hcz10_1 : w8.cell? ⟨gb378, 1, none⟩ = some (.slice A0_1 l0_1.length c0_1) := (zq BK378.out 1).trans rfl; have hfz10_0 := zv BK378.out 0; have hfz10_1 := zv BK378.out 1) | ((with_reducible refine gate_callee (f := 46) rfl ?_); refine goesL_ (some 11) rfl rfl Try.func46 (by kernel_rfl) rfl #[.agg #[.slice A0_0 l0_0.length c0_0, .slice A0_1 l0_1.length c0_1]] rfl (by (try simp only [List.map_toArray, List.map_cons, List.map_nil]); first | done | rfl | (simp only [List.length_drop, List.length_take]; rfl)) ?_; (with_reducible refine (spec_DiskOk.calls k _ _ l0_0 _ _ l0_1 true _ ?side1 ?side2 ?side3 ?side4 A4.out).mono ?_); (case side1 => repeat (first | exact (Kd.C_below HR0_0.out HB.out) | (with_reducible refine Kd.C_alloc ?_ _) | (with_reducible refine Kd.C_drewN ?_ _) | (with_reducible refine Kd.C_drew ?_))); (case side2 => exact HC0_0.out); (case side3 => repeat (first | exact (Kd.C_below HR0_1.out HB.out) | (with_reducible refine Kd.C_alloc ?_ _) | (with_reducible refine Kd.C_drewN ?_ _) | (with_reducible refine Kd.C_drew ?_))); (case side4 => exact HC0_1.out); rintro e w11 ⟨rfl, hb⟩; refine ⟨_, rfl, ?_⟩; have n0_ := zj (zo (g := gb378) (o := .cells #[.slice A0_0 l0_0.length c0_0, .slice A0_1 l0_1.length c0_1] 36 (0, 0)) (by (with_reducible repeat (first | refine za ?_ _ | refine zb ?_ | refine zc ?_ _)); exact BK378.out) hb); have n1_ := zj (zo (g := gb379) (o := .cells #[.slice none 0 0, .slice none 0 0] 36 (0, 0)) (by (with_reducible repeat (first | refine za ?_ _ | refine zb ?_ | refine zc ?_ _)); exact BK379.out) hb); have n2_ := zj (zl (by repeat (first | (with_reducible first | exact HB.out | apply zg | apply zh | apply zi | refine zs ?_ GE378.out | refine zs ?_ GE379.out) | exact HB.out)) hb); clear BK378; clear BK379; clear HB; have BK378 := n0_; have BK379 := n1_; have HB := n2_; clear n0_ n1_ n2_; (try clear hb); (try clear hb2); (try clear hk); (try clear hi)) | ((with_reducible refine gate_dst (N := 15) rfl ?_); refine Kd.R_lit Kd.string _ 9 ?hg (N := 15) ?hd (xs := ([] : List ByteArray)) (inner := []) (ok := fun _ => True) (okp := fun _ => True) ?hr ?hp (fun _ hk => hk) trivial (Below.refl _ _) (Nat.le_refl _) (by simp) ?_; (case hd => rfl); (case hg => rfl); (case hr => first | (go_simp; done) | (go_simp; rfl)); (case hp => exact (Reps.none _ _)); intro v388 w12 ho13 hb hg_ hnew_; clear hg_ hnew_; (first | rw [← Ny387.out] at ho13 | (simp only [Int.reduceToNat] at ho13; rw [← Ny387.out] at ho13)); have n0_ := zj (Kd.R_lower ho13 (zk (by repeat (first | (with_reducible first | exact HB.out | apply zg | apply zh | apply zi | refine zs ?_ GE378.out | refine zs ?_ GE379.out) | exact HB.out)))); have n1_ := zj (zo (g := gb378) (o := .cells #[.slice A0_0 l0_0.length c0_0, .slice A0_1 l0_1.length c0_1] 36 (0, 0)) (by (with_reducible repeat (first | refine za ?_ _ | refine zb ?_ | refine zc ?_ _)); exact BK378.out) hb); have n2_ := zj (zo (g := gb379) (o := .cells #[.slice none 0 0, .slice none 0 0] 36 (0, 0)) (by (with_reducible repeat (first | refine za ?_ _ | refine zb ?_ | refine zc ?_ _)); exact BK379.out) hb); have n3_ := zj (zl (by repeat (first | (with_reducible first | exact HB.out | apply zg | apply zh | apply zi | refine zs ?_ GE378.out | refine zs ?_ GE379.out) | exact HB.out)) hb); clear BK378; clear BK379; clear HB; have HO389 := n0_; have BK378 := n1_; have BK379 := n2_; have HB := n3_; clear n0_ n1_ n2_ n3_; clear hb ho13; have hcz14_0 : w12.cell? ⟨gb378, 0, none⟩ = some (.slice A0_0 l0_0.length c0_0) := (zq BK378.out 0).trans rfl; have hcz14_1 : w12.cell? ⟨gb378, 1, none⟩ = some (.slice A0_1 l0_1.length c0_1) := (zq BK378.out 1).trans rfl; have hfz14_0 := zv BK378.out 0; have hfz14_1 := zv BK378.out 1) | ((with_reducible refine gate_builtin (b := .append) (xs := #[.tmp 15, .tmp 17]) rfl ?_); at_builtin; refine Kd.R_append_rows Kd.string (w0 := w) w.heap.size rfl (.tmp 15) (.tmp 17) 22 9 (.string ⟨#[]⟩) 16 rfl Try.underlying22 info9 rfl (by decide) (by omega) v388 y387 l0_0 _ _ _ (fun _ => True) (fun _ => False) rfl rfl ?aO ?aR (fun _ _ h => h) (fun _ h => h.elim) ?aF ?aB ?aS ?aL ?_; (case aR => repeat (first | exact (Kd.C_below HR0_0.out HB.out) | (with_reducible refine Kd.C_alloc ?_ _) | (with_reducible refine Kd.C_drewN ?_ _) | (with_reducible refine Kd.C_drew ?_))); (case aB => exact (by repeat (first | (with_reducible first | exact HB.out | apply zg | apply zh | apply zi | refine zs ?_ GE378.out | refine zs ?_ GE379.out) | exact HB.out))); (case aF => exact (fun _ _ => trivial)); (case aO => exact (by (with_reducible repeat (first | apply zd | apply ze | apply zf)); exact HO389.out)); (case aS => exact (zk (by repeat (first | (with_reducible first | exact HB.out | apply zg | apply zh | apply zi | refine zs ?_ GE378.out | refine zs ?_ GE379.out) | exact HB.out)))); (case aL => have := LMc6.out; omega); intro v391 w15 ho hb hg hat; rw [← Ny390.out] at ho; have n0_ := zj (blk_grown (g := gb378) (o := .cells #[.slice A0_0 l0_0.length c0_0, .slice A0_1 l0_1.length c0_1] 36 (0, 0)) (by (with_reducible repeat (first | refine za ?_ _ | refine zb ?_ | refine zc ?_ _)); exact BK378.out) hg (Kd.R_ne HO389.out BK378.out (by decide))); have n1_ := zj (blk_grown (g := gb379) (o := .cells #[.slice none 0 0, .slice none 0 0] 36 (0, 0)) (by (with_reducible repeat (first | refine za ?_ _ | refine zb ?_ | refine zc ?_ _)); exact BK379.out) hg (Kd.R_ne HO389.out BK379.out (by decide))); have n2_ := zj (hb); have n3_ := zj (ho); clear BK378; clear BK379; clear HB; clear HO389; have BK378 := n0_; have BK379 := n1_; have HB := n2_; have HO392 := n3_; clear n0_ n1_ n2_ n3_; clear ho hb hg hat; obtain ⟨Ao16, co16, eo16⟩ := Kd.R_slice HO392.out; subst eo16) | ((with_reducible refine gate_dst (N := 7) rfl ?_); refine box_event ?hg (N := 7) ?hd (cs := #[.slice none 0 0, .slice none 0 0]) (t := 36) ?hr ?_; (case hd => rfl); (case hg => rfl); (case hr => first | (go_simp; done) | (go_simp; rfl)); intro gb393 hg w17 hbox hb; have n0_ := zj (zt (by (with_reducible repeat (first | apply zd | apply ze | apply zf)); exact HO392.out) hb); have n1_ := zj (zo (g := gb378) (o := .cells #[.slice A0_0 l0_0.length c0_0, .slice A0_1 l0_1.length c0_1] 36 (0, 0)) (by (with_reducible repeat (first | refine za ?_ _ | refine zb ?_ | refine zc ?_ _)); exact BK378.out) hb); have n2_ := zj (zo (g := gb379) (o := .cells #[.slice none 0 0, .slice none 0 0] 36 (0, 0)) (by (with_reducible repeat (first | refine za ?_ _ | refine zb ?_ | refine zc ?_ _)); exact BK379.out) hb); have n3_ := zj (zl (by repeat (first | (with_reducible first | exact HB.out | apply zg | apply zh | apply zi | refine zs ?_ GE378.out | refine zs ?_ GE379.out) | exact HB.out)) hb); have n4_ := zj (hbox); have n5_ := zj ((by rw [hg]; exact (zk (by repeat (first | (with_reducible first | exact HB.out | apply zg | apply zh | apply zi | refine zs ?_ GE378.out | refine zs ?_ GE379.out) | exact HB.out))) : w.heap.size ≤ gb393)); have n6_ := zj ((by rw [hg]; exact (zk (by repeat (first | (with_reducible first | exact HB.out | apply zg | apply zh | apply zi | refine zs ?_ GE378.out | refine zs ?_ GE379.out) | exact HB.out))) : w.heap.size ≤ gb393)); have n7_ := zj ((by rw [hg]; exact Nat.ne_of_lt (blk_lt (g := gb378) (o := .cells #[.slice A0_0 l0_0.length c0_0, .slice A0_1 l0_1.length c0_1] 36 (0, 0)) (by (with_reducible repeat (first | refine za ?_ _ | refine zb ?_ | refine zc ?_ _)); exact BK378.out)) : gb378 ≠ gb393)); have n8_ := zj ((by rw [hg]; exact Nat.ne_of_gt (blk_lt (g := gb378) (o := .cells #[.slice A0_0 l0_0.length c0_0, .slice A0_1 l0_1.length c0_1] 36 (0, 0)) (by (with_reducible repeat (first | refine za ?_ _ | refine zb ?_ | refine zc ?_ _)); exact BK378.out)) : gb393 ≠ gb378)); have n9_ := zj ((by rw [hg]; exact Nat.ne_of_lt (blk_lt (g := gb379) (o := .cells #[.slice none 0 0, .slice none 0 0] 36 (0, 0)) (by (with_reducible repeat (first | refine za ?_ _ | refine zb ?_ | refine zc ?_ _)); exact BK379.out)) : gb379 ≠ gb393)); have n10_ := zj ((by rw [hg]; exact Nat.ne_of_gt (blk_lt (g := gb379) (o := .cells #[.slice none 0 0, .slice none 0 0] 36 (0, 0)) (by (with_reducible repeat (first | refine za ?_ _ | refine zb ?_ | refine zc ?_ _)); exact BK379.out)) : gb393 ≠ gb379)); clear HO392; clear BK378; clear BK379; clear HB; have HO392 := n0_; have BK378 := n1_; have BK379 := n2_; have HB := n3_; have BK393 := n4_; have GW393 := n5_; have GE393 := n6_; have NB378_393 := n7_; have NB393_378 := n8_; have NB379_393 := n9_; have NB393_379 := n10_; clear n0_ n1_ n2_ n3_ n4_ n5_ n6_ n7_ n8_ n9_ n10_; clear hb hbox hg; have hnb18 := NB393_378.out; have hnc18 := NB378_393.out; have hnb19 := NB393_379.out; have hnc19 := NB379_393.out; have hcz20_0 : w17.cell? ⟨gb393, 0, none⟩ = some (.slice none 0 0) := (zq BK393.out 0).trans rfl; have hcz20_1 : w17.cell? ⟨gb393, 1, none⟩ = some (.slice none 0 0) := (zq BK393.out 1).trans rfl; have hfz20_0 := zv BK393.out 0; have hfz20_1 := zv BK393.out 1))
   go_loopg [8] k (fun kq v8 w' => ∃ (x8_1 : Int) (x394000_1 : List ByteArray) (u394000 : Value), v8 = .int .i64 x8_1 ∧ Aside0 (spec_FallDisk.l0 kq l1 a2 x8_1 l0_0 l0_1 x394000_1 = some (r1, r2)) ∧ Aside0 (kq ≤ k) ∧ Aside0 (Kd.R Kd.string 9 w' w.heap.size (fun _ => True) u394000 x394000_1) ∧ Aside0 (w'.heap[gb378]? = some (.cells #[(.slice A0_0 l0_0.length c0_0), (.slice A0_1 l0_1.length c0_1)] 36 (0, 0))) ∧ Aside0 (w'.heap[gb379]? = some (.cells #[(.slice none 0 0), (.slice none 0 0)] 36 (0, 0))) ∧ Aside0 (w'.heap[gb393]? = some (.cells #[u394000, (.slice none 0 0)] 36 (0, 0))) ∧ Aside0 (Below w.heap.size w w'))
   case atStart => exact ⟨(0), (y390), (.slice Ao16 y390.length co16), (by first | rfl | (simp; done) | (simp [*]; done)), H', ⟨Nat.le_refl _⟩, ⟨by (with_reducible repeat (first | apply zd | apply ze | apply zf)); exact zm (zn (p := ⟨gb393, 1, none⟩) (zn (p := ⟨gb393, 0, none⟩) (zu HO392.out BK393.out (by decide)) (fun _ hk => hk.2) (.slice Ao16 y390.length co16)) (fun _ hk => hk.2) (.slice none 0 0)) (fun _ hk => trivial)⟩, ⟨by (with_reducible repeat (first | refine za ?_ _ | refine zb ?_ | refine zc ?_ _)); refine zr ?_ NB378_393.out _; (with_reducible repeat (first | refine za ?_ _ | refine zb ?_ | refine zc ?_ _)); refine zr ?_ NB378_393.out _; (with_reducible repeat (first | refine za ?_ _ | refine zb ?_ | refine zc ?_ _)); exact BK378.out⟩, ⟨by (with_reducible repeat (first | refine za ?_ _ | refine zb ?_ | refine zc ?_ _)); refine zr ?_ NB379_393.out _; (with_reducible repeat (first | refine za ?_ _ | refine zb ?_ | refine zc ?_ _)); refine zr ?_ NB379_393.out _; (with_reducible repeat (first | refine za ?_ _ | refine zb ?_ | refine zc ?_ _)); exact BK379.out⟩, ⟨by (with_reducible repeat (first | refine za ?_ _ | refine zb ?_ | refine zc ?_ _)); refine zp (cs := #[.slice Ao16 y390.length co16, .slice none 0 0]) ?_ 1 _ rfl; (with_reducible repeat (first | refine za ?_ _ | refine zb ?_ | refine zc ?_ _)); refine zp (cs := #[.slice none 0 0, .slice none 0 0]) ?_ 0 _ rfl; (with_reducible repeat (first | refine za ?_ _ | refine zb ?_ | refine zc ?_ _)); exact BK393.out⟩, ⟨by repeat (first | (with_reducible first | exact HB.out | apply zg | apply zh | apply zi | refine zs ?_ GE378.out | refine zs ?_ GE379.out | refine zs ?_ GE393.out) | exact HB.out)⟩⟩
   case round =>
    clear H'
    try clear c1
    try clear p2
    try clear c4
    try clear c5
    try clear c6
    try clear c9
    try clear c18
    try clear c19
    try clear hcz10_0
    try clear hcz10_1
    try clear hcz14_0
    try clear hcz14_1
    try clear hcz20_0
    try clear hcz20_1
    try clear hfz10_0
    try clear hfz10_1
    try clear hfz14_0
    try clear hfz14_1
    try clear hfz20_0
    try clear hfz20_1
    obtain ⟨x8_1, x394000_1, u394000, rfl, HA, HK1, HO_394000, BK378, BK379, BK393, HB⟩ := hrel
    cases gk with
    | zero => exact absurd HA.out (by simp [spec_FallDisk.l0])
    | succ k1 =>
     have H := HA.out
     clear HA
     simp only [spec_FallDisk.l0] at H
     by_cases c21 : x8_1 < (l0_1.length : Int)
     ·rw [if_pos c21] at H
      have c21b0 : decide (x8_1 < (l0_1.length : Int)) = true := decide_eq_true c21
      clear c21
      have HC22 := zj H
      clear H
      have hnb23 := NB378_379.out
      have hnc23 := NB379_378.out
      have hnb24 := NB378_393.out
      have hnc24 := NB393_378.out
      have hcz25_0 : wr.cell? ⟨gb378, 0, none⟩ = some (.slice A0_0 l0_0.length c0_0) := (zq BK378.out 0).trans rfl
      have hcz25_1 : wr.cell? ⟨gb378, 1, none⟩ = some (.slice A0_1 l0_1.length c0_1) := (zq BK378.out 1).trans rfl
      have hfz25_0 := zv BK378.out 0
      have hfz25_1 := zv BK378.out 1
      go_upto_region 7 with (fail)
      go_cut [37] (fun v37 wc => ∃ (kq : Nat) (x37_21 : Bool), v37 = .bool x37_21 ∧ Aside0 (spec_FallDisk.j1 kq l1 a2 x8_1 x37_21 l0_0 l0_1 x394000_1 = some (r1, r2)) ∧ Aside0 (kq ≤ k1) ∧ Aside0 (Kd.R Kd.string 9 wc w.heap.size (fun _ => True) u394000 x394000_1) ∧ Aside0 (wc.heap[gb378]? = some (.cells #[(.slice A0_0 l0_0.length c0_0), (.slice A0_1 l0_1.length c0_1)] 36 (0, 0))) ∧ Aside0 (wc.heap[gb379]? = some (.cells #[(.slice none 0 0), (.slice none 0 0)] 36 (0, 0))) ∧ Aside0 (wc.heap[gb393]? = some (.cells #[u394000, (.slice none 0 0)] 36 (0, 0))) ∧ Aside0 (Below w.heap.size w wc))
      case first =>
       have H := HC22.out
       clear HC22
       by_cases c26 : x8_1 ≥ (l1.length : Int)
       ·rw [if_pos c26] at H
        have c26b0 : decide ((l1.length : Int) ≤ x8_1) = true := decide_eq_true c26
        clear c26
        (first | rw [c26b0] | (simp only [i64_w, i32_w]; rw [c26b0]) | skip)
        have H' := zj H
        clear H
        go_wp2
        go_meet
        case rel => exact ⟨_, (true), (by first | rfl | (simp; done) | (simp [*]; done)), H', ⟨by have := HK1.out; first | omega | exact Nat.le_refl _⟩, ⟨by (with_reducible repeat (first | apply zd | apply ze | apply zf)); exact HO_394000.out⟩, ⟨by (with_reducible repeat (first | refine za ?_ _ | refine zb ?_ | refine zc ?_ _)); exact BK378.out⟩, ⟨by (with_reducible repeat (first | refine za ?_ _ | refine zb ?_ | refine zc ?_ _)); exact BK379.out⟩, ⟨by (with_reducible repeat (first | refine za ?_ _ | refine zb ?_ | refine zc ?_ _)); exact BK393.out⟩, ⟨by repeat (first | (with_reducible first | exact HB.out | apply zg | apply zh | apply zi | refine zs ?_ GE378.out | refine zs ?_ GE379.out | refine zs ?_ GE393.out) | exact HB.out)⟩⟩
       ·rw [if_neg c26] at H
        have c26b0 : decide ((l1.length : Int) ≤ x8_1) = false := decide_eq_false c26
        clear c26
        (first | rw [c26b0] | (simp only [i64_w, i32_w]; rw [c26b0]) | skip)
        by_cases c27 : 0 ≤ x8_1
        ·rw [if_pos c27] at H
         have c27b0 : decide (0 ≤ x8_1) = true := decide_eq_true c27
         clear c27
         by_cases c28 : x8_1 < (l1.length : Int)
         ·rw [if_pos c28] at H
          have c28b0 : decide (x8_1 < (l1.length : Int)) = true := decide_eq_true c28
          clear c28
          have H' := zj H
          clear H
          have p394 : 0 ≤ (x8_1 : Int) := of_decide_eq_true (by first | (with_reducible assumption) | assumption)
          have q394 : x8_1 < (l1.length : Int) := of_decide_eq_true (by first | (with_reducible assumption) | assumption)
          obtain ⟨ad394, e394, hx394_0⟩ := Kd.at_bool HR1.out x8_1 p394 q394
          cases e394
          replace hx394_0 := (HB.out.cell (World.block_lt_of_cell? w _ hx394_0)).trans hx394_0
          replace p394 := eq_true p394
          replace q394 := eq_true q394
          go_wp2
          go_meet
          case rel => exact ⟨_, (!(rdOf false l1 x8_1)), (by first | rfl | (simp; done) | (simp [*]; done)), H', ⟨by have := HK1.out; first | omega | exact Nat.le_refl _⟩, ⟨by (with_reducible repeat (first | apply zd | apply ze | apply zf)); exact HO_394000.out⟩, ⟨by (with_reducible repeat (first | refine za ?_ _ | refine zb ?_ | refine zc ?_ _)); exact BK378.out⟩, ⟨by (with_reducible repeat (first | refine za ?_ _ | refine zb ?_ | refine zc ?_ _)); exact BK379.out⟩, ⟨by (with_reducible repeat (first | refine za ?_ _ | refine zb ?_ | refine zc ?_ _)); exact BK393.out⟩, ⟨by repeat (first | (with_reducible first | exact HB.out | apply zg | apply zh | apply zi | refine zs ?_ GE378.out | refine zs ?_ GE379.out | refine zs ?_ GE393.out) | exact HB.out)⟩⟩
         ·rw [if_neg c28] at H
          exact absurd H (by simp)
        ·rw [if_neg c27] at H
         exact absurd H (by simp)
      case rest =>
       clear HC22
       try clear c1
       try clear c2
       try clear p2
       try clear p3
       try clear q3
       try clear hx3
       try clear c4
       try clear c5
       try clear c6
       try clear c9
       try clear c18
       try clear c19
       try clear c21
       try clear c21b0
       try clear c23
       try clear c24
       try clear c26
       try clear c26b0
       try clear c27
       try clear c27b0
       try clear c28
       try clear c28b0
       try clear hcz10_0
       try clear hcz10_1
       try clear hcz14_0
       try clear hcz14_1
       try clear hcz20_0
       try clear hcz20_1
       try clear hcz25_0
       try clear hcz25_1
       try clear hfz10_0
       try clear hfz10_1
       try clear hfz14_0
       try clear hfz14_1
       try clear hfz20_0
       try clear hfz20_1
       try clear hfz25_0
       try clear hfz25_1
       try clear hx394_0
       try clear p2
       try clear p394
       try clear q394
       obtain ⟨kq, x37_21, rfl, HA, HJ21, HO_394000, BK378, BK379, BK393, HB⟩ := hcut
       cases kq with
       | zero => exact absurd HA.out (by simp [spec_FallDisk.j1])
       | succ kj21 =>
        have H := HA.out
        clear HA
        simp only [spec_FallDisk.j1] at H
        by_cases c29 : x37_21 = true
        ·subst c29
         have H1 : (spec_FallDisk.l0 kj21 l1 a2 (wrap64 (x8_1 + 1)) l0_0 l0_1 x394000_1) = some (r1, r2) := by rw [if_pos rfl] at H; exact H
         clear H
         have H := H1
         clear H1
         have H' := zj H
         clear H
         go_wp2
         go_roundg kj21
         case measure => have := HK1.out; have := HJ21.out; omega
         case rel => exact ⟨(wrap64 (x8_1 + 1)), (x394000_1), (u394000), (by first | rfl | (simp; done) | (simp [*]; done)), H', ⟨by have := HK1.out; have := HJ21.out; omega⟩, ⟨by (with_reducible repeat (first | apply zd | apply ze | apply zf)); exact HO_394000.out⟩, ⟨by (with_reducible repeat (first | refine za ?_ _ | refine zb ?_ | refine zc ?_ _)); exact BK378.out⟩, ⟨by (with_reducible repeat (first | refine za ?_ _ | refine zb ?_ | refine zc ?_ _)); exact BK379.out⟩, ⟨by (with_reducible repeat (first | refine za ?_ _ | refine zb ?_ | refine zc ?_ _)); exact BK393.out⟩, ⟨by repeat (first | (with_reducible first | exact HB.out | apply zg | apply zh | apply zi | refine zs ?_ GE378.out | refine zs ?_ GE379.out | refine zs ?_ GE393.out) | exact HB.out)⟩⟩
        ·replace c29 := Bool.eq_false_iff.mpr c29
         subst c29
         have H1 : (if 0 ≤ x8_1 then (if x8_1 < (l0_1.length : Int) then (if x8_1 = a2 then (if 0 ≤ (wrap64 ((((rd_T74 l0_1 x8_1).f1).size : Int) / 2)) then (if (wrap64 ((((rd_T74 l0_1 x8_1).f1).size : Int) / 2)) ≤ (((rd_T74 l0_1 x8_1).f1).size : Int) then (if 0 ≤ ((rd_T74 l0_1 x8_1).f0) then (if ((rd_T74 l0_1 x8_1).f0) < (x394000_1.length : Int) then (spec_FallDisk.l0 kj21 l1 a2 (wrap64 (x8_1 + 1)) l0_0 l0_1 (x394000_1.set (((rd_T74 l0_1 x8_1).f0) : Int).toNat (((rd_T74 l0_1 x8_1).f1).extract 0 ((wrap64 ((((rd_T74 l0_1 x8_1).f1).size : Int) / 2)) : Int).toNat))) else (none)) else (none)) else (none)) else (none)) else (if 0 ≤ ((rd_T74 l0_1 x8_1).f0) then (if ((rd_T74 l0_1 x8_1).f0) < (x394000_1.length : Int) then (spec_FallDisk.l0 kj21 l1 a2 (wrap64 (x8_1 + 1)) l0_0 l0_1 (x394000_1.set (((rd_T74 l0_1 x8_1).f0) : Int).toNat ((rd_T74 l0_1 x8_1).f1))) else (none)) else (none))) else (none)) else (none)) = some (r1, r2) := by rw [if_neg (show ¬ (false = true) by decide)] at H; exact H
         clear H
         have H := H1
         clear H1
         by_cases c30 : 0 ≤ x8_1
         ·rw [if_pos c30] at H
          have c30b0 : decide (0 ≤ x8_1) = true := decide_eq_true c30
          clear c30
          by_cases c31 : x8_1 < (l0_1.length : Int)
          ·rw [if_pos c31] at H
           have c31b0 : decide (x8_1 < (l0_1.length : Int)) = true := decide_eq_true c31
           clear c31
           by_cases c32 : x8_1 = a2
           ·rw [if_pos c32] at H
            have c32b0 : (x8_1 == a2) = true := beq_iff_eq.mpr c32
            have c32b1 : (x8_1 != a2) = false := bne_eq_false_iff_eq.mpr c32
            clear c32
            obtain ⟨ji33, hji33⟩ : ∃ j_ : Int, (wrap64 ((((rd_T74 l0_1 x8_1).f1).size : Int) / 2)) = j_ := ⟨_, rfl⟩
            replace H : (if 0 ≤ (ji33) then (if (ji33) ≤ (((rd_T74 l0_1 x8_1).f1).size : Int) then (if 0 ≤ ((rd_T74 l0_1 x8_1).f0) then (if ((rd_T74 l0_1 x8_1).f0) < (x394000_1.length : Int) then (spec_FallDisk.l0 kj21 l1 a2 (wrap64 (x8_1 + 1)) l0_0 l0_1 (x394000_1.set (((rd_T74 l0_1 x8_1).f0) : Int).toNat (((rd_T74 l0_1 x8_1).f1).extract 0 ((ji33) : Int).toNat))) else (none)) else (none)) else (none)) else (none)) = some (r1, r2) := by first | (rw [hji33] at H; exact H) | (simp only [hji33] at H ⊢; exact H)
            have hji33w : (IntKind.i64.wrap ((((rd_T74 l0_1 x8_1).f1).size : Int) / 2)) = ji33 := (i64_w _).trans hji33
            by_cases c34 : 0 ≤ (ji33)
            ·rw [if_pos c34] at H
             have c34b0 := eq_true c34
             have c34b1 : decide (0 ≤ (ji33)) = true := decide_eq_true c34
             clear c34
             by_cases c35 : (ji33) ≤ (((rd_T74 l0_1 x8_1).f1).size : Int)
             ·rw [if_pos c35] at H
              have c35b0 := eq_true c35
              have c35b1 : decide ((ji33) ≤ (((rd_T74 l0_1 x8_1).f1).size : Int)) = true := decide_eq_true c35
              clear c35
              by_cases c36 : 0 ≤ ((rd_T74 l0_1 x8_1).f0)
              ·rw [if_pos c36] at H
               have c36b0 : decide (0 ≤ ((rd_T74 l0_1 x8_1).f0)) = true := decide_eq_true c36
               clear c36
               by_cases c37 : ((rd_T74 l0_1 x8_1).f0) < (x394000_1.length : Int)
               ·rw [if_pos c37] at H
                have c37b0 : decide (((rd_T74 l0_1 x8_1).f0) < (x394000_1.length : Int)) = true := decide_eq_true c37
                clear c37
                obtain ⟨y397, hy397⟩ : ∃ y_ : List ByteArray, y_ = (x394000_1.set (((rd_T74 l0_1 x8_1).f0) : Int).toNat (((rd_T74 l0_1 x8_1).f1).extract 0 ((ji33) : Int).toNat)) := ⟨_, rfl⟩
                replace H : (spec_FallDisk.l0 kj21 l1 a2 (wrap64 (x8_1 + 1)) l0_0 l0_1 y397) = some (r1, r2) := by first | (rw [hy397]; with_reducible exact H) | (have H2_ := (Option.bind_some _ _).symm.trans H; rw [hy397]; with_reducible exact H2_) | (have H2_ := (Option.bind_some _ _).symm.trans H; with_reducible exact H2_) | with_reducible exact H | (rw [hy397]; exact H) | exact H
                have Ny397 := zj hy397
                clear hy397
                have H' := zj H
                clear H
                have hnb39 := NB378_379.out
                have hnc39 := NB379_378.out
                have hnb40 := NB378_393.out
                have hnc40 := NB393_378.out
                have hcz41_0 : wc.cell? ⟨gb378, 0, none⟩ = some (.slice A0_0 l0_0.length c0_0) := (zq BK378.out 0).trans rfl
                have hcz41_1 : wc.cell? ⟨gb378, 1, none⟩ = some (.slice A0_1 l0_1.length c0_1) := (zq BK378.out 1).trans rfl
                have hfz41_0 := zv BK378.out 0
                have hfz41_1 := zv BK378.out 1
                have p395 : 0 ≤ (x8_1 : Int) := of_decide_eq_true (by first | (with_reducible assumption) | assumption)
                have q395 : x8_1 < (l0_1.length : Int) := of_decide_eq_true (by first | (with_reducible assumption) | assumption)
                obtain ⟨ad395, e395, hx395_0, hx395_1⟩ := at_T74 HR0_1.out x8_1 p395 q395
                cases e395
                replace hx395_0 := (HB.out.cell (World.block_lt_of_cell? w _ hx395_0)).trans hx395_0
                replace hx395_1 := (HB.out.cell (World.block_lt_of_cell? w _ hx395_1)).trans hx395_1
                replace p395 := eq_true p395
                replace q395 := eq_true q395
                try go_wp2
                have n0_ := zj (zf HO_394000.out)
                have n1_ := zj (zb BK378.out)
                have n2_ := zj (zb BK379.out)
                have n3_ := zj (zb BK393.out)
                have n4_ := zj (zi HB.out)
                clear HO_394000
                clear BK378
                clear BK379
                clear BK393
                clear HB
                have HO_394000 := n0_
                have BK378 := n1_
                have BK379 := n2_
                have BK393 := n3_
                have HB := n4_
                clear n0_ n1_ n2_ n3_ n4_
                have p396 : 0 ≤ (x8_1 : Int) := of_decide_eq_true (by first | (with_reducible assumption) | assumption)
                have q396 : x8_1 < (l0_1.length : Int) := of_decide_eq_true (by first | (with_reducible assumption) | assumption)
                obtain ⟨ad396, e396, hx396_0, hx396_1⟩ := at_T74 HR0_1.out x8_1 p396 q396
                have hw396_1 := hx396_1
                have hw396_0 := hx396_0
                obtain rfl : ad395 = ad396 := (by injection e396)
                replace hx396_0 := (HB.out.cell (World.block_lt_of_cell? w _ hx396_0)).trans hx396_0
                replace hx396_1 := (HB.out.cell (World.block_lt_of_cell? w _ hx396_1)).trans hx396_1
                replace p396 := eq_true p396
                replace q396 := eq_true q396
                have p38 : 0 ≤ (((rd_T74 l0_1 x8_1).f0) : Int) := of_decide_eq_true (by first | (with_reducible assumption) | assumption)
                have q38 : (((rd_T74 l0_1 x8_1).f0) : Int) < ((x394000_1.length : Int) : Int) := of_decide_eq_true (by first | (with_reducible assumption) | assumption)
                obtain ⟨go38, co38, eo38, gb38, gl38, cl38, HG38⟩ := Kd.R_form HO_394000.out (by omega)
                (first | cases eo38 | (injection eo38 with ea_ en_ ec_; (first | subst ea_ | (injection ea_ with ea_; subst ea_)); subst ec_; clear en_))
                have GB38 := zj gb38
                have GG38 := zj HG38
                clear gb38 gl38 HG38
                obtain ⟨hx38_0, hf38_0⟩ := Kd.R_celln (⟨#[]⟩ : ByteArray) HO_394000.out (((rd_T74 l0_1 x8_1).f0) : Int) p38 q38
                replace p38 := eq_true p38
                replace q38 := eq_true q38
                have HP43 := Kd.R_putn HO_394000.out (((rd_T74 l0_1 x8_1).f0) : Int) (((rd_T74 l0_1 x8_1).f1).extract 0 ((ji33) : Int).toNat)
                rw [← Ny397.out] at HP43
                have HQ43 := zj HP43
                clear HP43
                refine start_ (n := 11) (S := fun w' => w'.cell? ⟨gb393, 0, none⟩ = some (.slice (some ⟨go38, 0, none⟩) x394000_1.length co38) ∧ w'.cell? ⟨gb393, 1, none⟩ = some (.slice none 0 0) ∧ w'.cell? ⟨gb378, 0, none⟩ = some (.slice A0_0 l0_0.length c0_0) ∧ w'.cell? ⟨gb378, 1, none⟩ = some (.slice (some ad395) l0_1.length c0_1) ∧ w'.cell? (ad395.add ((x8_1).toNat * 2)) = some (.int .i64 ((rd_T74 l0_1 x8_1).f0)) ∧ w'.cell? ⟨(ad395.add ((x8_1).toNat * 2)).block, (ad395.add ((x8_1).toNat * 2)).off + 1, none⟩ = some (.string ((rd_T74 l0_1 x8_1).f1))) (ds := [10]) #[false, false, false, false, false, false, false, false, false, false, false] (by kernel_rfl) rfl rfl ⟨(zq BK393.out 0).trans rfl, (zq BK393.out 1).trans rfl, (zq BK378.out 0).trans rfl, (zq BK378.out 1).trans rfl, ((HB.out.cell (World.block_lt_of_cell? w _ hw396_0)).trans hw396_0), ((HB.out.cell (World.block_lt_of_cell? w _ hw396_1)).trans hw396_1)⟩ (fun hHeld => ?_); refine with_tabW spec_FallDisk.tab11 spec_FallDisk.bits11 (fun HT_ HW_ => ?_)
                generalize wc.drew = w42 at HO_394000 BK378 BK379 BK393 HB GG38 HQ43 hf38_0 hx38_0 hx396_0 hx396_1 hHeld ⊢
                refine pure_ (i := 0) (N := some 52) (v := ?_) (a' := ?_) #[true, false, false, false, false, false, false, false, false, false, false] rfl rfl (any_of HT_.out (by kernel_rfl)) (fun _ _ _ h => h) (Or.inl ⟨by rfl, ?_⟩) ?_ ?_
                rotate_left
                ·intro w'
                 go_simp
                 with_reducible rfl
                rotate_left
                ·simp only [Act.put, List.setIfInBounds_toArray, List.set_cons_zero, List.set_cons_succ, i64_w, i32_w]
                 rfl
                refine pure_ (i := 2) (N := some 54) (v := ?_) (a' := ?_) #[true, false, true, false, false, false, false, false, false, false, false] rfl rfl (any_of HT_.out (by kernel_rfl)) (fun _ _ _ h => h) (Or.inl ⟨by rfl, ?_⟩) ?_ ?_
                rotate_left
                ·intro w'
                 go_simp
                 with_reducible rfl
                rotate_left
                ·simp only [Act.put, List.setIfInBounds_toArray, List.set_cons_zero, List.set_cons_succ, i64_w, i32_w]
                 rfl
                refine pure_ (i := 4) (N := some 56) (v := ?_) (a' := ?_) #[true, false, true, false, true, false, false, false, false, false, false] rfl rfl (any_of HT_.out (by kernel_rfl)) (fun _ _ _ h => h) (Or.inl ⟨by rfl, ?_⟩) ?_ ?_
                rotate_left
                ·intro w'
                 go_simp
                 with_reducible rfl
                rotate_left
                ·simp only [Act.put, List.setIfInBounds_toArray, List.set_cons_zero, List.set_cons_succ, i64_w, i32_w]
                 rfl
                refine pure_ (i := 8) (N := some 60) (v := ?_) (a' := ?_) #[true, false, true, false, true, false, false, false, true, false, false] rfl rfl (any_of HT_.out (by kernel_rfl)) (fun _ _ _ h => h) (Or.inl ⟨by rfl, ?_⟩) ?_ ?_
                rotate_left
                ·intro w'
                 go_simp
                 with_reducible rfl
                rotate_left
                ·simp only [Act.put, List.setIfInBounds_toArray, List.set_cons_zero, List.set_cons_succ, i64_w, i32_w]
                 rfl
                refine take_ (i := 1) (N := some 53) (v := ?_) (a' := ?_) #[true, true, true, false, true, false, false, false, true, false, false] rfl rfl (take_ofW HT_.out HW_.out (by kernel_rfl)) (fun _ _ _ h => h) (Or.inl ⟨by rfl, ?_⟩) hHeld ?_ ?_
                rotate_left
                ·rintro w' ⟨s0, s1, s2, s3, s4, s5⟩
                 go_simp
                 with_reducible rfl
                rotate_left
                ·simp only [Act.put, List.setIfInBounds_toArray, List.set_cons_zero, List.set_cons_succ, i64_w, i32_w]
                 rfl
                refine take_ (i := 3) (N := some 55) (v := ?_) (a' := ?_) #[true, true, true, true, true, false, false, false, true, false, false] rfl rfl (take_ofW HT_.out HW_.out (by kernel_rfl)) (fun _ _ _ h => h) (Or.inl ⟨by rfl, ?_⟩) hHeld ?_ ?_
                rotate_left
                ·rintro w' ⟨s0, s1, s2, s3, s4, s5⟩
                 go_simp
                 with_reducible rfl
                rotate_left
                ·simp only [Act.put, List.setIfInBounds_toArray, List.set_cons_zero, List.set_cons_succ, i64_w, i32_w]
                 rfl
                refine pure_ (i := 5) (N := some 57) (v := ?_) (a' := ?_) #[true, true, true, true, true, true, false, false, true, false, false] rfl rfl (any_of HT_.out (by kernel_rfl)) (fun _ _ _ h => h) (Or.inl ⟨by rfl, ?_⟩) ?_ ?_
                rotate_left
                ·intro w'
                 go_simp
                 with_reducible rfl
                rotate_left
                ·simp only [Act.put, List.setIfInBounds_toArray, List.set_cons_zero, List.set_cons_succ, i64_w, i32_w]
                 rfl
                refine pure_ (i := 6) (N := some 58) (v := ?_) (a' := ?_) #[true, true, true, true, true, true, true, false, true, false, false] rfl rfl (any_of HT_.out (by kernel_rfl)) (fun _ _ _ h => h) (Or.inl ⟨by rfl, ?_⟩) ?_ ?_
                rotate_left
                ·intro w'
                 go_simp
                 with_reducible rfl
                rotate_left
                ·simp only [Act.put, List.setIfInBounds_toArray, List.set_cons_zero, List.set_cons_succ, i64_w, i32_w]
                 rfl
                refine take_ (i := 7) (N := some 59) (v := ?_) (a' := ?_) #[true, true, true, true, true, true, true, true, true, false, false] rfl rfl (take_ofW HT_.out HW_.out (by kernel_rfl)) (fun _ _ _ h => h) (Or.inl ⟨by rfl, ?_⟩) hHeld ?_ ?_
                rotate_left
                ·rintro w' ⟨s0, s1, s2, s3, s4, s5⟩
                 go_simp
                 with_reducible rfl
                rotate_left
                ·simp only [Act.put, List.setIfInBounds_toArray, List.set_cons_zero, List.set_cons_succ, i64_w, i32_w]
                 rfl
                refine pure_ (i := 9) (N := some 61) (v := ?_) (a' := ?_) #[true, true, true, true, true, true, true, true, true, true, false] rfl rfl (any_of HT_.out (by kernel_rfl)) (fun _ _ _ h => h) (Or.inl ⟨by rfl, ?_⟩) ?_ ?_
                rotate_left
                ·intro w'
                 go_simp
                 with_reducible rfl
                rotate_left
                ·simp only [Act.put, List.setIfInBounds_toArray, List.set_cons_zero, List.set_cons_succ, i64_w, i32_w]
                 rfl
                refine last_ (i := 10) (N := none) #[true, true, true, true, true, true, true, true, true, true, true] rfl rfl (one_of HT_.out (by kernel_rfl)) (by decide) (fun K hK => ?_)
                refine skip_ (w1 := ?_) (by rfl) rfl ?_ ?_
                rotate_left
                ·go_simp
                 rfl
                refine hK.out _ _ ?_
                clear hK K
                refine done_ (done_of HT_.out (by kernel_rfl)) ?_
                try go_wp2
                go_roundg kj21
                case measure => have := HK1.out; have := HJ21.out; omega
                case rel => exact ⟨(wrap64 (x8_1 + 1)), (y397), (.slice (some ⟨go38, 0, none⟩) x394000_1.length co38), (by first | rfl | (simp; done) | (simp [*]; done)), H', ⟨by have := HK1.out; have := HJ21.out; omega⟩, ⟨by (with_reducible repeat (first | apply zd | apply ze | apply zf)); exact HQ43.out⟩, ⟨by (with_reducible repeat (first | refine za ?_ _ | refine zb ?_ | refine zc ?_ _)); refine zr ?_ (by have h_ := Kd.R_ne HO_394000.out BK378.out (by decide); intro e_; exact h_ (by rw [e_]; rfl)) _; (with_reducible repeat (first | refine za ?_ _ | refine zb ?_ | refine zc ?_ _)); exact BK378.out⟩, ⟨by (with_reducible repeat (first | refine za ?_ _ | refine zb ?_ | refine zc ?_ _)); refine zr ?_ (by have h_ := Kd.R_ne HO_394000.out BK379.out (by decide); intro e_; exact h_ (by rw [e_]; rfl)) _; (with_reducible repeat (first | refine za ?_ _ | refine zb ?_ | refine zc ?_ _)); exact BK379.out⟩, ⟨by (with_reducible repeat (first | refine za ?_ _ | refine zb ?_ | refine zc ?_ _)); refine zr ?_ (by have h_ := Kd.R_ne HO_394000.out BK393.out (by decide); intro e_; exact h_ (by rw [e_]; rfl)) _; (with_reducible repeat (first | refine za ?_ _ | refine zb ?_ | refine zc ?_ _)); exact BK393.out⟩, ⟨by repeat (first | (with_reducible first | exact HB.out | apply zg | apply zh | apply zi | refine zs ?_ GB38.out | refine zs ?_ GE378.out | refine zs ?_ GE379.out | refine zs ?_ GE393.out) | exact HB.out)⟩⟩
               ·rw [if_neg c37] at H
                exact absurd H (by simp)
              ·rw [if_neg c36] at H
               exact absurd H (by simp)
             ·rw [if_neg c35] at H
              exact absurd H (by simp)
            ·rw [if_neg c34] at H
             exact absurd H (by simp)
           ·rw [if_neg c32] at H
            have c32b0 : (x8_1 == a2) = false := beq_eq_false_iff_ne.mpr c32
            have c32b1 : (x8_1 != a2) = true := bne_iff_ne.mpr c32
            by_cases c44 : 0 ≤ ((rd_T74 l0_1 x8_1).f0)
            ·rw [if_pos c44] at H
             have c44b0 : decide (0 ≤ ((rd_T74 l0_1 x8_1).f0)) = true := decide_eq_true c44
             clear c44
             by_cases c45 : ((rd_T74 l0_1 x8_1).f0) < (x394000_1.length : Int)
             ·rw [if_pos c45] at H
              have c45b0 : decide (((rd_T74 l0_1 x8_1).f0) < (x394000_1.length : Int)) = true := decide_eq_true c45
              clear c45
              obtain ⟨y399, hy399⟩ : ∃ y_ : List ByteArray, y_ = (x394000_1.set (((rd_T74 l0_1 x8_1).f0) : Int).toNat ((rd_T74 l0_1 x8_1).f1)) := ⟨_, rfl⟩
              replace H : (spec_FallDisk.l0 kj21 l1 a2 (wrap64 (x8_1 + 1)) l0_0 l0_1 y399) = some (r1, r2) := by first | (rw [hy399]; with_reducible exact H) | (have H2_ := (Option.bind_some _ _).symm.trans H; rw [hy399]; with_reducible exact H2_) | (have H2_ := (Option.bind_some _ _).symm.trans H; with_reducible exact H2_) | with_reducible exact H | (rw [hy399]; exact H) | exact H
              have Ny399 := zj hy399
              clear hy399
              have H' := zj H
              clear H
              have hnb47 := NB378_379.out
              have hnc47 := NB379_378.out
              have hnb48 := NB378_393.out
              have hnc48 := NB393_378.out
              have hcz49_0 : wc.cell? ⟨gb378, 0, none⟩ = some (.slice A0_0 l0_0.length c0_0) := (zq BK378.out 0).trans rfl
              have hcz49_1 : wc.cell? ⟨gb378, 1, none⟩ = some (.slice A0_1 l0_1.length c0_1) := (zq BK378.out 1).trans rfl
              have hfz49_0 := zv BK378.out 0
              have hfz49_1 := zv BK378.out 1
              have p395 : 0 ≤ (x8_1 : Int) := of_decide_eq_true (by first | (with_reducible assumption) | assumption)
              have q395 : x8_1 < (l0_1.length : Int) := of_decide_eq_true (by first | (with_reducible assumption) | assumption)
              obtain ⟨ad395, e395, hx395_0, hx395_1⟩ := at_T74 HR0_1.out x8_1 p395 q395
              cases e395
              replace hx395_0 := (HB.out.cell (World.block_lt_of_cell? w _ hx395_0)).trans hx395_0
              replace hx395_1 := (HB.out.cell (World.block_lt_of_cell? w _ hx395_1)).trans hx395_1
              replace p395 := eq_true p395
              replace q395 := eq_true q395
              try go_wp2
              have n0_ := zj (zf HO_394000.out)
              have n1_ := zj (zb BK378.out)
              have n2_ := zj (zb BK379.out)
              have n3_ := zj (zb BK393.out)
              have n4_ := zj (zi HB.out)
              clear HO_394000
              clear BK378
              clear BK379
              clear BK393
              clear HB
              have HO_394000 := n0_
              have BK378 := n1_
              have BK379 := n2_
              have BK393 := n3_
              have HB := n4_
              clear n0_ n1_ n2_ n3_ n4_
              have p398 : 0 ≤ (x8_1 : Int) := of_decide_eq_true (by first | (with_reducible assumption) | assumption)
              have q398 : x8_1 < (l0_1.length : Int) := of_decide_eq_true (by first | (with_reducible assumption) | assumption)
              obtain ⟨ad398, e398, hx398_0, hx398_1⟩ := at_T74 HR0_1.out x8_1 p398 q398
              have hw398_1 := hx398_1
              have hw398_0 := hx398_0
              obtain rfl : ad395 = ad398 := (by injection e398)
              replace hx398_0 := (HB.out.cell (World.block_lt_of_cell? w _ hx398_0)).trans hx398_0
              replace hx398_1 := (HB.out.cell (World.block_lt_of_cell? w _ hx398_1)).trans hx398_1
              replace p398 := eq_true p398
              replace q398 := eq_true q398
              have p46 : 0 ≤ (((rd_T74 l0_1 x8_1).f0) : Int) := of_decide_eq_true (by first | (with_reducible assumption) | assumption)
              have q46 : (((rd_T74 l0_1 x8_1).f0) : Int) < ((x394000_1.length : Int) : Int) := of_decide_eq_true (by first | (with_reducible assumption) | assumption)
              obtain ⟨go46, co46, eo46, gb46, gl46, cl46, HG46⟩ := Kd.R_form HO_394000.out (by omega)
              (first | cases eo46 | (injection eo46 with ea_ en_ ec_; (first | subst ea_ | (injection ea_ with ea_; subst ea_)); subst ec_; clear en_))
              have GB46 := zj gb46
              have GG46 := zj HG46
              clear gb46 gl46 HG46
              obtain ⟨hx46_0, hf46_0⟩ := Kd.R_celln (⟨#[]⟩ : ByteArray) HO_394000.out (((rd_T74 l0_1 x8_1).f0) : Int) p46 q46
              replace p46 := eq_true p46
              replace q46 := eq_true q46
              have HP51 := Kd.R_putn HO_394000.out (((rd_T74 l0_1 x8_1).f0) : Int) ((rd_T74 l0_1 x8_1).f1)
              rw [← Ny399.out] at HP51
              have HQ51 := zj HP51
              clear HP51
              refine start_ (n := 11) (S := fun w' => w'.cell? ⟨gb393, 0, none⟩ = some (.slice (some ⟨go46, 0, none⟩) x394000_1.length co46) ∧ w'.cell? ⟨gb393, 1, none⟩ = some (.slice none 0 0) ∧ w'.cell? ⟨gb378, 0, none⟩ = some (.slice A0_0 l0_0.length c0_0) ∧ w'.cell? ⟨gb378, 1, none⟩ = some (.slice (some ad395) l0_1.length c0_1) ∧ w'.cell? (ad395.add ((x8_1).toNat * 2)) = some (.int .i64 ((rd_T74 l0_1 x8_1).f0)) ∧ w'.cell? ⟨(ad395.add ((x8_1).toNat * 2)).block, (ad395.add ((x8_1).toNat * 2)).off + 1, none⟩ = some (.string ((rd_T74 l0_1 x8_1).f1))) (ds := [10]) #[false, false, false, false, false, false, false, false, false, false, false] (by kernel_rfl) rfl rfl ⟨(zq BK393.out 0).trans rfl, (zq BK393.out 1).trans rfl, (zq BK378.out 0).trans rfl, (zq BK378.out 1).trans rfl, ((HB.out.cell (World.block_lt_of_cell? w _ hw398_0)).trans hw398_0), ((HB.out.cell (World.block_lt_of_cell? w _ hw398_1)).trans hw398_1)⟩ (fun hHeld => ?_); refine with_tabW spec_FallDisk.tab11 spec_FallDisk.bits11 (fun HT_ HW_ => ?_)
              generalize wc.drew = w50 at HO_394000 BK378 BK379 BK393 HB GG46 HQ51 hf46_0 hx398_0 hx398_1 hx46_0 hHeld ⊢
              refine pure_ (i := 0) (N := some 52) (v := ?_) (a' := ?_) #[true, false, false, false, false, false, false, false, false, false, false] rfl rfl (any_of HT_.out (by kernel_rfl)) (fun _ _ _ h => h) (Or.inl ⟨by rfl, ?_⟩) ?_ ?_
              rotate_left
              ·intro w'
               go_simp
               with_reducible rfl
              rotate_left
              ·simp only [Act.put, List.setIfInBounds_toArray, List.set_cons_zero, List.set_cons_succ, i64_w, i32_w]
               rfl
              refine pure_ (i := 2) (N := some 54) (v := ?_) (a' := ?_) #[true, false, true, false, false, false, false, false, false, false, false] rfl rfl (any_of HT_.out (by kernel_rfl)) (fun _ _ _ h => h) (Or.inl ⟨by rfl, ?_⟩) ?_ ?_
              rotate_left
              ·intro w'
               go_simp
               with_reducible rfl
              rotate_left
              ·simp only [Act.put, List.setIfInBounds_toArray, List.set_cons_zero, List.set_cons_succ, i64_w, i32_w]
               rfl
              refine pure_ (i := 4) (N := some 56) (v := ?_) (a' := ?_) #[true, false, true, false, true, false, false, false, false, false, false] rfl rfl (any_of HT_.out (by kernel_rfl)) (fun _ _ _ h => h) (Or.inl ⟨by rfl, ?_⟩) ?_ ?_
              rotate_left
              ·intro w'
               go_simp
               with_reducible rfl
              rotate_left
              ·simp only [Act.put, List.setIfInBounds_toArray, List.set_cons_zero, List.set_cons_succ, i64_w, i32_w]
               rfl
              refine pure_ (i := 8) (N := some 60) (v := ?_) (a' := ?_) #[true, false, true, false, true, false, false, false, true, false, false] rfl rfl (any_of HT_.out (by kernel_rfl)) (fun _ _ _ h => h) (Or.inl ⟨by rfl, ?_⟩) ?_ ?_
              rotate_left
              ·intro w'
               go_simp
               with_reducible rfl
              rotate_left
              ·simp only [Act.put, List.setIfInBounds_toArray, List.set_cons_zero, List.set_cons_succ, i64_w, i32_w]
               rfl
              refine take_ (i := 1) (N := some 53) (v := ?_) (a' := ?_) #[true, true, true, false, true, false, false, false, true, false, false] rfl rfl (take_ofW HT_.out HW_.out (by kernel_rfl)) (fun _ _ _ h => h) (Or.inl ⟨by rfl, ?_⟩) hHeld ?_ ?_
              rotate_left
              ·rintro w' ⟨s0, s1, s2, s3, s4, s5⟩
               go_simp
               with_reducible rfl
              rotate_left
              ·simp only [Act.put, List.setIfInBounds_toArray, List.set_cons_zero, List.set_cons_succ, i64_w, i32_w]
               rfl
              refine take_ (i := 3) (N := some 55) (v := ?_) (a' := ?_) #[true, true, true, true, true, false, false, false, true, false, false] rfl rfl (take_ofW HT_.out HW_.out (by kernel_rfl)) (fun _ _ _ h => h) (Or.inl ⟨by rfl, ?_⟩) hHeld ?_ ?_
              rotate_left
              ·rintro w' ⟨s0, s1, s2, s3, s4, s5⟩
               go_simp
               with_reducible rfl
              rotate_left
              ·simp only [Act.put, List.setIfInBounds_toArray, List.set_cons_zero, List.set_cons_succ, i64_w, i32_w]
               rfl
              refine pure_ (i := 5) (N := some 57) (v := ?_) (a' := ?_) #[true, true, true, true, true, true, false, false, true, false, false] rfl rfl (any_of HT_.out (by kernel_rfl)) (fun _ _ _ h => h) (Or.inl ⟨by rfl, ?_⟩) ?_ ?_
              rotate_left
              ·intro w'
               go_simp
               with_reducible rfl
              rotate_left
              ·simp only [Act.put, List.setIfInBounds_toArray, List.set_cons_zero, List.set_cons_succ, i64_w, i32_w]
               rfl
              refine pure_ (i := 6) (N := some 58) (v := ?_) (a' := ?_) #[true, true, true, true, true, true, true, false, true, false, false] rfl rfl (any_of HT_.out (by kernel_rfl)) (fun _ _ _ h => h) (Or.inl ⟨by rfl, ?_⟩) ?_ ?_
              rotate_left
              ·intro w'
               go_simp
               with_reducible rfl
              rotate_left
              ·simp only [Act.put, List.setIfInBounds_toArray, List.set_cons_zero, List.set_cons_succ, i64_w, i32_w]
               rfl
              refine take_ (i := 7) (N := some 59) (v := ?_) (a' := ?_) #[true, true, true, true, true, true, true, true, true, false, false] rfl rfl (take_ofW HT_.out HW_.out (by kernel_rfl)) (fun _ _ _ h => h) (Or.inl ⟨by rfl, ?_⟩) hHeld ?_ ?_
              rotate_left
              ·rintro w' ⟨s0, s1, s2, s3, s4, s5⟩
               go_simp
               with_reducible rfl
              rotate_left
              ·simp only [Act.put, List.setIfInBounds_toArray, List.set_cons_zero, List.set_cons_succ, i64_w, i32_w]
               rfl
              refine pure_ (i := 9) (N := some 61) (v := ?_) (a' := ?_) #[true, true, true, true, true, true, true, true, true, true, false] rfl rfl (any_of HT_.out (by kernel_rfl)) (fun _ _ _ h => h) (Or.inl ⟨by rfl, ?_⟩) ?_ ?_
              rotate_left
              ·intro w'
               go_simp
               with_reducible rfl
              rotate_left
              ·simp only [Act.put, List.setIfInBounds_toArray, List.set_cons_zero, List.set_cons_succ, i64_w, i32_w]
               rfl
              refine last_ (i := 10) (N := none) #[true, true, true, true, true, true, true, true, true, true, true] rfl rfl (one_of HT_.out (by kernel_rfl)) (by decide) (fun K hK => ?_)
              refine skip_ (w1 := ?_) (by rfl) rfl ?_ ?_
              rotate_left
              ·go_simp
               rfl
              refine hK.out _ _ ?_
              clear hK K
              refine done_ (done_of HT_.out (by kernel_rfl)) ?_
              try go_wp2
              go_roundg kj21
              case measure => have := HK1.out; have := HJ21.out; omega
              case rel => exact ⟨(wrap64 (x8_1 + 1)), (y399), (.slice (some ⟨go46, 0, none⟩) x394000_1.length co46), (by first | rfl | (simp; done) | (simp [*]; done)), H', ⟨by have := HK1.out; have := HJ21.out; omega⟩, ⟨by (with_reducible repeat (first | apply zd | apply ze | apply zf)); exact HQ51.out⟩, ⟨by (with_reducible repeat (first | refine za ?_ _ | refine zb ?_ | refine zc ?_ _)); refine zr ?_ (by have h_ := Kd.R_ne HO_394000.out BK378.out (by decide); intro e_; exact h_ (by rw [e_]; rfl)) _; (with_reducible repeat (first | refine za ?_ _ | refine zb ?_ | refine zc ?_ _)); exact BK378.out⟩, ⟨by (with_reducible repeat (first | refine za ?_ _ | refine zb ?_ | refine zc ?_ _)); refine zr ?_ (by have h_ := Kd.R_ne HO_394000.out BK379.out (by decide); intro e_; exact h_ (by rw [e_]; rfl)) _; (with_reducible repeat (first | refine za ?_ _ | refine zb ?_ | refine zc ?_ _)); exact BK379.out⟩, ⟨by (with_reducible repeat (first | refine za ?_ _ | refine zb ?_ | refine zc ?_ _)); refine zr ?_ (by have h_ := Kd.R_ne HO_394000.out BK393.out (by decide); intro e_; exact h_ (by rw [e_]; rfl)) _; (with_reducible repeat (first | refine za ?_ _ | refine zb ?_ | refine zc ?_ _)); exact BK393.out⟩, ⟨by repeat (first | (with_reducible first | exact HB.out | apply zg | apply zh | apply zi | refine zs ?_ GB46.out | refine zs ?_ GE378.out | refine zs ?_ GE379.out | refine zs ?_ GE393.out) | exact HB.out)⟩⟩
             ·rw [if_neg c45] at H
              exact absurd H (by simp)
            ·rw [if_neg c44] at H
             exact absurd H (by simp)
          ·rw [if_neg c31] at H
           exact absurd H (by simp)
         ·rw [if_neg c30] at H
          exact absurd H (by simp)
     ·rw [if_neg c21] at H
      have c21b0 : decide (x8_1 < (l0_1.length : Int)) = false := decide_eq_false c21
      clear c21
      simp only [Option.some.injEq, Prod.mk.injEq] at H
      obtain ⟨rfl, rfl⟩ := H
      have hnb52 := NB378_379.out
      have hnc52 := NB379_378.out
      have hnb53 := NB378_393.out
      have hnc53 := NB393_378.out
      have hcz54_0 : wr.cell? ⟨gb378, 0, none⟩ = some (.slice A0_0 l0_0.length c0_0) := (zq BK378.out 0).trans rfl
      have hcz54_1 : wr.cell? ⟨gb378, 1, none⟩ = some (.slice A0_1 l0_1.length c0_1) := (zq BK378.out 1).trans rfl
      have hfz54_0 := zv BK378.out 0
      have hfz54_1 := zv BK378.out 1
      have hnb55 := NB393_379.out
      have hnc55 := NB379_393.out
      have hcz56_0 : wr.cell? ⟨gb393, 0, none⟩ = some (u394000) := (zq BK393.out 0).trans rfl
      have hcz56_1 : wr.cell? ⟨gb393, 1, none⟩ = some (.slice none 0 0) := (zq BK393.out 1).trans rfl
      have hfz56_0 := zv BK393.out 0
      have hfz56_1 := zv BK393.out 1
      obtain ⟨Ao57, co57, eo57⟩ := Kd.R_slice HO_394000.out
      subst eo57
      have hcz58_0 : wr.cell? ⟨gb379, 0, none⟩ = some (.slice none 0 0) := (zq BK379.out 0).trans rfl
      have hcz58_1 : wr.cell? ⟨gb379, 1, none⟩ = some (.slice none 0 0) := (zq BK379.out 1).trans rfl
      have hfz58_0 := zv BK379.out 0
      have hfz58_1 := zv BK379.out 1
      go_wp2
      refine bodyPost_ret (results_cell_row rfl _ _ gb379 36 #[.slice Ao57 x394000_1.length co57, .slice none 0 0] (0, 0) _ rfl (by (with_reducible repeat (first | refine za ?_ _ | refine zb ?_ | refine zc ?_ _)); refine zp (cs := #[.slice Ao57 x394000_1.length co57, .slice none 0 0]) ?_ 1 _ rfl; (with_reducible repeat (first | refine za ?_ _ | refine zb ?_ | refine zc ?_ _)); refine zp (cs := #[.slice none 0 0, .slice none 0 0]) ?_ 0 _ rfl; (with_reducible repeat (first | refine za ?_ _ | refine zb ?_ | refine zc ?_ _)); exact BK379.out) Try.underlying36 rfl (by kernel_rfl)) rfl ?_
      exact ⟨_, _, by first | rfl | (simp [errW_none, errW_some] <;> rfl) | (simp [*, errW_none, errW_some] <;> rfl), by (with_reducible repeat (first | apply zd | apply ze | apply zf)); exact zm (zn (p := ⟨gb379, 1, none⟩) (zn (p := ⟨gb379, 0, none⟩) (zu HO_394000.out BK379.out (by decide)) (fun _ hk => hk.2) (.slice Ao57 x394000_1.length co57)) (fun _ hk => hk.2) (.slice none 0 0)) (fun _ hk => trivial), by first | exact Kd.R_nil _ _ _ _ _ | exact Kd.N_nil _ _ _ _ _ | exact Kd.V_nil _ _ _ _ _ | exact Kd.Q_nil _ _ _ _ _ | exact Kd.S_nil _ _ _ _ _, by repeat (first | (with_reducible first | exact HB.out | apply zg | apply zh | apply zi | refine zs ?_ GE378.out | refine zs ?_ GE379.out | refine zs ?_ GE393.out) | exact HB.out)⟩
  ·rw [if_neg c6] at H
   exact absurd H (by simp)
 ·replace c5 := Bool.eq_false_iff.mpr c5
  subst c5
  have H1 : ((spec_l03Copy.f l0_0 l0_1).bind fun bt381 => (some (bt381.1, bt381.2))) = some (r1, r2) := by rw [if_neg (show ¬ (false = true) by decide)] at H; exact H
  clear H
  have H := H1
  clear H1
  replace H := Option.bind_eq_some_iff.mp H
  obtain ⟨⟨t381, t384⟩, A590, H⟩ := H
  replace H : (some (t381, t384)) = some (r1, r2) := H
  have A59 := zj A590
  clear A590
  simp only [Option.some.injEq, Prod.mk.injEq] at H
  obtain ⟨rfl, rfl⟩ := H
  go_enter Try.func50, Try.ntmps50
  go_wp2_with (first | ((with_reducible refine gate_dst (N := 3) rfl ?_); refine box_event ?hg (N := 3) ?hd (cs := #[.slice A0_0 l0_0.length c0_0, .slice A0_1 l0_1.length c0_1]) (t := 36) ?hr ?_; (case hd => rfl); (case hg => rfl); (case hr => first | (go_simp; done) | (go_simp; rfl)); intro gb378 hg w60 hbox hb; have n0_ := zj (zl (by repeat (first | (with_reducible first | exact HB.out | apply zg | apply zh | apply zi) | exact HB.out)) hb); have n1_ := zj (hbox); have n2_ := zj ((by rw [hg]; exact (zk (by repeat (first | (with_reducible first | exact HB.out | apply zg | apply zh | apply zi) | exact HB.out))) : w.heap.size ≤ gb378)); have n3_ := zj ((by rw [hg]; exact (zk (by repeat (first | (with_reducible first | exact HB.out | apply zg | apply zh | apply zi) | exact HB.out))) : w.heap.size ≤ gb378)); clear HB; have HB := n0_; have BK378 := n1_; have GW378 := n2_; have GE378 := n3_; clear n0_ n1_ n2_ n3_; clear hb hbox hg) | ((with_reducible refine gate_dst (N := 6) rfl ?_); refine box_event ?hg (N := 6) ?hd (cs := #[.slice none 0 0, .slice none 0 0]) (t := 36) ?hr ?_; (case hd => rfl); (case hg => rfl); (case hr => first | (go_simp; done) | (go_simp; rfl)); intro gb379 hg w61 hbox hb; have n0_ := zj (zo (g := gb378) (o := .cells #[.slice A0_0 l0_0.length c0_0, .slice A0_1 l0_1.length c0_1] 36 (0, 0)) (by (with_reducible repeat (first | refine za ?_ _ | refine zb ?_ | refine zc ?_ _)); exact BK378.out) hb); have n1_ := zj (zl (by repeat (first | (with_reducible first | exact HB.out | apply zg | apply zh | apply zi | refine zs ?_ GE378.out) | exact HB.out)) hb); have n2_ := zj (hbox); have n3_ := zj ((by rw [hg]; exact (zk (by repeat (first | (with_reducible first | exact HB.out | apply zg | apply zh | apply zi | refine zs ?_ GE378.out) | exact HB.out))) : w.heap.size ≤ gb379)); have n4_ := zj ((by rw [hg]; exact (zk (by repeat (first | (with_reducible first | exact HB.out | apply zg | apply zh | apply zi | refine zs ?_ GE378.out) | exact HB.out))) : w.heap.size ≤ gb379)); have n5_ := zj ((by rw [hg]; exact Nat.ne_of_lt (blk_lt (g := gb378) (o := .cells #[.slice A0_0 l0_0.length c0_0, .slice A0_1 l0_1.length c0_1] 36 (0, 0)) (by (with_reducible repeat (first | refine za ?_ _ | refine zb ?_ | refine zc ?_ _)); exact BK378.out)) : gb378 ≠ gb379)); have n6_ := zj ((by rw [hg]; exact Nat.ne_of_gt (blk_lt (g := gb378) (o := .cells #[.slice A0_0 l0_0.length c0_0, .slice A0_1 l0_1.length c0_1] 36 (0, 0)) (by (with_reducible repeat (first | refine za ?_ _ | refine zb ?_ | refine zc ?_ _)); exact BK378.out)) : gb379 ≠ gb378)); clear BK378; clear HB; have BK378 := n0_; have HB := n1_; have BK379 := n2_; have GW379 := n3_; have GE379 := n4_; have NB378_379 := n5_; have NB379_378 := n6_; clear n0_ n1_ n2_ n3_ n4_ n5_ n6_; clear hb hbox hg; have hnb62 := NB378_379.out; have hnc62 := NB379_378.out; have hcz63_0 : w61.cell? ⟨gb378, 0, none⟩ = some (.slice A0_0 l0_0.length c0_0) := (zq BK378.out 0).trans rfl; have hcz63_1 : w61.cell? ⟨gb378, 1, none⟩ = some (.slice A0_1 l0_1.length c0_1) := (zq BK378.out 1).trans rfl; have hfz63_0 := zv BK378.out 0; have hfz63_1 := zv BK378.out 1) | ((with_reducible refine gate_callee (f := 46) rfl ?_); refine goesL_ (some 11) rfl rfl Try.func46 (by kernel_rfl) rfl #[.agg #[.slice A0_0 l0_0.length c0_0, .slice A0_1 l0_1.length c0_1]] rfl (by (try simp only [List.map_toArray, List.map_cons, List.map_nil]); first | done | rfl | (simp only [List.length_drop, List.length_take]; rfl)) ?_; (with_reducible refine (spec_DiskOk.calls k _ _ l0_0 _ _ l0_1 false _ ?side1 ?side2 ?side3 ?side4 A4.out).mono ?_); (case side1 => repeat (first | exact (Kd.C_below HR0_0.out HB.out) | (with_reducible refine Kd.C_alloc ?_ _) | (with_reducible refine Kd.C_drewN ?_ _) | (with_reducible refine Kd.C_drew ?_))); (case side2 => exact HC0_0.out); (case side3 => repeat (first | exact (Kd.C_below HR0_1.out HB.out) | (with_reducible refine Kd.C_alloc ?_ _) | (with_reducible refine Kd.C_drewN ?_ _) | (with_reducible refine Kd.C_drew ?_))); (case side4 => exact HC0_1.out); rintro e w64 ⟨rfl, hb⟩; refine ⟨_, rfl, ?_⟩; have n0_ := zj (zo (g := gb378) (o := .cells #[.slice A0_0 l0_0.length c0_0, .slice A0_1 l0_1.length c0_1] 36 (0, 0)) (by (with_reducible repeat (first | refine za ?_ _ | refine zb ?_ | refine zc ?_ _)); exact BK378.out) hb); have n1_ := zj (zo (g := gb379) (o := .cells #[.slice none 0 0, .slice none 0 0] 36 (0, 0)) (by (with_reducible repeat (first | refine za ?_ _ | refine zb ?_ | refine zc ?_ _)); exact BK379.out) hb); have n2_ := zj (zl (by repeat (first | (with_reducible first | exact HB.out | apply zg | apply zh | apply zi | refine zs ?_ GE378.out | refine zs ?_ GE379.out) | exact HB.out)) hb); clear BK378; clear BK379; clear HB; have BK378 := n0_; have BK379 := n1_; have HB := n2_; clear n0_ n1_ n2_; (try clear hb); (try clear hb2); (try clear hk); (try clear hi); have hcz65_0 : w64.cell? ⟨gb378, 0, none⟩ = some (.slice A0_0 l0_0.length c0_0) := (zq BK378.out 0).trans rfl; have hcz65_1 : w64.cell? ⟨gb378, 1, none⟩ = some (.slice A0_1 l0_1.length c0_1) := (zq BK378.out 1).trans rfl; have hfz65_0 := zv BK378.out 0; have hfz65_1 := zv BK378.out 1) | ((with_reducible refine gate_callee (f := 102) rfl ?_); refine goesL_ (some 14) rfl rfl Try.func102 (by kernel_rfl) rfl #[.agg #[.slice A0_0 l0_0.length c0_0, .slice A0_1 l0_1.length c0_1]] rfl (by (try simp only [List.map_toArray, List.map_cons, List.map_nil]); first | done | rfl | (simp only [List.length_drop, List.length_take]; rfl)) ?_; (with_reducible refine (spec_l03Copy.calls _ _ l0_0 _ _ l0_1 t381 t384 _ ?side1 ?side2 ?side3 ?side4 A59.out).mono ?_); (case side1 => repeat (first | exact (Kd.C_below HR0_0.out HB.out) | (with_reducible refine Kd.C_alloc ?_ _) | (with_reducible refine Kd.C_drewN ?_ _) | (with_reducible refine Kd.C_drew ?_))); (case side2 => exact HC0_0.out); (case side3 => repeat (first | exact (Kd.C_below HR0_1.out HB.out) | (with_reducible refine Kd.C_alloc ?_ _) | (with_reducible refine Kd.C_drewN ?_ _) | (with_reducible refine Kd.C_drew ?_))); (case side4 => exact HC0_1.out); rintro e w66 ⟨v382, v385, rfl, ho0, ho1, hb⟩; refine ⟨_, rfl, ?_⟩; have n0_ := zj (Kd.R_lower ho0 (zk (by repeat (first | (with_reducible first | exact HB.out | apply zg | apply zh | apply zi | refine zs ?_ GE378.out | refine zs ?_ GE379.out) | exact HB.out)))); have n1_ := zj (Kd.R_lower ho1 (zk (by repeat (first | (with_reducible first | exact HB.out | apply zg | apply zh | apply zi | refine zs ?_ GE378.out | refine zs ?_ GE379.out) | exact HB.out)))); have n2_ := zj (zo (g := gb378) (o := .cells #[.slice A0_0 l0_0.length c0_0, .slice A0_1 l0_1.length c0_1] 36 (0, 0)) (by (with_reducible repeat (first | refine za ?_ _ | refine zb ?_ | refine zc ?_ _)); exact BK378.out) hb); have n3_ := zj (zo (g := gb379) (o := .cells #[.slice none 0 0, .slice none 0 0] 36 (0, 0)) (by (with_reducible repeat (first | refine za ?_ _ | refine zb ?_ | refine zc ?_ _)); exact BK379.out) hb); have n4_ := zj (zl (by repeat (first | (with_reducible first | exact HB.out | apply zg | apply zh | apply zi | refine zs ?_ GE378.out | refine zs ?_ GE379.out) | exact HB.out)) hb); clear BK378; clear BK379; clear HB; have HO383 := n0_; have HO386 := n1_; have BK378 := n2_; have BK379 := n3_; have HB := n4_; clear n0_ n1_ n2_ n3_ n4_; (try clear hb); (try clear hb2); (try clear hk); (try clear hi); (try clear ho0); (try clear ho1); obtain ⟨Ao67, co67, eo67⟩ := Kd.R_slice HO383.out; subst eo67; have hcz68_0 : w66.cell? ⟨gb379, 0, none⟩ = some (.slice none 0 0) := (zq BK379.out 0).trans rfl; have hcz68_1 : w66.cell? ⟨gb379, 1, none⟩ = some (.slice none 0 0) := (zq BK379.out 1).trans rfl; have hfz68_0 := zv BK379.out 0; have hfz68_1 := zv BK379.out 1; obtain ⟨Ao69, co69, eo69⟩ := Kd.R_slice HO386.out; subst eo69))
  refine bodyPost_ret (results_cell_row rfl _ _ gb379 36 #[.slice Ao67 t381.length co67, .slice Ao69 t384.length co69] (0, 0) _ rfl (by (with_reducible repeat (first | refine za ?_ _ | refine zb ?_ | refine zc ?_ _)); refine zp (cs := #[.slice Ao67 t381.length co67, .slice none 0 0]) ?_ 1 _ rfl; (with_reducible repeat (first | refine za ?_ _ | refine zb ?_ | refine zc ?_ _)); refine zp (cs := #[.slice none 0 0, .slice none 0 0]) ?_ 0 _ rfl; (with_reducible repeat (first | refine za ?_ _ | refine zb ?_ | refine zc ?_ _)); exact BK379.out) Try.underlying36 rfl (by kernel_rfl)) rfl ?_
  exact ⟨_, _, by first | rfl | (simp [errW_none, errW_some] <;> rfl) | (simp [*, errW_none, errW_some] <;> rfl), by (with_reducible repeat (first | apply zd | apply ze | apply zf)); exact zm (zn (p := ⟨gb379, 1, none⟩) (zn (p := ⟨gb379, 0, none⟩) (zu HO383.out BK379.out (by decide)) (fun _ hk => hk.2) (.slice Ao67 t381.length co67)) (fun _ hk => hk.2) (.slice Ao69 t384.length co69)) (fun _ hk => trivial), by (with_reducible repeat (first | apply zd | apply ze | apply zf)); exact zm (zn (p := ⟨gb379, 1, none⟩) (zn (p := ⟨gb379, 0, none⟩) (zu HO386.out BK379.out (by decide)) (fun _ hk => hk.2) (.slice Ao67 t381.length co67)) (fun _ hk => hk.2) (.slice Ao69 t384.length co69)) (fun _ hk => trivial), by repeat (first | (with_reducible first | exact HB.out | apply zg | apply zh | apply zi | refine zs ?_ GE378.out | refine zs ?_ GE379.out) | exact HB.out)⟩

end Go.Proofs.Ytbjlpmhhcigkdaa.VFnFalls
