-- Written by a program of this repo (wip/myprint.py), over the kit's print; functions that the print does not take stand in it by hand-proved contracts.
import Derived.Test.YteokilffbcbllaaVFnExactBestMetax0
import Derived.Test.YteokilffbcbllaaVFnExactBestMetax10
import Derived.Test.YteokilffbcbllaaVFnExactBestMetax12
namespace Go.Proofs.Yteokilffbcbllaa.VFnExactBestMeta
open Go.RowKit Go.Proofs.YteokilffbcbllaaW.PrintWords Go.Proofs.YteokilffbcbllaaW.PrintLast Go.Proofs.YteokilffbcbllaaW.PrintMore
attribute [local go_sem] max2_int min2_int max_two min_two max_three min_three max_four min_four   -- for this text's walks alone
attribute [local go_sem high] str_leq str_gtr str_geq str_lss
set_option linter.unusedVariables false
set_option linter.unusedSimpArgs false

/-! ### impl_MetaOk: function 61 -/
mutual
def impl_MetaOk.j0 : Nat → Bool → Int → Int → Int → List (S60) → Option (Bool)
 | 0, _, _, _, _, _ => none
 | k + 1, x37, x262000, x262001, x262002, x262003 => if x37 = true then (some false) else (impl_MetaOk.l0 k (([x262001] : List Int)) x262003 (x262003.length : Int) 0 x262000 x262001 x262002 x262003)
def impl_MetaOk.l0 : Nat → List Int → List (S60) → Int → Int → Int → Int → Int → List (S60) → Option (Bool)
 | 0, _, _, _, _, _, _, _, _ => none
 | k + 1, x3, x42, x43, x44, x262000, x262001, x262002, x262003 => if x44 < x43 then (if 0 ≤ x44 then (if x44 < (x42.length : Int) then ((impl_freeOk.f k ((rd_T60 x42 x44).f0) ((rd_T60 x42 x44).f1) x262000 x262001 x262002 x262003).bind fun t270 => (if t270 = true then (if x44 > 0 then (if 0 ≤ (wrap64 (x44 - 1)) then (if (wrap64 (x44 - 1)) < (x262003.length : Int) then (impl_MetaOk.j2 k x3 x42 x43 x44 (decide (((rd_T60 x262003 (wrap64 (x44 - 1))).f0) ≥ ((rd_T60 x42 x44).f0))) x262000 x262001 x262002 x262003 ((rd_T60 x42 x44).f0) ((rd_T60 x42 x44).f1)) else (none)) else (none)) else (impl_MetaOk.j2 k x3 x42 x43 x44 false x262000 x262001 x262002 x262003 ((rd_T60 x42 x44).f0) ((rd_T60 x42 x44).f1))) else (impl_MetaOk.j2 k x3 x42 x43 x44 true x262000 x262001 x262002 x262003 ((rd_T60 x42 x44).f0) ((rd_T60 x42 x44).f1)))) else (none)) else (none)) else (some true)
def impl_MetaOk.j2 : Nat → List Int → List (S60) → Int → Int → Bool → Int → Int → Int → List (S60) → Int → List Int → Option (Bool)
 | 0, _, _, _, _, _, _, _, _, _, _, _ => none
 | k + 1, x3, x42, x43, x44, x68, x262000, x262001, x262002, x262003, x270000, x270001 => if x68 = true then (some false) else (impl_MetaOk.l1 k x3 x42 x43 x44 x270001 (x270001.length : Int) 0 x262000 x262001 x262002 x262003)
def impl_MetaOk.l1 : Nat → List Int → List (S60) → Int → Int → List Int → Int → Int → Int → Int → Int → List (S60) → Option (Bool)
 | 0, _, _, _, _, _, _, _, _, _, _, _ => none
 | k + 1, x3, x42, x43, x44, x70, x71, x72, x262000, x262001, x262002, x262003 => if x72 < x71 then (if 0 ≤ x72 then (if x72 < (x70.length : Int) then ((slices_Contains_int_int.f k x3 (rd x70 x72)).bind fun t273 => (if t273 = true then (some false) else (if x3.length < 17592186044416 then (impl_MetaOk.l1 k (x3 ++ [rd x70 x72]) x42 x43 x44 x70 x71 (wrap64 (x72 + 1)) x262000 x262001 x262002 x262003) else (none)))) else (none)) else (none)) else (impl_MetaOk.l0 k x3 x42 x43 (wrap64 (x44 + 1)) x262000 x262001 x262002 x262003)
end
def impl_MetaOk.f (k : Nat) (a0_0 : Int) (a0_1 : Int) (a0_2 : Int) (l0_3 : List (S60)) : Option (Bool) := (impl_in.f a0_0 0 100000).bind fun t262 => (if t262 = true then ((impl_in.f a0_2 2 40).bind fun t263 => (if t263 = true then (if a0_1 = 0 then (impl_MetaOk.j0 k (decide ((l0_3.length : Int) > 20)) a0_0 a0_1 a0_2 l0_3) else ((impl_in.f a0_1 2 (wrap64 (a0_2 - 1))).bind fun t264 => (if t264 = true then (impl_MetaOk.j0 k (decide ((l0_3.length : Int) > 20)) a0_0 a0_1 a0_2 l0_3) else (impl_MetaOk.j0 k true a0_0 a0_1 a0_2 l0_3)))) else (impl_MetaOk.j0 k true a0_0 a0_1 a0_2 l0_3))) else (impl_MetaOk.j0 k true a0_0 a0_1 a0_2 l0_3))
theorem impl_MetaOk.mono_l : ∀ k, (∀ y0 y1 y2 y3 y4, LeO (impl_MetaOk.j0 k y0 y1 y2 y3 y4) (impl_MetaOk.j0 (k + 1) y0 y1 y2 y3 y4)) ∧ (∀ y0 y1 y2 y3 y4 y5 y6 y7, LeO (impl_MetaOk.l0 k y0 y1 y2 y3 y4 y5 y6 y7) (impl_MetaOk.l0 (k + 1) y0 y1 y2 y3 y4 y5 y6 y7)) ∧ (∀ y0 y1 y2 y3 y4 y5 y6 y7 y8 y9 y10, LeO (impl_MetaOk.j2 k y0 y1 y2 y3 y4 y5 y6 y7 y8 y9 y10) (impl_MetaOk.j2 (k + 1) y0 y1 y2 y3 y4 y5 y6 y7 y8 y9 y10)) ∧ (∀ y0 y1 y2 y3 y4 y5 y6 y7 y8 y9 y10, LeO (impl_MetaOk.l1 k y0 y1 y2 y3 y4 y5 y6 y7 y8 y9 y10) (impl_MetaOk.l1 (k + 1) y0 y1 y2 y3 y4 y5 y6 y7 y8 y9 y10))
 | 0 => ⟨fun _ _ _ _ _ r h => by simp [impl_MetaOk.j0] at h, fun _ _ _ _ _ _ _ _ r h => by simp [impl_MetaOk.l0] at h, fun _ _ _ _ _ _ _ _ _ _ _ r h => by simp [impl_MetaOk.j2] at h, fun _ _ _ _ _ _ _ _ _ _ _ r h => by simp [impl_MetaOk.l1] at h⟩
 | k + 1 => by
  obtain ⟨ih0, ih1, ih2, ih3⟩ := impl_MetaOk.mono_l k
  refine ⟨?_, ?_, ?_, ?_⟩
  ·intro y0 y1 y2 y3 y4
   unfold impl_MetaOk.j0
   repeat' first
   | (with_reducible exact ih0 _ _ _ _ _)
   | (with_reducible exact ih1 _ _ _ _ _ _ _ _)
   | (with_reducible exact ih2 _ _ _ _ _ _ _ _ _ _ _)
   | (with_reducible exact ih3 _ _ _ _ _ _ _ _ _ _ _)
   | (with_reducible exact impl_freeOk.mono _ _ _ _ _ _ _)
   | (with_reducible exact slices_Contains_int_int.mono _ _ _)
   | (with_reducible exact LeO.refl _)
   | (with_reducible exact LeO.none _)
   | (with_reducible refine LeO.ite ?_ ?_)
   | (with_reducible refine LeO.bind ?_ (fun _ => ?_))
   | exact ih0 _ _ _ _ _
   | exact ih1 _ _ _ _ _ _ _ _
   | exact ih2 _ _ _ _ _ _ _ _ _ _ _
   | exact ih3 _ _ _ _ _ _ _ _ _ _ _
   | exact impl_freeOk.mono _ _ _ _ _ _ _
   | exact slices_Contains_int_int.mono _ _ _
   | exact LeO.none _
   | refine LeO.ite ?_ ?_
   | refine LeO.bind ?_ (fun _ => ?_)
  ·intro y0 y1 y2 y3 y4 y5 y6 y7
   unfold impl_MetaOk.l0
   repeat' first
   | (with_reducible exact ih0 _ _ _ _ _)
   | (with_reducible exact ih1 _ _ _ _ _ _ _ _)
   | (with_reducible exact ih2 _ _ _ _ _ _ _ _ _ _ _)
   | (with_reducible exact ih3 _ _ _ _ _ _ _ _ _ _ _)
   | (with_reducible exact impl_freeOk.mono _ _ _ _ _ _ _)
   | (with_reducible exact slices_Contains_int_int.mono _ _ _)
   | (with_reducible exact LeO.refl _)
   | (with_reducible exact LeO.none _)
   | (with_reducible refine LeO.ite ?_ ?_)
   | (with_reducible refine LeO.bind ?_ (fun _ => ?_))
   | exact ih0 _ _ _ _ _
   | exact ih1 _ _ _ _ _ _ _ _
   | exact ih2 _ _ _ _ _ _ _ _ _ _ _
   | exact ih3 _ _ _ _ _ _ _ _ _ _ _
   | exact impl_freeOk.mono _ _ _ _ _ _ _
   | exact slices_Contains_int_int.mono _ _ _
   | exact LeO.none _
   | refine LeO.ite ?_ ?_
   | refine LeO.bind ?_ (fun _ => ?_)
  ·intro y0 y1 y2 y3 y4 y5 y6 y7 y8 y9 y10
   unfold impl_MetaOk.j2
   repeat' first
   | (with_reducible exact ih0 _ _ _ _ _)
   | (with_reducible exact ih1 _ _ _ _ _ _ _ _)
   | (with_reducible exact ih2 _ _ _ _ _ _ _ _ _ _ _)
   | (with_reducible exact ih3 _ _ _ _ _ _ _ _ _ _ _)
   | (with_reducible exact impl_freeOk.mono _ _ _ _ _ _ _)
   | (with_reducible exact slices_Contains_int_int.mono _ _ _)
   | (with_reducible exact LeO.refl _)
   | (with_reducible exact LeO.none _)
   | (with_reducible refine LeO.ite ?_ ?_)
   | (with_reducible refine LeO.bind ?_ (fun _ => ?_))
   | exact ih0 _ _ _ _ _
   | exact ih1 _ _ _ _ _ _ _ _
   | exact ih2 _ _ _ _ _ _ _ _ _ _ _
   | exact ih3 _ _ _ _ _ _ _ _ _ _ _
   | exact impl_freeOk.mono _ _ _ _ _ _ _
   | exact slices_Contains_int_int.mono _ _ _
   | exact LeO.none _
   | refine LeO.ite ?_ ?_
   | refine LeO.bind ?_ (fun _ => ?_)
  ·intro y0 y1 y2 y3 y4 y5 y6 y7 y8 y9 y10
   unfold impl_MetaOk.l1
   repeat' first
   | (with_reducible exact ih0 _ _ _ _ _)
   | (with_reducible exact ih1 _ _ _ _ _ _ _ _)
   | (with_reducible exact ih2 _ _ _ _ _ _ _ _ _ _ _)
   | (with_reducible exact ih3 _ _ _ _ _ _ _ _ _ _ _)
   | (with_reducible exact impl_freeOk.mono _ _ _ _ _ _ _)
   | (with_reducible exact slices_Contains_int_int.mono _ _ _)
   | (with_reducible exact LeO.refl _)
   | (with_reducible exact LeO.none _)
   | (with_reducible refine LeO.ite ?_ ?_)
   | (with_reducible refine LeO.bind ?_ (fun _ => ?_))
   | exact ih0 _ _ _ _ _
   | exact ih1 _ _ _ _ _ _ _ _
   | exact ih2 _ _ _ _ _ _ _ _ _ _ _
   | exact ih3 _ _ _ _ _ _ _ _ _ _ _
   | exact impl_freeOk.mono _ _ _ _ _ _ _
   | exact slices_Contains_int_int.mono _ _ _
   | exact LeO.none _
   | refine LeO.ite ?_ ?_
   | refine LeO.bind ?_ (fun _ => ?_)
theorem impl_MetaOk.mono : ∀ a0 a1 a2 a3 k, LeO (impl_MetaOk.f k a0 a1 a2 a3) (impl_MetaOk.f (k + 1) a0 a1 a2 a3) := by
 intro a0 a1 a2 a3 k
 obtain ⟨ih0, ih1, ih2, ih3⟩ := impl_MetaOk.mono_l k
 unfold impl_MetaOk.f
 repeat' first
   | (with_reducible exact ih0 _ _ _ _ _)
   | (with_reducible exact ih1 _ _ _ _ _ _ _ _)
   | (with_reducible exact ih2 _ _ _ _ _ _ _ _ _ _ _)
   | (with_reducible exact ih3 _ _ _ _ _ _ _ _ _ _ _)
   | (with_reducible exact impl_freeOk.mono _ _ _ _ _ _ _)
   | (with_reducible exact slices_Contains_int_int.mono _ _ _)
   | (with_reducible exact LeO.refl _)
   | (with_reducible exact LeO.none _)
   | (with_reducible refine LeO.ite ?_ ?_)
   | (with_reducible refine LeO.bind ?_ (fun _ => ?_))
   | exact ih0 _ _ _ _ _
   | exact ih1 _ _ _ _ _ _ _ _
   | exact ih2 _ _ _ _ _ _ _ _ _ _ _
   | exact ih3 _ _ _ _ _ _ _ _ _ _ _
   | exact impl_freeOk.mono _ _ _ _ _ _ _
   | exact slices_Contains_int_int.mono _ _ _
   | exact LeO.none _
   | refine LeO.ite ?_ ?_
   | refine LeO.bind ?_ (fun _ => ?_)
def impl_MetaOk.T7 : Bool × List (List Nat × List Nat) := (true, [([], []), ([], []), ([0, 1], [0, 1]), ([2], [2]), ([3, 2], [3]), ([4], [4]), ([5, 4], [4, 5]), ([6, 4, 4], [4, 6]), ([7], [7]), ([8, 7], [7, 8]), ([7], [7]), ([10, 7], [7, 10]), ([9, 11, 7], [7, 9, 11]), ([12, 7], [7, 12]), ([13, 7], [7, 13]), ([7], [7]), ([15, 7], [7, 15]), ([14, 16, 7], [7, 14, 16]), ([7, 17, 4], [4, 7, 17]), ([4, 18], [4, 18])])
def impl_MetaOk.B7 : List Nat := [0, 0, 3, 7, 15, 31, 63, 127, 255, 511, 255, 1279, 4095, 8191, 16383, 255, 33023, 131071, 262143, 524287]
theorem impl_MetaOk.tab7 : rtab .any (opsOf Try.f61 7) = impl_MetaOk.T7 := by kernel_rfl
theorem impl_MetaOk.bits7 : waitsOk impl_MetaOk.T7.2 impl_MetaOk.B7 = true := by kernel_rfl
set_option maxHeartbeats 8000000 in
set_option maxRecDepth 100000 in
theorem impl_MetaOk.calls (k : Nat) (a0_0 : Int) (a0_1 : Int) (a0_2 : Int) (A0_3 : Option Addr) (c0_3 : Nat) (l0_3 : List (S60)) (r : Bool) (w : World) (hr0_3 : Kd.C k60 w A0_3 l0_3.length l0_3) (hc0_3 : l0_3.length ≤ c0_3) (h : impl_MetaOk.f k a0_0 a0_1 a0_2 l0_3 = some r) :
  Calls Try.prog 61 #[.agg #[.int .i64 a0_0, .int .i64 a0_1, .int .i64 a0_2, .slice A0_3 l0_3.length c0_3]] w fun e w' => e = .returned (.bool r) ∧ Below w.heap.size w w' := by
 have hu24 := Try.underlying24
 have hu60 := Try.underlying60
 have HR0_3 := qo hr0_3
 have HC0_3 := qo hc0_3
 clear hr0_3 hc0_3
 have HB := qo (Below.refl w.heap.size w)
 have H : ((impl_in.f a0_0 0 100000).bind fun t262 => (if t262 = true then ((impl_in.f a0_2 2 40).bind fun t263 => (if t263 = true then (if a0_1 = 0 then (impl_MetaOk.j0 k (decide ((l0_3.length : Int) > 20)) a0_0 a0_1 a0_2 l0_3) else ((impl_in.f a0_1 2 (wrap64 (a0_2 - 1))).bind fun t264 => (if t264 = true then (impl_MetaOk.j0 k (decide ((l0_3.length : Int) > 20)) a0_0 a0_1 a0_2 l0_3) else (impl_MetaOk.j0 k true a0_0 a0_1 a0_2 l0_3)))) else (impl_MetaOk.j0 k true a0_0 a0_1 a0_2 l0_3))) else (impl_MetaOk.j0 k true a0_0 a0_1 a0_2 l0_3))) = some r := h
 clear h
 have HC2 := qo H
 clear H
 go_enter Try.func61, Try.ntmps61
 go_upto_region 1 with (first | ((with_reducible refine gate_dst (N := 1) rfl ?_); (try (refine gate_guard zae ?_; dsimp only)); refine box_event ?hg (N := 1) ?hd (cs := #[.int .i64 a0_0, .int .i64 a0_1, .int .i64 a0_2, .slice A0_3 l0_3.length c0_3]) (t := 24) ?hr ?_; (case hd => rfl); (case hg => rfl); (case hr => first | (go_simp; done) | (go_simp; rfl)); intro gb261 hg w3 hbox hb; have n0_ := qo (qq za hb); have n1_ := qo (hbox); have n2_ := qo ((zcn : w.heap.size ≤ gb261)); have n3_ := qo ((zcn : w.heap.size ≤ gb261)); clear HB; have HB := n0_; have BK261 := n1_; have GW261 := n2_; have GE261 := n3_; clear n0_ n1_ n2_ n3_; clear hb hbox hg))
 (try simp only [Act.put, qa, qb, qc])
 go_cut [37] (fun v37 wc => ∃ (kq : Nat) (x37_1 : Bool), v37 = .bool x37_1 ∧ Aside0 (impl_MetaOk.j0 kq x37_1 a0_0 a0_1 a0_2 l0_3 = some r) ∧ Aside0 (kq ≤ k) ∧ Aside0 (wc.heap[gb261]? = some (.cells #[.int .i64 a0_0, .int .i64 a0_1, .int .i64 a0_2, (.slice A0_3 l0_3.length c0_3)] 24 (0, 0))) ∧ Aside0 (Below w.heap.size w wc))
 case first =>
  have H := HC2.out
  clear HC2
  replace H := Option.bind_eq_some_iff.mp H
  obtain ⟨t262, A40, H⟩ := H
  replace H : (if t262 = true then ((impl_in.f a0_2 2 40).bind fun t263 => (if t263 = true then (if a0_1 = 0 then (impl_MetaOk.j0 k (decide ((l0_3.length : Int) > 20)) a0_0 a0_1 a0_2 l0_3) else ((impl_in.f a0_1 2 (wrap64 (a0_2 - 1))).bind fun t264 => (if t264 = true then (impl_MetaOk.j0 k (decide ((l0_3.length : Int) > 20)) a0_0 a0_1 a0_2 l0_3) else (impl_MetaOk.j0 k true a0_0 a0_1 a0_2 l0_3)))) else (impl_MetaOk.j0 k true a0_0 a0_1 a0_2 l0_3))) else (impl_MetaOk.j0 k true a0_0 a0_1 a0_2 l0_3)) = some r := H
  have A4 := qo A40
  clear A40
  by_cases c5 : t262 = true
  ·subst c5
   have H1 : ((impl_in.f a0_2 2 40).bind fun t263 => (if t263 = true then (if a0_1 = 0 then (impl_MetaOk.j0 k (decide ((l0_3.length : Int) > 20)) a0_0 a0_1 a0_2 l0_3) else ((impl_in.f a0_1 2 (wrap64 (a0_2 - 1))).bind fun t264 => (if t264 = true then (impl_MetaOk.j0 k (decide ((l0_3.length : Int) > 20)) a0_0 a0_1 a0_2 l0_3) else (impl_MetaOk.j0 k true a0_0 a0_1 a0_2 l0_3)))) else (impl_MetaOk.j0 k true a0_0 a0_1 a0_2 l0_3))) = some r := by rw [if_pos rfl] at H; exact H
   clear H
   have H := H1
   clear H1
   replace H := Option.bind_eq_some_iff.mp H
   obtain ⟨t263, A60, H⟩ := H
   replace H : (if t263 = true then (if a0_1 = 0 then (impl_MetaOk.j0 k (decide ((l0_3.length : Int) > 20)) a0_0 a0_1 a0_2 l0_3) else ((impl_in.f a0_1 2 (wrap64 (a0_2 - 1))).bind fun t264 => (if t264 = true then (impl_MetaOk.j0 k (decide ((l0_3.length : Int) > 20)) a0_0 a0_1 a0_2 l0_3) else (impl_MetaOk.j0 k true a0_0 a0_1 a0_2 l0_3)))) else (impl_MetaOk.j0 k true a0_0 a0_1 a0_2 l0_3)) = some r := H
   have A6 := qo A60
   clear A60
   by_cases c7 : t263 = true
   ·subst c7
    have H1 : (if a0_1 = 0 then (impl_MetaOk.j0 k (decide ((l0_3.length : Int) > 20)) a0_0 a0_1 a0_2 l0_3) else ((impl_in.f a0_1 2 (wrap64 (a0_2 - 1))).bind fun t264 => (if t264 = true then (impl_MetaOk.j0 k (decide ((l0_3.length : Int) > 20)) a0_0 a0_1 a0_2 l0_3) else (impl_MetaOk.j0 k true a0_0 a0_1 a0_2 l0_3)))) = some r := by rw [if_pos rfl] at H; exact H
    clear H
    have H := H1
    clear H1
    by_cases c8 : a0_1 = 0
    ·rw [if_pos c8] at H
     have c8b0 : (a0_1 == 0) = true := beq_iff_eq.mpr c8
     have c8b1 : (a0_1 != 0) = false := bne_eq_false_iff_eq.mpr c8
     clear c8
     (first | rw [c8b0] | (simp only [i64_w, i32_w]; rw [c8b0]) | skip)
     have H' := qo H
     clear H
     have hcz9_0 : w3.cell? ⟨gb261, 0, none⟩ = some (.int .i64 a0_0) := (qs BK261.out 0).trans rfl
     have hcz9_1 : w3.cell? ⟨gb261, 1, none⟩ = some (.int .i64 a0_1) := (qs BK261.out 1).trans rfl
     have hcz9_2 : w3.cell? ⟨gb261, 2, none⟩ = some (.int .i64 a0_2) := (qs BK261.out 2).trans rfl
     have hcz9_3 : w3.cell? ⟨gb261, 3, none⟩ = some (.slice A0_3 l0_3.length c0_3) := (qs BK261.out 3).trans rfl
     have hfz9_0 := qu BK261.out 0
     have hfz9_1 := qu BK261.out 1
     have hfz9_2 := qu BK261.out 2
     have hfz9_3 := qu BK261.out 3
     go_wp2_with (first | ((with_reducible refine gate_callee (f := 58) rfl ?_); refine goesL_ (some 10) rfl rfl Try.func58 ze rfl #[.int .i64 a0_0, .int .i64 0, .int .i64 100000] rfl zcm ?_; (with_reducible refine (impl_in.calls a0_0 0 100000 true _ A4.out).mono ?_); rintro e w' ⟨rfl, ⟨nd, rfl⟩⟩; refine ⟨_, rfl, ?_⟩) | (go_at_call 58; (with_reducible refine (impl_in.calls a0_2 2 40 true _ A6.out).mono ?_); rintro e w' ⟨rfl, ⟨nd, rfl⟩⟩))
     go_meet
     case rel => exact ⟨_, (decide ((l0_3.length : Int) > 20)), zc, H', ⟨zcf⟩, ⟨zy⟩, ⟨z0⟩⟩
    ·rw [if_neg c8] at H
     have c8b0 : (a0_1 == 0) = false := beq_eq_false_iff_ne.mpr c8
     have c8b1 : (a0_1 != 0) = true := bne_iff_ne.mpr c8
     (first | rw [c8b0] | (simp only [i64_w, i32_w]; rw [c8b0]) | skip)
     replace H := Option.bind_eq_some_iff.mp H
     obtain ⟨t264, A100, H⟩ := H
     replace H : (if t264 = true then (impl_MetaOk.j0 k (decide ((l0_3.length : Int) > 20)) a0_0 a0_1 a0_2 l0_3) else (impl_MetaOk.j0 k true a0_0 a0_1 a0_2 l0_3)) = some r := H
     have A10 := qo A100
     clear A100
     by_cases c11 : t264 = true
     ·subst c11
      have H1 : (impl_MetaOk.j0 k (decide ((l0_3.length : Int) > 20)) a0_0 a0_1 a0_2 l0_3) = some r := by rw [if_pos rfl] at H; exact H
      clear H
      have H := H1
      clear H1
      have H' := qo H
      clear H
      have hcz12_0 : w3.cell? ⟨gb261, 0, none⟩ = some (.int .i64 a0_0) := (qs BK261.out 0).trans rfl
      have hcz12_1 : w3.cell? ⟨gb261, 1, none⟩ = some (.int .i64 a0_1) := (qs BK261.out 1).trans rfl
      have hcz12_2 : w3.cell? ⟨gb261, 2, none⟩ = some (.int .i64 a0_2) := (qs BK261.out 2).trans rfl
      have hcz12_3 : w3.cell? ⟨gb261, 3, none⟩ = some (.slice A0_3 l0_3.length c0_3) := (qs BK261.out 3).trans rfl
      have hfz12_0 := qu BK261.out 0
      have hfz12_1 := qu BK261.out 1
      have hfz12_2 := qu BK261.out 2
      have hfz12_3 := qu BK261.out 3
      go_wp2_with (first | ((with_reducible refine gate_callee (f := 58) rfl ?_); refine goesL_ (some 10) rfl rfl Try.func58 ze rfl #[.int .i64 a0_0, .int .i64 0, .int .i64 100000] rfl zcm ?_; (with_reducible refine (impl_in.calls a0_0 0 100000 true _ A4.out).mono ?_); rintro e w' ⟨rfl, ⟨nd, rfl⟩⟩; refine ⟨_, rfl, ?_⟩) | (go_at_call 58; (with_reducible refine (impl_in.calls a0_2 2 40 true _ A6.out).mono ?_); rintro e w' ⟨rfl, ⟨nd, rfl⟩⟩) | (go_at_call 58; (with_reducible refine (impl_in.calls a0_1 2 (wrap64 (a0_2 - 1)) true _ A10.out).mono ?_); rintro e w' ⟨rfl, ⟨nd, rfl⟩⟩))
      go_meet
      case rel => exact ⟨_, (decide ((l0_3.length : Int) > 20)), zc, H', ⟨zcf⟩, ⟨zy⟩, ⟨z0⟩⟩
     ·replace c11 := Bool.eq_false_iff.mpr c11
      subst c11
      have H1 : (impl_MetaOk.j0 k true a0_0 a0_1 a0_2 l0_3) = some r := by rw [if_neg (show ¬ (false = true) by decide)] at H; exact H
      clear H
      have H := H1
      clear H1
      have H' := qo H
      clear H
      have hcz13_0 : w3.cell? ⟨gb261, 0, none⟩ = some (.int .i64 a0_0) := (qs BK261.out 0).trans rfl
      have hcz13_1 : w3.cell? ⟨gb261, 1, none⟩ = some (.int .i64 a0_1) := (qs BK261.out 1).trans rfl
      have hcz13_2 : w3.cell? ⟨gb261, 2, none⟩ = some (.int .i64 a0_2) := (qs BK261.out 2).trans rfl
      have hcz13_3 : w3.cell? ⟨gb261, 3, none⟩ = some (.slice A0_3 l0_3.length c0_3) := (qs BK261.out 3).trans rfl
      have hfz13_0 := qu BK261.out 0
      have hfz13_1 := qu BK261.out 1
      have hfz13_2 := qu BK261.out 2
      have hfz13_3 := qu BK261.out 3
      go_wp2_with (first | ((with_reducible refine gate_callee (f := 58) rfl ?_); refine goesL_ (some 10) rfl rfl Try.func58 ze rfl #[.int .i64 a0_0, .int .i64 0, .int .i64 100000] rfl zcm ?_; (with_reducible refine (impl_in.calls a0_0 0 100000 true _ A4.out).mono ?_); rintro e w' ⟨rfl, ⟨nd, rfl⟩⟩; refine ⟨_, rfl, ?_⟩) | (go_at_call 58; (with_reducible refine (impl_in.calls a0_2 2 40 true _ A6.out).mono ?_); rintro e w' ⟨rfl, ⟨nd, rfl⟩⟩) | (go_at_call 58; (with_reducible refine (impl_in.calls a0_1 2 (wrap64 (a0_2 - 1)) false _ A10.out).mono ?_); rintro e w' ⟨rfl, ⟨nd, rfl⟩⟩))
      go_meet
      case rel => exact ⟨_, (true), zc, H', ⟨zcf⟩, ⟨zy⟩, ⟨z0⟩⟩
   ·replace c7 := Bool.eq_false_iff.mpr c7
    subst c7
    have H1 : (impl_MetaOk.j0 k true a0_0 a0_1 a0_2 l0_3) = some r := by rw [if_neg (show ¬ (false = true) by decide)] at H; exact H
    clear H
    have H := H1
    clear H1
    have H' := qo H
    clear H
    have hcz14_0 : w3.cell? ⟨gb261, 0, none⟩ = some (.int .i64 a0_0) := (qs BK261.out 0).trans rfl
    have hcz14_1 : w3.cell? ⟨gb261, 1, none⟩ = some (.int .i64 a0_1) := (qs BK261.out 1).trans rfl
    have hcz14_2 : w3.cell? ⟨gb261, 2, none⟩ = some (.int .i64 a0_2) := (qs BK261.out 2).trans rfl
    have hcz14_3 : w3.cell? ⟨gb261, 3, none⟩ = some (.slice A0_3 l0_3.length c0_3) := (qs BK261.out 3).trans rfl
    have hfz14_0 := qu BK261.out 0
    have hfz14_1 := qu BK261.out 1
    have hfz14_2 := qu BK261.out 2
    have hfz14_3 := qu BK261.out 3
    go_wp2_with (first | ((with_reducible refine gate_callee (f := 58) rfl ?_); refine goesL_ (some 10) rfl rfl Try.func58 ze rfl #[.int .i64 a0_0, .int .i64 0, .int .i64 100000] rfl zcm ?_; (with_reducible refine (impl_in.calls a0_0 0 100000 true _ A4.out).mono ?_); rintro e w' ⟨rfl, ⟨nd, rfl⟩⟩; refine ⟨_, rfl, ?_⟩) | (go_at_call 58; (with_reducible refine (impl_in.calls a0_2 2 40 false _ A6.out).mono ?_); rintro e w' ⟨rfl, ⟨nd, rfl⟩⟩))
    go_meet
    case rel => exact ⟨_, (true), zc, H', ⟨zcf⟩, ⟨zy⟩, ⟨z0⟩⟩
  ·replace c5 := Bool.eq_false_iff.mpr c5
   subst c5
   have H1 : (impl_MetaOk.j0 k true a0_0 a0_1 a0_2 l0_3) = some r := by rw [if_neg (show ¬ (false = true) by decide)] at H; exact H
   clear H
   have H := H1
   clear H1
   have H' := qo H
   clear H
   have hcz15_0 : w3.cell? ⟨gb261, 0, none⟩ = some (.int .i64 a0_0) := (qs BK261.out 0).trans rfl
   have hcz15_1 : w3.cell? ⟨gb261, 1, none⟩ = some (.int .i64 a0_1) := (qs BK261.out 1).trans rfl
   have hcz15_2 : w3.cell? ⟨gb261, 2, none⟩ = some (.int .i64 a0_2) := (qs BK261.out 2).trans rfl
   have hcz15_3 : w3.cell? ⟨gb261, 3, none⟩ = some (.slice A0_3 l0_3.length c0_3) := (qs BK261.out 3).trans rfl
   have hfz15_0 := qu BK261.out 0
   have hfz15_1 := qu BK261.out 1
   have hfz15_2 := qu BK261.out 2
   have hfz15_3 := qu BK261.out 3
   go_wp2_with (first | ((with_reducible refine gate_callee (f := 58) rfl ?_); refine goesL_ (some 10) rfl rfl Try.func58 ze rfl #[.int .i64 a0_0, .int .i64 0, .int .i64 100000] rfl zcm ?_; (with_reducible refine (impl_in.calls a0_0 0 100000 false _ A4.out).mono ?_); rintro e w' ⟨rfl, ⟨nd, rfl⟩⟩; refine ⟨_, rfl, ?_⟩))
   go_meet
   case rel => exact ⟨_, (true), zc, H', ⟨zcf⟩, ⟨zy⟩, ⟨z0⟩⟩
 case rest =>
  clear HC2
  (try clear c1); (try clear p2); (try clear c5); (try clear c6); (try clear p6); (try clear c7); (try clear c8); (try clear c8b0); (try clear c8b1); (try clear c11); (try clear hcz12_0); (try clear hcz12_1); (try clear hcz12_2); (try clear hcz12_3); (try clear hcz13_0); (try clear hcz13_1); (try clear hcz13_2); (try clear hcz13_3); (try clear hcz14_0); (try clear hcz14_1); (try clear hcz14_2); (try clear hcz14_3); (try clear hcz15_0); (try clear hcz15_1); (try clear hcz15_2); (try clear hcz15_3); (try clear hcz9_0); (try clear hcz9_1); (try clear hcz9_2); (try clear hcz9_3); (try clear hfz12_0); (try clear hfz12_1); (try clear hfz12_2); (try clear hfz12_3); (try clear hfz13_0); (try clear hfz13_1); (try clear hfz13_2); (try clear hfz13_3); (try clear hfz14_0); (try clear hfz14_1); (try clear hfz14_2); (try clear hfz14_3); (try clear hfz15_0); (try clear hfz15_1); (try clear hfz15_2); (try clear hfz15_3); (try clear hfz9_0); (try clear hfz9_1); (try clear hfz9_2); (try clear hfz9_3)
  obtain ⟨kq, x37_1, rfl, HA, HJ1, BK261, HB⟩ := hcut
  cases kq with
  | zero => exact absurd HA.out (by simp [impl_MetaOk.j0])
  | succ kj1 =>
   have H := HA.out
   clear HA
   simp only [impl_MetaOk.j0] at H
   by_cases c16 : x37_1 = true
   ·subst c16
    have H1 : (some false) = some r := by rw [if_pos rfl] at H; exact H
    clear H
    have H := H1
    clear H1
    obtain rfl := Option.some.inj H
    go_wp2
    go_ret
    exact ⟨zd, z0⟩
   ·replace c16 := Bool.eq_false_iff.mpr c16
    subst c16
    have H1 : (impl_MetaOk.l0 kj1 (([a0_1] : List Int)) l0_3 (l0_3.length : Int) 0 a0_0 a0_1 a0_2 l0_3) = some r := by rw [if_neg (show ¬ (false = true) by decide)] at H; exact H
    clear H
    have H := H1
    clear H1
    obtain ⟨y265, hy265⟩ : ∃ y_ : List Int, y_ = (([a0_1] : List Int)) := ⟨_, rfl⟩
    replace H : (impl_MetaOk.l0 kj1 y265 l0_3 (l0_3.length : Int) 0 a0_0 a0_1 a0_2 l0_3) = some r := by first | (rw [hy265]; with_reducible exact H) | (have H2_ := (Option.bind_some _ _).symm.trans H; rw [hy265]; with_reducible exact H2_) | (have H2_ := (Option.bind_some _ _).symm.trans H; with_reducible exact H2_) | with_reducible exact H | (rw [hy265]; exact H) | exact H
    have Ny265 := qo hy265
    clear hy265
    have H' := qo H
    clear H
    have hcz17_0 : wc.cell? ⟨gb261, 0, none⟩ = some (.int .i64 a0_0) := (qs BK261.out 0).trans rfl
    have hcz17_1 : wc.cell? ⟨gb261, 1, none⟩ = some (.int .i64 a0_1) := (qs BK261.out 1).trans rfl
    have hcz17_2 : wc.cell? ⟨gb261, 2, none⟩ = some (.int .i64 a0_2) := (qs BK261.out 2).trans rfl
    have hcz17_3 : wc.cell? ⟨gb261, 3, none⟩ = some (.slice A0_3 l0_3.length c0_3) := (qs BK261.out 3).trans rfl
    have hfz17_0 := qu BK261.out 0
    have hfz17_1 := qu BK261.out 1
    have hfz17_2 := qu BK261.out 2
    have hfz17_3 := qu BK261.out 3
    go_wp2_with (first | ((with_reducible refine gate_dst (N := 40) rfl ?_); (try (refine gate_guard zae ?_; dsimp only)); refine Kd.R_lit (Kd.int .i64) _ 3 ?hg (N := 40) ?hd (xs := ([a0_1] : List Int)) (inner := [.int .i64 a0_1]) (ok := fun _ => True) (okp := fun _ => True) ?hr ?hp (fun _ hk => hk) trivial (Below.refl _ _) (Nat.le_refl _) zbh ?_; (case hd => rfl); (case hg => rfl); (case hr => first | (go_simp; done) | (go_simp; rfl)); (case hp => exact (Reps.one (show Kd.M (Kd.int .i64) _ _ _ a0_1 [.int .i64 a0_1] from rfl) (Reps.none _ _))); intro v266 w18 ho19 hb hg_ hnew_; clear hg_ hnew_; (first | rw [← Ny265.out] at ho19 | (simp only [Int.reduceToNat] at ho19; rw [← Ny265.out] at ho19)); have n0_ := qo (Kd.R_lower ho19 (qp z0)); have n1_ := qo (qr (g := gb261) (o := .cells #[.int .i64 a0_0, .int .i64 a0_1, .int .i64 a0_2, .slice A0_3 l0_3.length c0_3] 24 (0, 0)) zy hb); have n2_ := qo (qq z0 hb); clear BK261; clear HB; have HO267 := n0_; have BK261 := n1_; have HB := n2_; clear n0_ n1_ n2_; clear hb ho19; have hcz20_0 : w18.cell? ⟨gb261, 0, none⟩ = some (.int .i64 a0_0) := (qs BK261.out 0).trans rfl; have hcz20_1 : w18.cell? ⟨gb261, 1, none⟩ = some (.int .i64 a0_1) := (qs BK261.out 1).trans rfl; have hcz20_2 : w18.cell? ⟨gb261, 2, none⟩ = some (.int .i64 a0_2) := (qs BK261.out 2).trans rfl; have hcz20_3 : w18.cell? ⟨gb261, 3, none⟩ = some (.slice A0_3 l0_3.length c0_3) := (qs BK261.out 3).trans rfl; have hfz20_0 := qu BK261.out 0; have hfz20_1 := qu BK261.out 1; have hfz20_2 := qu BK261.out 2; have hfz20_3 := qu BK261.out 3))
    go_loopg [3, 44] kj1 (fun kq v3 v44 w' => ∃ (x3_2 : List Int) (x44_2 : Int), v44 = .int .i64 x44_2 ∧ Aside0 (impl_MetaOk.l0 kq x3_2 l0_3 (l0_3.length : Int) x44_2 a0_0 a0_1 a0_2 l0_3 = some r) ∧ Aside0 (kq ≤ kj1) ∧ Aside0 (Kd.R (Kd.int .i64) 3 w' w.heap.size (fun _ => True) v3 x3_2) ∧ Aside0 (w'.heap[gb261]? = some (.cells #[.int .i64 a0_0, .int .i64 a0_1, .int .i64 a0_2, (.slice A0_3 l0_3.length c0_3)] 24 (0, 0))) ∧ Aside0 (Below w.heap.size w w'))
    case atStart => exact ⟨(y265), (0), zc, H', ⟨Nat.le_refl _⟩, ⟨by (with_reducible repeat (first | apply Kd.R_alloc | apply Kd.R_drewN | apply Kd.R_drew)); exact HO267.out⟩, ⟨zy⟩, ⟨z0⟩⟩
    case round =>
     clear H'
     (try clear c1); (try clear p2); (try clear c5); (try clear c6); (try clear p6); (try clear c7); (try clear c8); (try clear c8b0); (try clear c8b1); (try clear c11); (try clear c16); (try clear hcz12_0); (try clear hcz12_1); (try clear hcz12_2); (try clear hcz12_3); (try clear hcz13_0); (try clear hcz13_1); (try clear hcz13_2); (try clear hcz13_3); (try clear hcz14_0); (try clear hcz14_1); (try clear hcz14_2); (try clear hcz14_3); (try clear hcz15_0); (try clear hcz15_1); (try clear hcz15_2); (try clear hcz15_3); (try clear hcz17_0); (try clear hcz17_1); (try clear hcz17_2); (try clear hcz17_3); (try clear hcz20_0); (try clear hcz20_1); (try clear hcz20_2); (try clear hcz20_3); (try clear hcz9_0); (try clear hcz9_1); (try clear hcz9_2); (try clear hcz9_3); (try clear hfz12_0); (try clear hfz12_1); (try clear hfz12_2); (try clear hfz12_3); (try clear hfz13_0); (try clear hfz13_1); (try clear hfz13_2); (try clear hfz13_3); (try clear hfz14_0); (try clear hfz14_1); (try clear hfz14_2); (try clear hfz14_3); (try clear hfz15_0); (try clear hfz15_1); (try clear hfz15_2); (try clear hfz15_3); (try clear hfz17_0); (try clear hfz17_1); (try clear hfz17_2); (try clear hfz17_3); (try clear hfz20_0); (try clear hfz20_1); (try clear hfz20_2); (try clear hfz20_3); (try clear hfz9_0); (try clear hfz9_1); (try clear hfz9_2); (try clear hfz9_3); (try clear p2); (try clear p6)
     obtain ⟨x3_2, x44_2, rfl, HA, HK2, HO_3, BK261, HB⟩ := hrel
     cases gk with
     | zero => exact absurd HA.out (by simp [impl_MetaOk.l0])
     | succ k2 =>
      have H := HA.out
      clear HA
      simp only [impl_MetaOk.l0] at H
      by_cases c21 : x44_2 < (l0_3.length : Int)
      ·rw [if_pos c21] at H
       have c21b0 : decide (x44_2 < (l0_3.length : Int)) = true := decide_eq_true c21
       clear c21
       by_cases c22 : 0 ≤ x44_2
       ·rw [if_pos c22] at H
        have c22b0 : decide (0 ≤ x44_2) = true := decide_eq_true c22
        clear c22
        by_cases c23 : x44_2 < (l0_3.length : Int)
        ·rw [if_pos c23] at H
         have c23b0 : decide (x44_2 < (l0_3.length : Int)) = true := decide_eq_true c23
         clear c23
         have HC24 := qo H
         clear H
         have p268 : 0 ≤ (x44_2 : Int) := of_decide_eq_true zb
         have q268 : x44_2 < (l0_3.length : Int) := of_decide_eq_true zb
         obtain ⟨ad268, A268_1, c268_1, e268, hx268_0, hx268_1, hl268_1, hi268_1⟩ := at_T60 HR0_3.out x44_2 p268 q268
         cases e268
         replace hx268_0 := (HB.out.cell (World.block_lt_of_cell? w _ hx268_0)).trans hx268_0
         replace hx268_1 := (HB.out.cell (World.block_lt_of_cell? w _ hx268_1)).trans hx268_1
         have HR268_1 := qo hi268_1
         have HC268_1 := qo hl268_1
         clear hi268_1 hl268_1
         replace p268 := eq_true p268
         replace q268 := eq_true q268
         go_upto_region 7 with (first | ((with_reducible refine gate_dst (N := 5) rfl ?_); (try (refine gate_guard zae ?_; dsimp only)); refine box_event ?hg (N := 5) ?hd (cs := #[.int .i64 0, .slice none 0 0]) (t := 60) ?hr ?_; (case hd => rfl); (case hg => rfl); (case hr => first | (go_simp; done) | (go_simp; rfl)); intro gb269 hg w25 hbox hb; have n0_ := qo (Kd.R_below zs hb); have n1_ := qo (qr (g := gb261) (o := .cells #[.int .i64 a0_0, .int .i64 a0_1, .int .i64 a0_2, .slice (some ad268) l0_3.length c0_3] 24 (0, 0)) zy hb); have n2_ := qo (qq z0 hb); have n3_ := qo (hbox); have n4_ := qo ((by rw [hg]; exact (qp z0) : w.heap.size ≤ gb269)); have n5_ := qo ((by rw [hg]; exact (qp z0) : w.heap.size ≤ gb269)); have n6_ := qo ((by rw [hg]; exact Nat.ne_of_lt (blk_lt (g := gb261) (o := .cells #[.int .i64 a0_0, .int .i64 a0_1, .int .i64 a0_2, .slice (some ad268) l0_3.length c0_3] 24 (0, 0)) zy) : gb261 ≠ gb269)); have n7_ := qo ((by rw [hg]; exact Nat.ne_of_gt (blk_lt (g := gb261) (o := .cells #[.int .i64 a0_0, .int .i64 a0_1, .int .i64 a0_2, .slice (some ad268) l0_3.length c0_3] 24 (0, 0)) zy) : gb269 ≠ gb261)); clear HO_3; clear BK261; clear HB; have HO_3 := n0_; have BK261 := n1_; have HB := n2_; have BK269 := n3_; have GW269 := n4_; have GE269 := n5_; have NB261_269 := n6_; have NB269_261 := n7_; clear n0_ n1_ n2_ n3_ n4_ n5_ n6_ n7_; clear hb hbox hg; have hnb26 := NB269_261.out; have hnc26 := NB261_269.out; have hcz27_0 : w25.cell? ⟨gb269, 0, none⟩ = some (.int .i64 0) := (qs BK269.out 0).trans rfl; have hcz27_1 : w25.cell? ⟨gb269, 1, none⟩ = some (.slice none 0 0) := (qs BK269.out 1).trans rfl; have hfz27_0 := qu BK269.out 0; have hfz27_1 := qu BK269.out 1))
         (try simp only [Act.put, qa, qb, qc])
         go_cut [68] (fun v68 wc => ∃ (kq : Nat) (x68_23 : Bool), v68 = .bool x68_23 ∧ Aside0 (impl_MetaOk.j2 kq x3_2 l0_3 (l0_3.length : Int) x44_2 x68_23 a0_0 a0_1 a0_2 l0_3 ((rd_T60 l0_3 x44_2).f0) ((rd_T60 l0_3 x44_2).f1) = some r) ∧ Aside0 (kq ≤ k2) ∧ Aside0 (Kd.R (Kd.int .i64) 3 wc w.heap.size (fun _ => True) u3 x3_2) ∧ Aside0 (wc.heap[gb261]? = some (.cells #[.int .i64 a0_0, .int .i64 a0_1, .int .i64 a0_2, (.slice (some ad268) l0_3.length c0_3)] 24 (0, 0))) ∧ Aside0 (wc.heap[gb269]? = some (.cells #[.int .i64 ((rd_T60 l0_3 x44_2).f0), (.slice A268_1 ((rd_T60 l0_3 x44_2).f1).length c268_1)] 60 (0, 0))) ∧ Aside0 (Below w.heap.size w wc))
         case first =>
          have H := HC24.out
          clear HC24
          replace H := Option.bind_eq_some_iff.mp H
          obtain ⟨t270, A280, H⟩ := H
          replace H : (if t270 = true then (if x44_2 > 0 then (if 0 ≤ (wrap64 (x44_2 - 1)) then (if (wrap64 (x44_2 - 1)) < (l0_3.length : Int) then (impl_MetaOk.j2 k2 x3_2 l0_3 (l0_3.length : Int) x44_2 (decide (((rd_T60 l0_3 (wrap64 (x44_2 - 1))).f0) ≥ ((rd_T60 l0_3 x44_2).f0))) a0_0 a0_1 a0_2 l0_3 ((rd_T60 l0_3 x44_2).f0) ((rd_T60 l0_3 x44_2).f1)) else (none)) else (none)) else (impl_MetaOk.j2 k2 x3_2 l0_3 (l0_3.length : Int) x44_2 false a0_0 a0_1 a0_2 l0_3 ((rd_T60 l0_3 x44_2).f0) ((rd_T60 l0_3 x44_2).f1))) else (impl_MetaOk.j2 k2 x3_2 l0_3 (l0_3.length : Int) x44_2 true a0_0 a0_1 a0_2 l0_3 ((rd_T60 l0_3 x44_2).f0) ((rd_T60 l0_3 x44_2).f1))) = some r := H
          have A28 := qo A280
          clear A280
          by_cases c29 : t270 = true
          ·subst c29
           have H1 : (if x44_2 > 0 then (if 0 ≤ (wrap64 (x44_2 - 1)) then (if (wrap64 (x44_2 - 1)) < (l0_3.length : Int) then (impl_MetaOk.j2 k2 x3_2 l0_3 (l0_3.length : Int) x44_2 (decide (((rd_T60 l0_3 (wrap64 (x44_2 - 1))).f0) ≥ ((rd_T60 l0_3 x44_2).f0))) a0_0 a0_1 a0_2 l0_3 ((rd_T60 l0_3 x44_2).f0) ((rd_T60 l0_3 x44_2).f1)) else (none)) else (none)) else (impl_MetaOk.j2 k2 x3_2 l0_3 (l0_3.length : Int) x44_2 false a0_0 a0_1 a0_2 l0_3 ((rd_T60 l0_3 x44_2).f0) ((rd_T60 l0_3 x44_2).f1))) = some r := by rw [if_pos rfl] at H; exact H
           clear H
           have H := H1
           clear H1
           by_cases c30 : x44_2 > 0
           ·rw [if_pos c30] at H
            have c30b0 : decide (0 < x44_2) = true := decide_eq_true c30
            clear c30
            (first | rw [c30b0] | (simp only [i64_w, i32_w]; rw [c30b0]) | skip)
            obtain ⟨ji31, hji31⟩ : ∃ j_ : Int, (wrap64 (x44_2 - 1)) = j_ := ⟨_, rfl⟩
            replace H : (if 0 ≤ (ji31) then (if (ji31) < (l0_3.length : Int) then (impl_MetaOk.j2 k2 x3_2 l0_3 (l0_3.length : Int) x44_2 (decide (((rd_T60 l0_3 (ji31)).f0) ≥ ((rd_T60 l0_3 x44_2).f0))) a0_0 a0_1 a0_2 l0_3 ((rd_T60 l0_3 x44_2).f0) ((rd_T60 l0_3 x44_2).f1)) else (none)) else (none)) = some r := by first | (rw [hji31] at H; exact H) | (simp only [hji31] at H ⊢; exact H)
            (try rw [hji31] at A28)
            have hji31w : (IntKind.i64.wrap (x44_2 - 1)) = ji31 := (i64_w _).trans hji31
            by_cases c32 : 0 ≤ (ji31)
            ·rw [if_pos c32] at H
             have c32b0 : decide (0 ≤ (ji31)) = true := decide_eq_true c32
             clear c32
             by_cases c33 : (ji31) < (l0_3.length : Int)
             ·rw [if_pos c33] at H
              have c33b0 : decide ((ji31) < (l0_3.length : Int)) = true := decide_eq_true c33
              clear c33
              have H' := qo H
              clear H
              try go_wp2
              have n0_ : Aside0 (Kd.R (Kd.int .i64) 3 ((w25.setCell ⟨gb269, 0, none⟩ (.int .i64 ((rd_T60 l0_3 x44_2).f0))).setCell ⟨gb269, 1, none⟩ (.slice A268_1 ((rd_T60 l0_3 x44_2).f1).length c268_1)) w.heap.size (fun _ => True) u3 x3_2) := ⟨zcp⟩
              have n1_ : Aside0 (((w25.setCell ⟨gb269, 0, none⟩ (.int .i64 ((rd_T60 l0_3 x44_2).f0))).setCell ⟨gb269, 1, none⟩ (.slice A268_1 ((rd_T60 l0_3 x44_2).f1).length c268_1)).heap[gb261]? = some (.cells #[.int .i64 a0_0, .int .i64 a0_1, .int .i64 a0_2, .slice (some ad268) l0_3.length c0_3] 24 (0, 0))) := ⟨zan⟩
              have n2_ : Aside0 (((w25.setCell ⟨gb269, 0, none⟩ (.int .i64 ((rd_T60 l0_3 x44_2).f0))).setCell ⟨gb269, 1, none⟩ (.slice A268_1 ((rd_T60 l0_3 x44_2).f1).length c268_1)).heap[gb269]? = some (.cells #[.int .i64 ((rd_T60 l0_3 x44_2).f0), .slice A268_1 ((rd_T60 l0_3 x44_2).f1).length c268_1] 60 (0, 0))) := ⟨zai⟩
              have n3_ : Aside0 (Below w.heap.size w ((w25.setCell ⟨gb269, 0, none⟩ (.int .i64 ((rd_T60 l0_3 x44_2).f0))).setCell ⟨gb269, 1, none⟩ (.slice A268_1 ((rd_T60 l0_3 x44_2).f1).length c268_1))) := ⟨zo⟩
              (try clear HO_3)
              (try clear BK261)
              (try clear BK269)
              (try clear HB)
              generalize ((w25.setCell ⟨gb269, 0, none⟩ (.int .i64 ((rd_T60 l0_3 x44_2).f0))).setCell ⟨gb269, 1, none⟩ (.slice A268_1 ((rd_T60 l0_3 x44_2).f1).length c268_1)) = w34 at n0_ n1_ n2_ n3_ ⊢
              have HO_3 := n0_
              have BK261 := n1_
              have BK269 := n2_
              have HB := n3_
              clear n0_ n1_ n2_ n3_
              have n0_ := qo (Kd.R_drew HO_3.out)
              have n1_ := qo (qj BK261.out)
              have n2_ := qo (qj BK269.out)
              have n3_ := qo (qn HB.out)
              clear HO_3
              clear BK261
              clear BK269
              clear HB
              have HO_3 := n0_
              have BK261 := n1_
              have BK269 := n2_
              have HB := n3_
              clear n0_ n1_ n2_ n3_
              have p271 : 0 ≤ ((ji31) : Int) := of_decide_eq_true zb
              have q271 : (ji31) < (l0_3.length : Int) := of_decide_eq_true zb
              obtain ⟨ad271, A271_1, c271_1, e271, hx271_0, hx271_1, hl271_1, hi271_1⟩ := at_T60 HR0_3.out (ji31) p271 q271
              have hw271_1 := hx271_1
              have hw271_0 := hx271_0
              obtain rfl : ad268 = ad271 := (by injection e271)
              replace hx271_0 := (HB.out.cell (World.block_lt_of_cell? w _ hx271_0)).trans hx271_0
              replace hx271_1 := (HB.out.cell (World.block_lt_of_cell? w _ hx271_1)).trans hx271_1
              have HR271_1 := qo hi271_1
              have HC271_1 := qo hl271_1
              clear hi271_1 hl271_1
              replace p271 := eq_true p271
              replace q271 := eq_true q271
              refine start_ (n := 20) (S := fun w' => w'.cell? ⟨gb269, 0, none⟩ = some (.int .i64 ((rd_T60 l0_3 x44_2).f0)) ∧ w'.cell? ⟨gb269, 1, none⟩ = some (.slice A268_1 ((rd_T60 l0_3 x44_2).f1).length c268_1) ∧ w'.cell? ⟨gb261, 0, none⟩ = some (.int .i64 a0_0) ∧ w'.cell? ⟨gb261, 1, none⟩ = some (.int .i64 a0_1) ∧ w'.cell? ⟨gb261, 2, none⟩ = some (.int .i64 a0_2) ∧ w'.cell? ⟨gb261, 3, none⟩ = some (.slice (some ad268) l0_3.length c0_3) ∧ w'.cell? (ad268.add (((ji31)).toNat * 2)) = some (.int .i64 ((rd_T60 l0_3 (ji31)).f0)) ∧ w'.cell? ⟨(ad268.add (((ji31)).toNat * 2)).block, (ad268.add (((ji31)).toNat * 2)).off + 1, none⟩ = some (.slice A271_1 ((rd_T60 l0_3 (ji31)).f1).length c271_1)) (ds := []) (bz 20 0) ze rfl rfl ⟨(qs BK269.out 0).trans rfl, (qs BK269.out 1).trans rfl, (qs BK261.out 0).trans rfl, (qs BK261.out 1).trans rfl, (qs BK261.out 2).trans rfl, (qs BK261.out 3).trans rfl, ((HB.out.cell (World.block_lt_of_cell? w _ hw271_0)).trans hw271_0), ((HB.out.cell (World.block_lt_of_cell? w _ hw271_1)).trans hw271_1)⟩ (fun hHeld => ?_); refine with_tabW impl_MetaOk.tab7 impl_MetaOk.bits7 (fun HT_ HW_ => ?_)
              generalize w34.drew = w35 at HO_3 BK261 BK269 HB HR271_1 hx271_0 hx271_1 hHeld ⊢
              refine take_ (i := 0) (N := some 49) (v := ?_) (a' := ?_) (bz 20 1) rfl rfl (take_ofW HT_.out HW_.out ze) (fun _ _ _ h => h) (Or.inl ⟨zae, ?_⟩) hHeld ?_ ?_; rotate_left; (rintro w' ⟨s0, s1, s2, s3, s4, s5, s6, s7⟩; go_simp; with_reducible rfl); rotate_left; (simp only [Act.put, qa, qb, qc, i64_w, i32_w]; rfl)
              refine take_ (i := 1) (N := some 50) (v := ?_) (a' := ?_) (bz 20 3) rfl rfl (take_ofW HT_.out HW_.out ze) (fun _ _ _ h => h) (Or.inl ⟨zae, ?_⟩) hHeld ?_ ?_; rotate_left; (rintro w' ⟨s0, s1, s2, s3, s4, s5, s6, s7⟩; go_simp; with_reducible rfl); rotate_left; (simp only [Act.put, qa, qb, qc, i64_w, i32_w]; rfl)
              refine one_ (i := 2) (N := some 51) (bz 20 7) rfl rfl (one_of HT_.out ze) za7 (fun K hK => ?_)
              refine goes_ Try.func77 ze rfl #[.agg #[.int .i64 ((rd_T60 l0_3 x44_2).f0), .slice A268_1 ((rd_T60 l0_3 x44_2).f1).length c268_1], .agg #[.int .i64 a0_0, .int .i64 a0_1, .int .i64 a0_2, .slice (some ad268) l0_3.length c0_3]] zae rfl rfl zcm ?_
              with_reducible refine (impl_freeOk.calls k2 ((rd_T60 l0_3 x44_2).f0) _ _ ((rd_T60 l0_3 x44_2).f1) a0_0 a0_1 a0_2 _ _ l0_3 true _ ?side1 ?side2 ?side3 ?side4 A28.out).mono ?_
              (case side1 => repeat (first | exact (Kd.C_below HR268_1.out HB.out) | (with_reducible refine Kd.C_alloc ?_ _) | (with_reducible refine Kd.C_drewN ?_ _) | (with_reducible refine Kd.C_drew ?_)))
              (case side2 => exact HC268_1.out)
              (case side3 => repeat (first | exact (Kd.C_below HR0_3.out HB.out) | (with_reducible refine Kd.C_alloc ?_ _) | (with_reducible refine Kd.C_drewN ?_ _) | (with_reducible refine Kd.C_drew ?_)))
              (case side4 => exact HC0_3.out)
              rintro e w36 ⟨rfl, hb⟩
              refine ⟨_, rfl, ?_⟩
              have n0_ := qo (Kd.R_below zs hb)
              have n1_ := qo (qr (g := gb261) (o := .cells #[.int .i64 a0_0, .int .i64 a0_1, .int .i64 a0_2, .slice (some ad268) l0_3.length c0_3] 24 (0, 0)) zy hb)
              have n2_ := qo (qr (g := gb269) (o := .cells #[.int .i64 ((rd_T60 l0_3 x44_2).f0), .slice A268_1 ((rd_T60 l0_3 x44_2).f1).length c268_1] 60 (0, 0)) zav hb)
              have n3_ := qo (qq zo hb)
              clear HO_3
              clear BK261
              clear BK269
              clear HB
              have HO_3 := n0_
              have BK261 := n1_
              have BK269 := n2_
              have HB := n3_
              clear n0_ n1_ n2_ n3_
              (try clear hb)
              (try clear hb2)
              (try clear hk)
              (try clear hi)
              refine hK.out _ _ ⟨(qs BK269.out 0).trans rfl, (qs BK269.out 1).trans rfl, (qs BK261.out 0).trans rfl, (qs BK261.out 1).trans rfl, (qs BK261.out 2).trans rfl, (qs BK261.out 3).trans rfl, ((HB.out.cell (World.block_lt_of_cell? w _ hw271_0)).trans hw271_0), ((HB.out.cell (World.block_lt_of_cell? w _ hw271_1)).trans hw271_1)⟩ (fun hHeld => ?_)
              clear hK K
              refine norm_ (a' := ?_) ?_ ?_; rotate_left; (show Act.put _ (some 51) _ = _; simp only [Act.put, qa, qb, qc, i64_w, i32_w]; rfl)
              refine pure_ (i := 3) (N := some 52) (v := ?_) (a' := ?_) (bz 20 15) rfl rfl (any_of HT_.out ze) (fun _ _ _ h => h) (Or.inl ⟨zae, ?_⟩) ?_ ?_; rotate_left; (intro w'; go_simp; with_reducible rfl); rotate_left; (simp only [Act.put, qa, qb, qc, i64_w, i32_w]; rfl)
              refine pure_ (i := 4) (N := some 53) (v := ?_) (a' := ?_) (bz 20 31) rfl rfl (any_of HT_.out ze) (fun _ _ _ h => h) (Or.inl ⟨zae, ?_⟩) ?_ ?_; rotate_left; (intro w'; go_simp; with_reducible rfl); rotate_left; (simp only [Act.put, qa, qb, qc, i64_w, i32_w]; rfl)
              refine pure_ (i := 5) (N := some 54) (v := ?_) (a' := ?_) (bz 20 63) rfl rfl (any_of HT_.out ze) (fun _ _ _ h => h) (Or.inl ⟨zae, ?_⟩) ?_ ?_; rotate_left; (intro w'; go_simp; with_reducible rfl); rotate_left; (simp only [Act.put, qa, qb, qc, i64_w, i32_w]; rfl)
              refine pure_ (i := 6) (N := some 55) (v := ?_) (a' := ?_) (bz 20 127) rfl rfl (any_of HT_.out ze) (fun _ _ _ h => h) (Or.inl ⟨zae, ?_⟩) ?_ ?_; rotate_left; (intro w'; go_simp; with_reducible rfl); rotate_left; (simp only [Act.put, qa, qb, qc, i64_w, i32_w]; rfl)
              refine pure_ (i := 7) (N := some 56) (v := ?_) (a' := ?_) (bz 20 255) rfl rfl (any_of HT_.out ze) (fun _ _ _ h => h) (Or.inl ⟨zae, ?_⟩) ?_ ?_; rotate_left; (intro w'; go_simp; with_reducible rfl); rotate_left; (simp only [Act.put, qa, qb, qc, i64_w, i32_w]; rfl)
              refine pure_ (i := 8) (N := some 57) (v := ?_) (a' := ?_) (bz 20 511) rfl rfl (any_of HT_.out ze) (fun _ _ _ h => h) (Or.inl ⟨zae, ?_⟩) ?_ ?_; rotate_left; (intro w'; go_simp; with_reducible rfl); rotate_left; (simp only [Act.put, qa, qb, qc, i64_w, i32_w]; rfl)
              refine pure_ (i := 10) (N := some 59) (v := ?_) (a' := ?_) (bz 20 1535) rfl rfl (any_of HT_.out ze) (fun _ _ _ h => h) (Or.inl ⟨zae, ?_⟩) ?_ ?_; rotate_left; (intro w'; go_simp; with_reducible rfl); rotate_left; (simp only [Act.put, qa, qb, qc, i64_w, i32_w]; rfl)
              refine pure_ (i := 11) (N := some 60) (v := ?_) (a' := ?_) (bz 20 3583) rfl rfl (any_of HT_.out ze) (fun _ _ _ h => h) (Or.inl ⟨zae, ?_⟩) ?_ ?_; rotate_left; (intro w'; go_simp; with_reducible rfl); rotate_left; (simp only [Act.put, qa, qb, qc, i64_w, i32_w]; rfl)
              refine pure_ (i := 15) (N := some 64) (v := ?_) (a' := ?_) (bz 20 36351) rfl rfl (any_of HT_.out ze) (fun _ _ _ h => h) (Or.inl ⟨zae, ?_⟩) ?_ ?_; rotate_left; (intro w'; go_simp; with_reducible rfl); rotate_left; (simp only [Act.put, qa, qb, qc, i64_w, i32_w]; rfl)
              refine take_ (i := 9) (N := some 58) (v := ?_) (a' := ?_) (bz 20 36863) rfl rfl (take_ofW HT_.out HW_.out ze) (fun _ _ _ h => h) (Or.inl ⟨zae, ?_⟩) hHeld ?_ ?_; rotate_left; (rintro w' ⟨s0, s1, s2, s3, s4, s5, s6, s7⟩; go_simp; with_reducible rfl); rotate_left; (simp only [Act.put, qa, qb, qc, i64_w, i32_w]; rfl)
              refine pure_ (i := 12) (N := some 61) (v := ?_) (a' := ?_) (bz 20 40959) rfl rfl (any_of HT_.out ze) (fun _ _ _ h => h) (Or.inl ⟨zae, ?_⟩) ?_ ?_; rotate_left; (intro w'; go_simp; with_reducible rfl); rotate_left; (simp only [Act.put, qa, qb, qc, i64_w, i32_w]; rfl)
              refine pure_ (i := 13) (N := some 62) (v := ?_) (a' := ?_) (bz 20 49151) rfl rfl (any_of HT_.out ze) (fun _ _ _ h => h) (Or.inl ⟨zae, ?_⟩) ?_ ?_; rotate_left; (intro w'; go_simp; with_reducible rfl); rotate_left; (simp only [Act.put, qa, qb, qc, i64_w, i32_w]; rfl)
              refine take_ (i := 14) (N := some 63) (v := ?_) (a' := ?_) (bz 20 65535) rfl rfl (take_ofW HT_.out HW_.out ze) (fun _ _ _ h => h) (Or.inl ⟨zae, ?_⟩) hHeld ?_ ?_; rotate_left; (rintro w' ⟨s0, s1, s2, s3, s4, s5, s6, s7⟩; go_simp; with_reducible rfl); rotate_left; (simp only [Act.put, qa, qb, qc, i64_w, i32_w]; rfl)
              refine take_ (i := 16) (N := some 65) (v := ?_) (a' := ?_) (bz 20 131071) rfl rfl (take_ofW HT_.out HW_.out ze) (fun _ _ _ h => h) (Or.inl ⟨zae, ?_⟩) hHeld ?_ ?_; rotate_left; (rintro w' ⟨s0, s1, s2, s3, s4, s5, s6, s7⟩; go_simp; with_reducible rfl); rotate_left; (simp only [Act.put, qa, qb, qc, i64_w, i32_w]; rfl)
              refine pure_ (i := 17) (N := some 66) (v := ?_) (a' := ?_) (bz 20 262143) rfl rfl (any_of HT_.out ze) (fun _ _ _ h => h) (Or.inl ⟨zae, ?_⟩) ?_ ?_; rotate_left; (intro w'; go_simp; with_reducible rfl); rotate_left; (simp only [Act.put, qa, qb, qc, i64_w, i32_w]; rfl)
              refine pure_ (i := 18) (N := some 67) (v := ?_) (a' := ?_) (bz 20 524287) rfl rfl (any_of HT_.out ze) (fun _ _ _ h => h) (Or.inl ⟨zae, ?_⟩) ?_ ?_; rotate_left; (intro w'; go_simp; with_reducible rfl); rotate_left; (simp only [Act.put, qa, qb, qc, i64_w, i32_w]; rfl)
              refine pure_ (i := 19) (N := some 68) (v := ?_) (a' := ?_) (bz 20 1048575) rfl rfl (any_of HT_.out ze) (fun _ _ _ h => h) (Or.inl ⟨zae, ?_⟩) ?_ ?_; rotate_left; (intro w'; go_simp; with_reducible rfl); rotate_left; (simp only [Act.put, qa, qb, qc, i64_w, i32_w]; rfl)
              refine done_ (done_of HT_.out ze) ?_
              try go_wp2
              go_meet
              case rel => exact ⟨_, (decide (((rd_T60 l0_3 (ji31)).f0) ≥ ((rd_T60 l0_3 x44_2).f0))), (by first | rfl | (simp; done) | (simp only [← hji31] <;> (first | rfl | simp)) | (simp [*]; done)), H', ⟨zb2⟩, ⟨zs⟩, ⟨zy⟩, ⟨zav⟩, ⟨zo⟩⟩
             ·rw [if_neg c33] at H
              exact absurd H zbh
            ·rw [if_neg c32] at H
             exact absurd H zbh
           ·rw [if_neg c30] at H
            have c30b0 : decide (0 < x44_2) = false := decide_eq_false c30
            clear c30
            (first | rw [c30b0] | (simp only [i64_w, i32_w]; rw [c30b0]) | skip)
            have H' := qo H
            clear H
            try go_wp2
            have n0_ : Aside0 (Kd.R (Kd.int .i64) 3 ((w25.setCell ⟨gb269, 0, none⟩ (.int .i64 ((rd_T60 l0_3 x44_2).f0))).setCell ⟨gb269, 1, none⟩ (.slice A268_1 ((rd_T60 l0_3 x44_2).f1).length c268_1)) w.heap.size (fun _ => True) u3 x3_2) := ⟨zcp⟩
            have n1_ : Aside0 (((w25.setCell ⟨gb269, 0, none⟩ (.int .i64 ((rd_T60 l0_3 x44_2).f0))).setCell ⟨gb269, 1, none⟩ (.slice A268_1 ((rd_T60 l0_3 x44_2).f1).length c268_1)).heap[gb261]? = some (.cells #[.int .i64 a0_0, .int .i64 a0_1, .int .i64 a0_2, .slice (some ad268) l0_3.length c0_3] 24 (0, 0))) := ⟨zan⟩
            have n2_ : Aside0 (((w25.setCell ⟨gb269, 0, none⟩ (.int .i64 ((rd_T60 l0_3 x44_2).f0))).setCell ⟨gb269, 1, none⟩ (.slice A268_1 ((rd_T60 l0_3 x44_2).f1).length c268_1)).heap[gb269]? = some (.cells #[.int .i64 ((rd_T60 l0_3 x44_2).f0), .slice A268_1 ((rd_T60 l0_3 x44_2).f1).length c268_1] 60 (0, 0))) := ⟨zai⟩
            have n3_ : Aside0 (Below w.heap.size w ((w25.setCell ⟨gb269, 0, none⟩ (.int .i64 ((rd_T60 l0_3 x44_2).f0))).setCell ⟨gb269, 1, none⟩ (.slice A268_1 ((rd_T60 l0_3 x44_2).f1).length c268_1))) := ⟨zo⟩
            (try clear HO_3)
            (try clear BK261)
            (try clear BK269)
            (try clear HB)
            generalize ((w25.setCell ⟨gb269, 0, none⟩ (.int .i64 ((rd_T60 l0_3 x44_2).f0))).setCell ⟨gb269, 1, none⟩ (.slice A268_1 ((rd_T60 l0_3 x44_2).f1).length c268_1)) = w37 at n0_ n1_ n2_ n3_ ⊢
            have HO_3 := n0_
            have BK261 := n1_
            have BK269 := n2_
            have HB := n3_
            clear n0_ n1_ n2_ n3_
            have n0_ := qo (Kd.R_drew HO_3.out)
            have n1_ := qo (qj BK261.out)
            have n2_ := qo (qj BK269.out)
            have n3_ := qo (qn HB.out)
            clear HO_3
            clear BK261
            clear BK269
            clear HB
            have HO_3 := n0_
            have BK261 := n1_
            have BK269 := n2_
            have HB := n3_
            clear n0_ n1_ n2_ n3_
            refine start_ (n := 20) (S := fun w' => w'.cell? ⟨gb269, 0, none⟩ = some (.int .i64 ((rd_T60 l0_3 x44_2).f0)) ∧ w'.cell? ⟨gb269, 1, none⟩ = some (.slice A268_1 ((rd_T60 l0_3 x44_2).f1).length c268_1) ∧ w'.cell? ⟨gb261, 0, none⟩ = some (.int .i64 a0_0) ∧ w'.cell? ⟨gb261, 1, none⟩ = some (.int .i64 a0_1) ∧ w'.cell? ⟨gb261, 2, none⟩ = some (.int .i64 a0_2) ∧ w'.cell? ⟨gb261, 3, none⟩ = some (.slice (some ad268) l0_3.length c0_3)) (ds := []) (bz 20 0) ze rfl rfl ⟨(qs BK269.out 0).trans rfl, (qs BK269.out 1).trans rfl, (qs BK261.out 0).trans rfl, (qs BK261.out 1).trans rfl, (qs BK261.out 2).trans rfl, (qs BK261.out 3).trans rfl⟩ (fun hHeld => ?_); refine with_tabW impl_MetaOk.tab7 impl_MetaOk.bits7 (fun HT_ HW_ => ?_)
            generalize w37.drew = w38 at HO_3 BK261 BK269 HB hHeld ⊢
            refine take_ (i := 0) (N := some 49) (v := ?_) (a' := ?_) (bz 20 1) rfl rfl (take_ofW HT_.out HW_.out ze) (fun _ _ _ h => h) (Or.inl ⟨zae, ?_⟩) hHeld ?_ ?_; rotate_left; (rintro w' ⟨s0, s1, s2, s3, s4, s5⟩; go_simp; with_reducible rfl); rotate_left; (simp only [Act.put, qa, qb, qc, i64_w, i32_w]; rfl)
            refine take_ (i := 1) (N := some 50) (v := ?_) (a' := ?_) (bz 20 3) rfl rfl (take_ofW HT_.out HW_.out ze) (fun _ _ _ h => h) (Or.inl ⟨zae, ?_⟩) hHeld ?_ ?_; rotate_left; (rintro w' ⟨s0, s1, s2, s3, s4, s5⟩; go_simp; with_reducible rfl); rotate_left; (simp only [Act.put, qa, qb, qc, i64_w, i32_w]; rfl)
            refine one_ (i := 2) (N := some 51) (bz 20 7) rfl rfl (one_of HT_.out ze) za7 (fun K hK => ?_)
            refine goes_ Try.func77 ze rfl #[.agg #[.int .i64 ((rd_T60 l0_3 x44_2).f0), .slice A268_1 ((rd_T60 l0_3 x44_2).f1).length c268_1], .agg #[.int .i64 a0_0, .int .i64 a0_1, .int .i64 a0_2, .slice (some ad268) l0_3.length c0_3]] zae rfl rfl zcm ?_
            with_reducible refine (impl_freeOk.calls k2 ((rd_T60 l0_3 x44_2).f0) _ _ ((rd_T60 l0_3 x44_2).f1) a0_0 a0_1 a0_2 _ _ l0_3 true _ ?side1 ?side2 ?side3 ?side4 A28.out).mono ?_
            (case side1 => repeat (first | exact (Kd.C_below HR268_1.out HB.out) | (with_reducible refine Kd.C_alloc ?_ _) | (with_reducible refine Kd.C_drewN ?_ _) | (with_reducible refine Kd.C_drew ?_)))
            (case side2 => exact HC268_1.out)
            (case side3 => repeat (first | exact (Kd.C_below HR0_3.out HB.out) | (with_reducible refine Kd.C_alloc ?_ _) | (with_reducible refine Kd.C_drewN ?_ _) | (with_reducible refine Kd.C_drew ?_)))
            (case side4 => exact HC0_3.out)
            rintro e w39 ⟨rfl, hb⟩
            refine ⟨_, rfl, ?_⟩
            have n0_ := qo (Kd.R_below zs hb)
            have n1_ := qo (qr (g := gb261) (o := .cells #[.int .i64 a0_0, .int .i64 a0_1, .int .i64 a0_2, .slice (some ad268) l0_3.length c0_3] 24 (0, 0)) zy hb)
            have n2_ := qo (qr (g := gb269) (o := .cells #[.int .i64 ((rd_T60 l0_3 x44_2).f0), .slice A268_1 ((rd_T60 l0_3 x44_2).f1).length c268_1] 60 (0, 0)) zav hb)
            have n3_ := qo (qq zo hb)
            clear HO_3
            clear BK261
            clear BK269
            clear HB
            have HO_3 := n0_
            have BK261 := n1_
            have BK269 := n2_
            have HB := n3_
            clear n0_ n1_ n2_ n3_
            (try clear hb)
            (try clear hb2)
            (try clear hk)
            (try clear hi)
            refine hK.out _ _ ⟨(qs BK269.out 0).trans rfl, (qs BK269.out 1).trans rfl, (qs BK261.out 0).trans rfl, (qs BK261.out 1).trans rfl, (qs BK261.out 2).trans rfl, (qs BK261.out 3).trans rfl⟩ (fun hHeld => ?_)
            clear hK K
            refine norm_ (a' := ?_) ?_ ?_; rotate_left; (show Act.put _ (some 51) _ = _; simp only [Act.put, qa, qb, qc, i64_w, i32_w]; rfl)
            refine pure_ (i := 3) (N := some 52) (v := ?_) (a' := ?_) (bz 20 15) rfl rfl (any_of HT_.out ze) (fun _ _ _ h => h) (Or.inl ⟨zae, ?_⟩) ?_ ?_; rotate_left; (intro w'; go_simp; with_reducible rfl); rotate_left; (simp only [Act.put, qa, qb, qc, i64_w, i32_w]; rfl)
            refine pure_ (i := 4) (N := some 53) (v := ?_) (a' := ?_) (bz 20 31) rfl rfl (any_of HT_.out ze) (fun _ _ _ h => h) (Or.inl ⟨zae, ?_⟩) ?_ ?_; rotate_left; (intro w'; go_simp; with_reducible rfl); rotate_left; (simp only [Act.put, qa, qb, qc, i64_w, i32_w]; rfl)
            refine pure_ (i := 5) (N := some 54) (v := ?_) (a' := ?_) (bz 20 63) rfl rfl (any_of HT_.out ze) (fun _ _ _ h => h) (Or.inl ⟨zae, ?_⟩) ?_ ?_; rotate_left; (intro w'; go_simp; with_reducible rfl); rotate_left; (simp only [Act.put, qa, qb, qc, i64_w, i32_w]; rfl)
            refine pure_ (i := 6) (N := some 55) (v := ?_) (a' := ?_) (bz 20 127) rfl rfl (any_of HT_.out ze) (fun _ _ _ h => h) (Or.inl ⟨zae, ?_⟩) ?_ ?_; rotate_left; (intro w'; go_simp; with_reducible rfl); rotate_left; (simp only [Act.put, qa, qb, qc, i64_w, i32_w]; rfl)
            refine pure_ (i := 7) (N := some 56) (v := ?_) (a' := ?_) (bz 20 255) rfl rfl (any_of HT_.out ze) (fun _ _ _ h => h) (Or.inl ⟨zae, ?_⟩) ?_ ?_; rotate_left; (intro w'; go_simp; with_reducible rfl); rotate_left; (simp only [Act.put, qa, qb, qc, i64_w, i32_w]; rfl)
            refine pure_ (i := 8) (N := some 57) (v := undef) (a' := ?_) (bz 20 511) rfl rfl (any_of HT_.out ze) (fun _ _ _ h => h) (Or.inr ⟨zae, rfl⟩) ?_ ?_; rotate_left; (simp only [Act.put, qa, qb, qc, i64_w, i32_w]; rfl)
            refine pure_ (i := 9) (N := some 58) (v := undef) (a' := ?_) (bz 20 1023) rfl rfl (any_of HT_.out ze) (fun _ _ _ h => h) (Or.inr ⟨zae, rfl⟩) ?_ ?_; rotate_left; (simp only [Act.put, qa, qb, qc, i64_w, i32_w]; rfl)
            refine pure_ (i := 10) (N := some 59) (v := undef) (a' := ?_) (bz 20 2047) rfl rfl (any_of HT_.out ze) (fun _ _ _ h => h) (Or.inr ⟨zae, rfl⟩) ?_ ?_; rotate_left; (simp only [Act.put, qa, qb, qc, i64_w, i32_w]; rfl)
            refine pure_ (i := 11) (N := some 60) (v := undef) (a' := ?_) (bz 20 4095) rfl rfl (any_of HT_.out ze) (fun _ _ _ h => h) (Or.inr ⟨zae, rfl⟩) ?_ ?_; rotate_left; (simp only [Act.put, qa, qb, qc, i64_w, i32_w]; rfl)
            refine pure_ (i := 12) (N := some 61) (v := undef) (a' := ?_) (bz 20 8191) rfl rfl (any_of HT_.out ze) (fun _ _ _ h => h) (Or.inr ⟨zae, rfl⟩) ?_ ?_; rotate_left; (simp only [Act.put, qa, qb, qc, i64_w, i32_w]; rfl)
            refine pure_ (i := 13) (N := some 62) (v := undef) (a' := ?_) (bz 20 16383) rfl rfl (any_of HT_.out ze) (fun _ _ _ h => h) (Or.inr ⟨zae, rfl⟩) ?_ ?_; rotate_left; (simp only [Act.put, qa, qb, qc, i64_w, i32_w]; rfl)
            refine pure_ (i := 14) (N := some 63) (v := undef) (a' := ?_) (bz 20 32767) rfl rfl (any_of HT_.out ze) (fun _ _ _ h => h) (Or.inr ⟨zae, rfl⟩) ?_ ?_; rotate_left; (simp only [Act.put, qa, qb, qc, i64_w, i32_w]; rfl)
            refine pure_ (i := 15) (N := some 64) (v := undef) (a' := ?_) (bz 20 65535) rfl rfl (any_of HT_.out ze) (fun _ _ _ h => h) (Or.inr ⟨zae, rfl⟩) ?_ ?_; rotate_left; (simp only [Act.put, qa, qb, qc, i64_w, i32_w]; rfl)
            refine pure_ (i := 16) (N := some 65) (v := undef) (a' := ?_) (bz 20 131071) rfl rfl (any_of HT_.out ze) (fun _ _ _ h => h) (Or.inr ⟨zae, rfl⟩) ?_ ?_; rotate_left; (simp only [Act.put, qa, qb, qc, i64_w, i32_w]; rfl)
            refine pure_ (i := 17) (N := some 66) (v := undef) (a' := ?_) (bz 20 262143) rfl rfl (any_of HT_.out ze) (fun _ _ _ h => h) (Or.inr ⟨zae, rfl⟩) ?_ ?_; rotate_left; (simp only [Act.put, qa, qb, qc, i64_w, i32_w]; rfl)
            refine pure_ (i := 18) (N := some 67) (v := ?_) (a' := ?_) (bz 20 524287) rfl rfl (any_of HT_.out ze) (fun _ _ _ h => h) (Or.inl ⟨zae, ?_⟩) ?_ ?_; rotate_left; (intro w'; go_simp; with_reducible rfl); rotate_left; (simp only [Act.put, qa, qb, qc, i64_w, i32_w]; rfl)
            refine pure_ (i := 19) (N := some 68) (v := ?_) (a' := ?_) (bz 20 1048575) rfl rfl (any_of HT_.out ze) (fun _ _ _ h => h) (Or.inl ⟨zae, ?_⟩) ?_ ?_; rotate_left; (intro w'; go_simp; with_reducible rfl); rotate_left; (simp only [Act.put, qa, qb, qc, i64_w, i32_w]; rfl)
            refine done_ (done_of HT_.out ze) ?_
            try go_wp2
            go_meet
            case rel => exact ⟨_, (false), zc, H', ⟨zb2⟩, ⟨zs⟩, ⟨zy⟩, ⟨zav⟩, ⟨zo⟩⟩
          ·replace c29 := Bool.eq_false_iff.mpr c29
           subst c29
           have H1 : (impl_MetaOk.j2 k2 x3_2 l0_3 (l0_3.length : Int) x44_2 true a0_0 a0_1 a0_2 l0_3 ((rd_T60 l0_3 x44_2).f0) ((rd_T60 l0_3 x44_2).f1)) = some r := by rw [if_neg (show ¬ (false = true) by decide)] at H; exact H
           clear H
           have H := H1
           clear H1
           have H' := qo H
           clear H
           try go_wp2
           have n0_ : Aside0 (Kd.R (Kd.int .i64) 3 ((w25.setCell ⟨gb269, 0, none⟩ (.int .i64 ((rd_T60 l0_3 x44_2).f0))).setCell ⟨gb269, 1, none⟩ (.slice A268_1 ((rd_T60 l0_3 x44_2).f1).length c268_1)) w.heap.size (fun _ => True) u3 x3_2) := ⟨zcp⟩
           have n1_ : Aside0 (((w25.setCell ⟨gb269, 0, none⟩ (.int .i64 ((rd_T60 l0_3 x44_2).f0))).setCell ⟨gb269, 1, none⟩ (.slice A268_1 ((rd_T60 l0_3 x44_2).f1).length c268_1)).heap[gb261]? = some (.cells #[.int .i64 a0_0, .int .i64 a0_1, .int .i64 a0_2, .slice (some ad268) l0_3.length c0_3] 24 (0, 0))) := ⟨zan⟩
           have n2_ : Aside0 (((w25.setCell ⟨gb269, 0, none⟩ (.int .i64 ((rd_T60 l0_3 x44_2).f0))).setCell ⟨gb269, 1, none⟩ (.slice A268_1 ((rd_T60 l0_3 x44_2).f1).length c268_1)).heap[gb269]? = some (.cells #[.int .i64 ((rd_T60 l0_3 x44_2).f0), .slice A268_1 ((rd_T60 l0_3 x44_2).f1).length c268_1] 60 (0, 0))) := ⟨zai⟩
           have n3_ : Aside0 (Below w.heap.size w ((w25.setCell ⟨gb269, 0, none⟩ (.int .i64 ((rd_T60 l0_3 x44_2).f0))).setCell ⟨gb269, 1, none⟩ (.slice A268_1 ((rd_T60 l0_3 x44_2).f1).length c268_1))) := ⟨zo⟩
           (try clear HO_3)
           (try clear BK261)
           (try clear BK269)
           (try clear HB)
           generalize ((w25.setCell ⟨gb269, 0, none⟩ (.int .i64 ((rd_T60 l0_3 x44_2).f0))).setCell ⟨gb269, 1, none⟩ (.slice A268_1 ((rd_T60 l0_3 x44_2).f1).length c268_1)) = w40 at n0_ n1_ n2_ n3_ ⊢
           have HO_3 := n0_
           have BK261 := n1_
           have BK269 := n2_
           have HB := n3_
           clear n0_ n1_ n2_ n3_
           have n0_ := qo (Kd.R_drew HO_3.out)
           have n1_ := qo (qj BK261.out)
           have n2_ := qo (qj BK269.out)
           have n3_ := qo (qn HB.out)
           clear HO_3
           clear BK261
           clear BK269
           clear HB
           have HO_3 := n0_
           have BK261 := n1_
           have BK269 := n2_
           have HB := n3_
           clear n0_ n1_ n2_ n3_
           refine start_ (n := 20) (S := fun w' => w'.cell? ⟨gb269, 0, none⟩ = some (.int .i64 ((rd_T60 l0_3 x44_2).f0)) ∧ w'.cell? ⟨gb269, 1, none⟩ = some (.slice A268_1 ((rd_T60 l0_3 x44_2).f1).length c268_1) ∧ w'.cell? ⟨gb261, 0, none⟩ = some (.int .i64 a0_0) ∧ w'.cell? ⟨gb261, 1, none⟩ = some (.int .i64 a0_1) ∧ w'.cell? ⟨gb261, 2, none⟩ = some (.int .i64 a0_2) ∧ w'.cell? ⟨gb261, 3, none⟩ = some (.slice (some ad268) l0_3.length c0_3)) (ds := []) (bz 20 0) ze rfl rfl ⟨(qs BK269.out 0).trans rfl, (qs BK269.out 1).trans rfl, (qs BK261.out 0).trans rfl, (qs BK261.out 1).trans rfl, (qs BK261.out 2).trans rfl, (qs BK261.out 3).trans rfl⟩ (fun hHeld => ?_); refine with_tabW impl_MetaOk.tab7 impl_MetaOk.bits7 (fun HT_ HW_ => ?_)
           generalize w40.drew = w41 at HO_3 BK261 BK269 HB hHeld ⊢
           refine take_ (i := 0) (N := some 49) (v := ?_) (a' := ?_) (bz 20 1) rfl rfl (take_ofW HT_.out HW_.out ze) (fun _ _ _ h => h) (Or.inl ⟨zae, ?_⟩) hHeld ?_ ?_; rotate_left; (rintro w' ⟨s0, s1, s2, s3, s4, s5⟩; go_simp; with_reducible rfl); rotate_left; (simp only [Act.put, qa, qb, qc, i64_w, i32_w]; rfl)
           refine take_ (i := 1) (N := some 50) (v := ?_) (a' := ?_) (bz 20 3) rfl rfl (take_ofW HT_.out HW_.out ze) (fun _ _ _ h => h) (Or.inl ⟨zae, ?_⟩) hHeld ?_ ?_; rotate_left; (rintro w' ⟨s0, s1, s2, s3, s4, s5⟩; go_simp; with_reducible rfl); rotate_left; (simp only [Act.put, qa, qb, qc, i64_w, i32_w]; rfl)
           refine one_ (i := 2) (N := some 51) (bz 20 7) rfl rfl (one_of HT_.out ze) za7 (fun K hK => ?_)
           refine goes_ Try.func77 ze rfl #[.agg #[.int .i64 ((rd_T60 l0_3 x44_2).f0), .slice A268_1 ((rd_T60 l0_3 x44_2).f1).length c268_1], .agg #[.int .i64 a0_0, .int .i64 a0_1, .int .i64 a0_2, .slice (some ad268) l0_3.length c0_3]] zae rfl rfl zcm ?_
           with_reducible refine (impl_freeOk.calls k2 ((rd_T60 l0_3 x44_2).f0) _ _ ((rd_T60 l0_3 x44_2).f1) a0_0 a0_1 a0_2 _ _ l0_3 false _ ?side1 ?side2 ?side3 ?side4 A28.out).mono ?_
           (case side1 => repeat (first | exact (Kd.C_below HR268_1.out HB.out) | (with_reducible refine Kd.C_alloc ?_ _) | (with_reducible refine Kd.C_drewN ?_ _) | (with_reducible refine Kd.C_drew ?_)))
           (case side2 => exact HC268_1.out)
           (case side3 => repeat (first | exact (Kd.C_below HR0_3.out HB.out) | (with_reducible refine Kd.C_alloc ?_ _) | (with_reducible refine Kd.C_drewN ?_ _) | (with_reducible refine Kd.C_drew ?_)))
           (case side4 => exact HC0_3.out)
           rintro e w42 ⟨rfl, hb⟩
           refine ⟨_, rfl, ?_⟩
           have n0_ := qo (Kd.R_below zs hb)
           have n1_ := qo (qr (g := gb261) (o := .cells #[.int .i64 a0_0, .int .i64 a0_1, .int .i64 a0_2, .slice (some ad268) l0_3.length c0_3] 24 (0, 0)) zy hb)
           have n2_ := qo (qr (g := gb269) (o := .cells #[.int .i64 ((rd_T60 l0_3 x44_2).f0), .slice A268_1 ((rd_T60 l0_3 x44_2).f1).length c268_1] 60 (0, 0)) zav hb)
           have n3_ := qo (qq zo hb)
           clear HO_3
           clear BK261
           clear BK269
           clear HB
           have HO_3 := n0_
           have BK261 := n1_
           have BK269 := n2_
           have HB := n3_
           clear n0_ n1_ n2_ n3_
           (try clear hb)
           (try clear hb2)
           (try clear hk)
           (try clear hi)
           refine hK.out _ _ ⟨(qs BK269.out 0).trans rfl, (qs BK269.out 1).trans rfl, (qs BK261.out 0).trans rfl, (qs BK261.out 1).trans rfl, (qs BK261.out 2).trans rfl, (qs BK261.out 3).trans rfl⟩ (fun hHeld => ?_)
           clear hK K
           refine norm_ (a' := ?_) ?_ ?_; rotate_left; (show Act.put _ (some 51) _ = _; simp only [Act.put, qa, qb, qc, i64_w, i32_w]; rfl)
           refine pure_ (i := 3) (N := some 52) (v := ?_) (a' := ?_) (bz 20 15) rfl rfl (any_of HT_.out ze) (fun _ _ _ h => h) (Or.inl ⟨zae, ?_⟩) ?_ ?_; rotate_left; (intro w'; go_simp; with_reducible rfl); rotate_left; (simp only [Act.put, qa, qb, qc, i64_w, i32_w]; rfl)
           refine pure_ (i := 4) (N := some 53) (v := ?_) (a' := ?_) (bz 20 31) rfl rfl (any_of HT_.out ze) (fun _ _ _ h => h) (Or.inl ⟨zae, ?_⟩) ?_ ?_; rotate_left; (intro w'; go_simp; with_reducible rfl); rotate_left; (simp only [Act.put, qa, qb, qc, i64_w, i32_w]; rfl)
           refine pure_ (i := 5) (N := some 54) (v := undef) (a' := ?_) (bz 20 63) rfl rfl (any_of HT_.out ze) (fun _ _ _ h => h) (Or.inr ⟨zae, rfl⟩) ?_ ?_; rotate_left; (simp only [Act.put, qa, qb, qc, i64_w, i32_w]; rfl)
           refine pure_ (i := 6) (N := some 55) (v := undef) (a' := ?_) (bz 20 127) rfl rfl (any_of HT_.out ze) (fun _ _ _ h => h) (Or.inr ⟨zae, rfl⟩) ?_ ?_; rotate_left; (simp only [Act.put, qa, qb, qc, i64_w, i32_w]; rfl)
           refine pure_ (i := 7) (N := some 56) (v := undef) (a' := ?_) (bz 20 255) rfl rfl (any_of HT_.out ze) (fun _ _ _ h => h) (Or.inr ⟨zae, rfl⟩) ?_ ?_; rotate_left; (simp only [Act.put, qa, qb, qc, i64_w, i32_w]; rfl)
           refine pure_ (i := 8) (N := some 57) (v := undef) (a' := ?_) (bz 20 511) rfl rfl (any_of HT_.out ze) (fun _ _ _ h => h) (Or.inr ⟨zae, rfl⟩) ?_ ?_; rotate_left; (simp only [Act.put, qa, qb, qc, i64_w, i32_w]; rfl)
           refine pure_ (i := 9) (N := some 58) (v := undef) (a' := ?_) (bz 20 1023) rfl rfl (any_of HT_.out ze) (fun _ _ _ h => h) (Or.inr ⟨zae, rfl⟩) ?_ ?_; rotate_left; (simp only [Act.put, qa, qb, qc, i64_w, i32_w]; rfl)
           refine pure_ (i := 10) (N := some 59) (v := undef) (a' := ?_) (bz 20 2047) rfl rfl (any_of HT_.out ze) (fun _ _ _ h => h) (Or.inr ⟨zae, rfl⟩) ?_ ?_; rotate_left; (simp only [Act.put, qa, qb, qc, i64_w, i32_w]; rfl)
           refine pure_ (i := 11) (N := some 60) (v := undef) (a' := ?_) (bz 20 4095) rfl rfl (any_of HT_.out ze) (fun _ _ _ h => h) (Or.inr ⟨zae, rfl⟩) ?_ ?_; rotate_left; (simp only [Act.put, qa, qb, qc, i64_w, i32_w]; rfl)
           refine pure_ (i := 12) (N := some 61) (v := undef) (a' := ?_) (bz 20 8191) rfl rfl (any_of HT_.out ze) (fun _ _ _ h => h) (Or.inr ⟨zae, rfl⟩) ?_ ?_; rotate_left; (simp only [Act.put, qa, qb, qc, i64_w, i32_w]; rfl)
           refine pure_ (i := 13) (N := some 62) (v := undef) (a' := ?_) (bz 20 16383) rfl rfl (any_of HT_.out ze) (fun _ _ _ h => h) (Or.inr ⟨zae, rfl⟩) ?_ ?_; rotate_left; (simp only [Act.put, qa, qb, qc, i64_w, i32_w]; rfl)
           refine pure_ (i := 14) (N := some 63) (v := undef) (a' := ?_) (bz 20 32767) rfl rfl (any_of HT_.out ze) (fun _ _ _ h => h) (Or.inr ⟨zae, rfl⟩) ?_ ?_; rotate_left; (simp only [Act.put, qa, qb, qc, i64_w, i32_w]; rfl)
           refine pure_ (i := 15) (N := some 64) (v := undef) (a' := ?_) (bz 20 65535) rfl rfl (any_of HT_.out ze) (fun _ _ _ h => h) (Or.inr ⟨zae, rfl⟩) ?_ ?_; rotate_left; (simp only [Act.put, qa, qb, qc, i64_w, i32_w]; rfl)
           refine pure_ (i := 16) (N := some 65) (v := undef) (a' := ?_) (bz 20 131071) rfl rfl (any_of HT_.out ze) (fun _ _ _ h => h) (Or.inr ⟨zae, rfl⟩) ?_ ?_; rotate_left; (simp only [Act.put, qa, qb, qc, i64_w, i32_w]; rfl)
           refine pure_ (i := 17) (N := some 66) (v := undef) (a' := ?_) (bz 20 262143) rfl rfl (any_of HT_.out ze) (fun _ _ _ h => h) (Or.inr ⟨zae, rfl⟩) ?_ ?_; rotate_left; (simp only [Act.put, qa, qb, qc, i64_w, i32_w]; rfl)
           refine pure_ (i := 18) (N := some 67) (v := undef) (a' := ?_) (bz 20 524287) rfl rfl (any_of HT_.out ze) (fun _ _ _ h => h) (Or.inr ⟨zae, rfl⟩) ?_ ?_; rotate_left; (simp only [Act.put, qa, qb, qc, i64_w, i32_w]; rfl)
           refine pure_ (i := 19) (N := some 68) (v := ?_) (a' := ?_) (bz 20 1048575) rfl rfl (any_of HT_.out ze) (fun _ _ _ h => h) (Or.inl ⟨zae, ?_⟩) ?_ ?_; rotate_left; (intro w'; go_simp; with_reducible rfl); rotate_left; (simp only [Act.put, qa, qb, qc, i64_w, i32_w]; rfl)
           refine done_ (done_of HT_.out ze) ?_
           try go_wp2
           go_meet
           case rel => exact ⟨_, (true), zc, H', ⟨zb2⟩, ⟨zs⟩, ⟨zy⟩, ⟨zav⟩, ⟨zo⟩⟩
         case rest =>
          clear HC24
          (try clear c2); (try clear p2); (try clear q2); (try clear hx2); (try clear c3); (try clear c7); (try clear c26); (try clear c27); (try clear p27); (try clear q27); (try clear hx27); (try clear c29); (try clear c30); (try clear c30b0); (try clear c32); (try clear c33); (try clear c33b0); (try clear hx271_0); (try clear hx271_1); (try clear p271); (try clear q271)
          obtain ⟨kq, x68_23, rfl, HA, HJ23, HO_3, BK261, BK269, HB⟩ := hcut
          cases kq with
          | zero => exact absurd HA.out (by simp [impl_MetaOk.j2])
          | succ kj23 =>
           have H := HA.out
           clear HA
           simp only [impl_MetaOk.j2] at H
           by_cases c43 : x68_23 = true
           ·subst c43
            have H1 : (some false) = some r := by rw [if_pos rfl] at H; exact H
            clear H
            have H := H1
            clear H1
            obtain rfl := Option.some.inj H
            go_wp2
            go_ret
            exact ⟨zd, zo⟩
           ·replace c43 := Bool.eq_false_iff.mpr c43
            subst c43
            have H1 : (impl_MetaOk.l1 kj23 x3_2 l0_3 (l0_3.length : Int) x44_2 ((rd_T60 l0_3 x44_2).f1) (((rd_T60 l0_3 x44_2).f1).length : Int) 0 a0_0 a0_1 a0_2 l0_3) = some r := by rw [if_neg (show ¬ (false = true) by decide)] at H; exact H
            clear H
            have H := H1
            clear H1
            have H' := qo H
            clear H
            have hnb44 := NB269_261.out
            have hnc44 := NB261_269.out
            have hcz45_0 : wc.cell? ⟨gb269, 0, none⟩ = some (.int .i64 ((rd_T60 l0_3 x44_2).f0)) := (qs BK269.out 0).trans rfl
            have hcz45_1 : wc.cell? ⟨gb269, 1, none⟩ = some (.slice A268_1 ((rd_T60 l0_3 x44_2).f1).length c268_1) := (qs BK269.out 1).trans rfl
            have hfz45_0 := qu BK269.out 0
            have hfz45_1 := qu BK269.out 1
            go_wp2
            go_loopg [3, 72] kj23 (fun kq v3 v72 w' => ∃ (x3_4 : List Int) (x72_4 : Int), v72 = .int .i64 x72_4 ∧ Aside0 (impl_MetaOk.l1 kq x3_4 l0_3 (l0_3.length : Int) x44_2 ((rd_T60 l0_3 x44_2).f1) (((rd_T60 l0_3 x44_2).f1).length : Int) x72_4 a0_0 a0_1 a0_2 l0_3 = some r) ∧ Aside0 (kq ≤ kj23) ∧ Aside0 (Kd.R (Kd.int .i64) 3 w' w.heap.size (fun _ => True) v3 x3_4) ∧ Aside0 (w'.heap[gb261]? = some (.cells #[.int .i64 a0_0, .int .i64 a0_1, .int .i64 a0_2, (.slice (some ad268) l0_3.length c0_3)] 24 (0, 0))) ∧ Aside0 (w'.heap[gb269]? = some (.cells #[.int .i64 ((rd_T60 l0_3 x44_2).f0), (.slice A268_1 ((rd_T60 l0_3 x44_2).f1).length c268_1)] 60 (0, 0))) ∧ Aside0 (Below w.heap.size w w'))
            case atStart => exact ⟨(x3_2), (0), zc, H', ⟨Nat.le_refl _⟩, ⟨zs⟩, ⟨zy⟩, ⟨zav⟩, ⟨zo⟩⟩
            case round =>
             clear H'
             (try clear c2); (try clear p2); (try clear q2); (try clear hx2); (try clear c3); (try clear c4); (try clear c7); (try clear c26); (try clear c27); (try clear p27); (try clear q27); (try clear hx27); (try clear c29); (try clear c30); (try clear c30b0); (try clear c32); (try clear c33); (try clear c33b0); (try clear c43); (try clear c44); (try clear hcz45_0); (try clear hcz45_1); (try clear hfz45_0); (try clear hfz45_1); (try clear hx271_0); (try clear hx271_1); (try clear p2); (try clear p27); (try clear p271); (try clear q2); (try clear q27); (try clear q271)
             obtain ⟨x3_4, x72_4, rfl, HA, HK4, HO_3, BK261, BK269, HB⟩ := hrel
             cases gk with
             | zero => exact absurd HA.out (by simp [impl_MetaOk.l1])
             | succ k4 =>
              have H := HA.out
              clear HA
              simp only [impl_MetaOk.l1] at H
              by_cases c46 : x72_4 < (((rd_T60 l0_3 x44_2).f1).length : Int)
              ·rw [if_pos c46] at H
               have c46b0 : decide (x72_4 < (((rd_T60 l0_3 x44_2).f1).length : Int)) = true := decide_eq_true c46
               clear c46
               by_cases c47 : 0 ≤ x72_4
               ·rw [if_pos c47] at H
                have c47b0 : decide (0 ≤ x72_4) = true := decide_eq_true c47
                clear c47
                by_cases c48 : x72_4 < (((rd_T60 l0_3 x44_2).f1).length : Int)
                ·rw [if_pos c48] at H
                 have c48b0 : decide (x72_4 < (((rd_T60 l0_3 x44_2).f1).length : Int)) = true := decide_eq_true c48
                 clear c48
                 replace H := Option.bind_eq_some_iff.mp H
                 obtain ⟨t273, A490, H⟩ := H
                 replace H : (if t273 = true then (some false) else (if x3_4.length < 17592186044416 then (impl_MetaOk.l1 k4 (x3_4 ++ [rd ((rd_T60 l0_3 x44_2).f1) x72_4]) l0_3 (l0_3.length : Int) x44_2 ((rd_T60 l0_3 x44_2).f1) (((rd_T60 l0_3 x44_2).f1).length : Int) (wrap64 (x72_4 + 1)) a0_0 a0_1 a0_2 l0_3) else (none))) = some r := H
                 have A49 := qo A490
                 clear A490
                 by_cases c50 : t273 = true
                 ·subst c50
                  have H1 : (some false) = some r := by rw [if_pos rfl] at H; exact H
                  clear H
                  have H := H1
                  clear H1
                  obtain rfl := Option.some.inj H
                  have p272 : 0 ≤ (x72_4 : Int) := of_decide_eq_true zb
                  have q272 : x72_4 < (((rd_T60 l0_3 x44_2).f1).length : Int) := of_decide_eq_true zb
                  obtain ⟨ad272, e272, hx272_0⟩ := Kd.at_int HR268_1.out x72_4 p272 q272
                  cases e272
                  replace hx272_0 := (HB.out.cell (World.block_lt_of_cell? w _ hx272_0)).trans hx272_0
                  replace p272 := eq_true p272
                  replace q272 := eq_true q272
                  obtain ⟨Ao51, co51, eo51⟩ := Kd.R_slice HO_3.out
                  subst eo51
                  go_wp2_with (first | ((with_reducible refine gate_callee (f := 78) rfl ?_); refine goesL_ (some 78) rfl rfl Try.func78 ze rfl #[.slice Ao51 x3_4.length co51, .int .i64 (rd ((rd_T60 l0_3 x44_2).f1) x72_4)] rfl zcm ?_; (with_reducible refine (slices_Contains_int_int.calls k4 _ _ x3_4 (rd ((rd_T60 l0_3 x44_2).f1) x72_4) true _ ?side1 ?side2 A49.out).mono ?_); (case side1 => repeat (first | exact (Kd.R_reads' HO_3.out).2.2 | (with_reducible refine Kd.C_alloc ?_ _) | (with_reducible refine Kd.C_drewN ?_ _) | (with_reducible refine Kd.C_drew ?_))); (case side2 => exact (Kd.R_reads' HO_3.out).2.1); rintro e w' ⟨rfl, ⟨nd, rfl⟩⟩; refine ⟨_, rfl, ?_⟩))
                  go_ret
                  exact ⟨zd, zo⟩
                 ·replace c50 := Bool.eq_false_iff.mpr c50
                  subst c50
                  have H1 : (if x3_4.length < 17592186044416 then (impl_MetaOk.l1 k4 (x3_4 ++ [rd ((rd_T60 l0_3 x44_2).f1) x72_4]) l0_3 (l0_3.length : Int) x44_2 ((rd_T60 l0_3 x44_2).f1) (((rd_T60 l0_3 x44_2).f1).length : Int) (wrap64 (x72_4 + 1)) a0_0 a0_1 a0_2 l0_3) else (none)) = some r := by rw [if_neg (show ¬ (false = true) by decide)] at H; exact H
                  clear H
                  have H := H1
                  clear H1
                  by_cases c52 : x3_4.length < 17592186044416
                  ·rw [if_pos c52] at H
                   have LMc52 := qo c52
                   clear c52
                   obtain ⟨y274, hy274⟩ : ∃ y_ : List Int, y_ = (x3_4 ++ [rd ((rd_T60 l0_3 x44_2).f1) x72_4]) := ⟨_, rfl⟩
                   replace H : (impl_MetaOk.l1 k4 y274 l0_3 (l0_3.length : Int) x44_2 ((rd_T60 l0_3 x44_2).f1) (((rd_T60 l0_3 x44_2).f1).length : Int) (wrap64 (x72_4 + 1)) a0_0 a0_1 a0_2 l0_3) = some r := by first | (rw [hy274]; with_reducible exact H) | (have H2_ := (Option.bind_some _ _).symm.trans H; rw [hy274]; with_reducible exact H2_) | (have H2_ := (Option.bind_some _ _).symm.trans H; with_reducible exact H2_) | with_reducible exact H | (rw [hy274]; exact H) | exact H
                   have Ny274 := qo hy274
                   clear hy274
                   have H' := qo H
                   clear H
                   have p272 : 0 ≤ (x72_4 : Int) := of_decide_eq_true zb
                   have q272 : x72_4 < (((rd_T60 l0_3 x44_2).f1).length : Int) := of_decide_eq_true zb
                   obtain ⟨ad272, e272, hx272_0⟩ := Kd.at_int HR268_1.out x72_4 p272 q272
                   cases e272
                   replace hx272_0 := (HB.out.cell (World.block_lt_of_cell? w _ hx272_0)).trans hx272_0
                   replace p272 := eq_true p272
                   replace q272 := eq_true q272
                   obtain ⟨Ao53, co53, eo53⟩ := Kd.R_slice HO_3.out
                   subst eo53
                   go_wp2_with (first | ((with_reducible refine gate_callee (f := 78) rfl ?_); refine goesL_ (some 78) rfl rfl Try.func78 ze rfl #[.slice Ao53 x3_4.length co53, .int .i64 (rd ((rd_T60 l0_3 x44_2).f1) x72_4)] rfl zcm ?_; (with_reducible refine (slices_Contains_int_int.calls k4 _ _ x3_4 (rd ((rd_T60 l0_3 x44_2).f1) x72_4) false _ ?side1 ?side2 A49.out).mono ?_); (case side1 => repeat (first | exact (Kd.R_reads' HO_3.out).2.2 | (with_reducible refine Kd.C_alloc ?_ _) | (with_reducible refine Kd.C_drewN ?_ _) | (with_reducible refine Kd.C_drew ?_))); (case side2 => exact (Kd.R_reads' HO_3.out).2.1); rintro e w' ⟨rfl, ⟨nd, rfl⟩⟩; refine ⟨_, rfl, ?_⟩) | ((with_reducible refine gate_builtin (b := .append) (xs := #[.tmp 79, .tmp 81]) rfl ?_); (try (refine gate_guard zae ?_; dsimp only)); at_builtin; refine Kd.R_append (Kd.int .i64) (w0 := w) w.heap.size rfl (.tmp 79) (.tmp 81) 58 3 (.int .i64 0) 8 rfl Try.underlying58 info3 rfl za7 zck (.slice Ao53 x3_4.length co53) x3_4 (rd ((rd_T60 l0_3 x44_2).f1) x72_4) [.int .i64 (rd ((rd_T60 l0_3 x44_2).f1) x72_4)] (fun _ => True) (fun _ => False) rfl rfl ?aP (fun _ hk => hk.elim) ?aF ?aO ?aB ?aS ?aL ?_; (case aP => exact rfl); (case aB => exact zo); (case aF => exact (fun _ _ => trivial)); (case aO => exact zs); (case aS => exact (qp zo)); (case aL => have := LMc52.out; omega); intro v275 w54 ho hb hg hat; rw [← Ny274.out] at ho; have n0_ := qo (blk_grown (g := gb261) (o := .cells #[.int .i64 a0_0, .int .i64 a0_1, .int .i64 a0_2, .slice (some ad268) l0_3.length c0_3] 24 (0, 0)) zy hg (Kd.R_ne HO_3.out BK261.out za7)); have n1_ := qo (blk_grown (g := gb269) (o := .cells #[.int .i64 ((rd_T60 l0_3 x44_2).f0), .slice (some ad272) ((rd_T60 l0_3 x44_2).f1).length c268_1] 60 (0, 0)) zav hg (Kd.R_ne HO_3.out BK269.out za7)); have n2_ := qo (hb); have n3_ := qo (ho); clear BK261; clear BK269; clear HB; clear HO_3; have BK261 := n0_; have BK269 := n1_; have HB := n2_; have HO276 := n3_; clear n0_ n1_ n2_ n3_; clear ho hb hg hat))
                   go_roundg k4
                   case measure => have := HJ1.out; have := HK2.out; have := HJ23.out; have := HK4.out; omega
                   case rel => exact ⟨(y274), (wrap64 (x72_4 + 1)), zc, H', ⟨by have := HJ1.out; have := HK2.out; have := HJ23.out; have := HK4.out; omega⟩, ⟨by (with_reducible repeat (first | apply Kd.R_alloc | apply Kd.R_drewN | apply Kd.R_drew)); exact HO276.out⟩, ⟨zy⟩, ⟨zav⟩, ⟨zo⟩⟩
                  ·rw [if_neg c52] at H
                   exact absurd H zbh
                ·rw [if_neg c48] at H
                 exact absurd H zbh
               ·rw [if_neg c47] at H
                exact absurd H zbh
              ·rw [if_neg c46] at H
               have c46b0 : decide (x72_4 < (((rd_T60 l0_3 x44_2).f1).length : Int)) = false := decide_eq_false c46
               clear c46
               have H' := qo H
               clear H
               go_wp2
               go_roundg k4
               case measure => have := HJ1.out; have := HK2.out; have := HJ23.out; have := HK4.out; omega
               case rel => exact ⟨(x3_4), (wrap64 (x44_2 + 1)), zc, H', ⟨by have := HJ1.out; have := HK2.out; have := HJ23.out; have := HK4.out; omega⟩, ⟨zs⟩, ⟨zy⟩, ⟨zo⟩⟩
        ·rw [if_neg c23] at H
         exact absurd H zbh
       ·rw [if_neg c22] at H
        exact absurd H zbh
      ·rw [if_neg c21] at H
       have c21b0 : decide (x44_2 < (l0_3.length : Int)) = false := decide_eq_false c21
       clear c21
       obtain rfl := Option.some.inj H
       go_wp2
       go_ret
       exact ⟨zd, z0⟩

end Go.Proofs.Yteokilffbcbllaa.VFnExactBestMeta
