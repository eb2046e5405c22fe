-- Written by a program of this repo (wip/myprint.py), over the kit's print; functions that the print does not take stand in it by hand-proved contracts.
import Derived.Test.YteokilffbcbllaaVFnExactBestMetax0
import Derived.Test.YteokilffbcbllaaVFnExactBestMetax2
namespace Go.Proofs.Yteokilffbcbllaa.VFnExactBestMeta
open Go.RowKit Go.Proofs.YteokilffbcbllaaW.PrintWords Go.Proofs.YteokilffbcbllaaW.PrintLast Go.Proofs.YteokilffbcbllaaW.PrintMore
attribute [local go_sem] max2_int min2_int max_two min_two max_three min_three max_four min_four   -- for this text's walks alone
attribute [local go_sem high] str_leq str_gtr str_geq str_lss
set_option linter.unusedVariables false
set_option linter.unusedSimpArgs false

/-! ### spec_MetaOk: function 46 -/
mutual
def spec_MetaOk.j0 : Nat → Bool → Int → Int → Int → List (S60) → Option (Bool)
 | 0, _, _, _, _, _ => none
 | k + 1, x36, x128000, x128001, x128002, x128003 => if x36 = true then (some false) else (spec_MetaOk.l0 k (([x128001] : List Int)) 0 x128000 x128001 x128002 x128003)
def spec_MetaOk.l0 : Nat → List Int → Int → Int → Int → Int → List (S60) → Option (Bool)
 | 0, _, _, _, _, _, _ => none
 | k + 1, x3, x4, x128000, x128001, x128002, x128003 => if x4 < (x128003.length : Int) then (if 0 ≤ x4 then ((spec_l01In.f ((rd_T60 x128003 x4).f0) 1 x128000).bind fun t136 => (if t136 = true then (if x4 > 0 then (if 0 ≤ (wrap64 (x4 - 1)) then (if (wrap64 (x4 - 1)) < (x128003.length : Int) then (if ((rd_T60 x128003 (wrap64 (x4 - 1))).f0) ≥ ((rd_T60 x128003 x4).f0) then (spec_MetaOk.j2 k x3 x4 true x128000 x128001 x128002 x128003 ((rd_T60 x128003 x4).f0) ((rd_T60 x128003 x4).f1)) else ((spec_l01In.f (((rd_T60 x128003 x4).f1).length : Int) 1 40).bind fun t138 => (spec_MetaOk.j2 k x3 x4 (!t138) x128000 x128001 x128002 x128003 ((rd_T60 x128003 x4).f0) ((rd_T60 x128003 x4).f1)))) else (none)) else (none)) else ((spec_l01In.f (((rd_T60 x128003 x4).f1).length : Int) 1 40).bind fun t139 => (spec_MetaOk.j2 k x3 x4 (!t139) x128000 x128001 x128002 x128003 ((rd_T60 x128003 x4).f0) ((rd_T60 x128003 x4).f1)))) else (spec_MetaOk.j2 k x3 x4 true x128000 x128001 x128002 x128003 ((rd_T60 x128003 x4).f0) ((rd_T60 x128003 x4).f1)))) else (none)) else (some true)
def spec_MetaOk.j2 : Nat → List Int → Int → Bool → Int → Int → Int → List (S60) → Int → List Int → Option (Bool)
 | 0, _, _, _, _, _, _, _, _, _ => none
 | k + 1, x3, x4, x80, x128000, x128001, x128002, x128003, x136000, x136001 => if x80 = true then (some false) else (spec_MetaOk.l1 k x3 x4 0 x128000 x128001 x128002 x128003 x136000 x136001)
def spec_MetaOk.l1 : Nat → List Int → Int → Int → Int → Int → Int → List (S60) → Int → List Int → Option (Bool)
 | 0, _, _, _, _, _, _, _, _, _ => none
 | k + 1, x3, x4, x6, x128000, x128001, x128002, x128003, x136000, x136001 => if x6 < (x136001.length : Int) then (if 0 ≤ x6 then ((spec_l01In.f (rd x136001 x6) 2 (wrap64 (x128002 - 1))).bind fun t141 => (if t141 = true then (if x6 > 0 then (if 0 ≤ (wrap64 (x6 - 1)) then (if (wrap64 (x6 - 1)) < (x136001.length : Int) then (if (rd x136001 (wrap64 (x6 - 1))) ≥ (rd x136001 x6) then (spec_MetaOk.j4 k x3 x4 x6 true x128000 x128001 x128002 x128003 x136000 x136001) else ((spec_l06In.f k x3 (rd x136001 x6)).bind fun t145 => (spec_MetaOk.j4 k x3 x4 x6 t145 x128000 x128001 x128002 x128003 x136000 x136001))) else (none)) else (none)) else ((spec_l06In.f k x3 (rd x136001 x6)).bind fun t147 => (spec_MetaOk.j4 k x3 x4 x6 t147 x128000 x128001 x128002 x128003 x136000 x136001))) else (spec_MetaOk.j4 k x3 x4 x6 true x128000 x128001 x128002 x128003 x136000 x136001))) else (none)) else (spec_MetaOk.l0 k x3 (wrap64 (x4 + 1)) x128000 x128001 x128002 x128003)
def spec_MetaOk.j4 : Nat → List Int → Int → Int → Bool → Int → Int → Int → List (S60) → Int → List Int → Option (Bool)
 | 0, _, _, _, _, _, _, _, _, _, _ => none
 | k + 1, x3, x4, x6, x124, x128000, x128001, x128002, x128003, x136000, x136001 => if x124 = true then (some false) else (if 0 ≤ x6 then (if x6 < (x136001.length : Int) then (if x3.length < 17592186044416 then (spec_MetaOk.l1 k (x3 ++ [rd x136001 x6]) x4 (wrap64 (x6 + 1)) x128000 x128001 x128002 x128003 x136000 x136001) else (none)) else (none)) else (none))
end
def spec_MetaOk.f (k : Nat) (a0_0 : Int) (a0_1 : Int) (a0_2 : Int) (l0_3 : List (S60)) : Option (Bool) := (spec_l01In.f a0_0 0 100000).bind fun t128 => (if t128 = true then ((spec_l01In.f a0_2 2 40).bind fun t129 => (if t129 = true then (if a0_1 = 0 then (spec_MetaOk.j0 k (decide ((l0_3.length : Int) > 20)) a0_0 a0_1 a0_2 l0_3) else ((spec_l01In.f a0_1 2 (wrap64 (a0_2 - 1))).bind fun t130 => (if t130 = true then (spec_MetaOk.j0 k (decide ((l0_3.length : Int) > 20)) a0_0 a0_1 a0_2 l0_3) else (spec_MetaOk.j0 k true a0_0 a0_1 a0_2 l0_3)))) else (spec_MetaOk.j0 k true a0_0 a0_1 a0_2 l0_3))) else (spec_MetaOk.j0 k true a0_0 a0_1 a0_2 l0_3))
theorem spec_MetaOk.mono_l : ∀ k, (∀ y0 y1 y2 y3 y4, LeO (spec_MetaOk.j0 k y0 y1 y2 y3 y4) (spec_MetaOk.j0 (k + 1) y0 y1 y2 y3 y4)) ∧ (∀ y0 y1 y2 y3 y4 y5, LeO (spec_MetaOk.l0 k y0 y1 y2 y3 y4 y5) (spec_MetaOk.l0 (k + 1) y0 y1 y2 y3 y4 y5)) ∧ (∀ y0 y1 y2 y3 y4 y5 y6 y7 y8, LeO (spec_MetaOk.j2 k y0 y1 y2 y3 y4 y5 y6 y7 y8) (spec_MetaOk.j2 (k + 1) y0 y1 y2 y3 y4 y5 y6 y7 y8)) ∧ (∀ y0 y1 y2 y3 y4 y5 y6 y7 y8, LeO (spec_MetaOk.l1 k y0 y1 y2 y3 y4 y5 y6 y7 y8) (spec_MetaOk.l1 (k + 1) y0 y1 y2 y3 y4 y5 y6 y7 y8)) ∧ (∀ y0 y1 y2 y3 y4 y5 y6 y7 y8 y9, LeO (spec_MetaOk.j4 k y0 y1 y2 y3 y4 y5 y6 y7 y8 y9) (spec_MetaOk.j4 (k + 1) y0 y1 y2 y3 y4 y5 y6 y7 y8 y9))
 | 0 => ⟨fun _ _ _ _ _ r h => by simp [spec_MetaOk.j0] at h, fun _ _ _ _ _ _ r h => by simp [spec_MetaOk.l0] at h, fun _ _ _ _ _ _ _ _ _ r h => by simp [spec_MetaOk.j2] at h, fun _ _ _ _ _ _ _ _ _ r h => by simp [spec_MetaOk.l1] at h, fun _ _ _ _ _ _ _ _ _ _ r h => by simp [spec_MetaOk.j4] at h⟩
 | k + 1 => by
  obtain ⟨ih0, ih1, ih2, ih3, ih4⟩ := spec_MetaOk.mono_l k
  refine ⟨?_, ?_, ?_, ?_, ?_⟩
  ·intro y0 y1 y2 y3 y4
   unfold spec_MetaOk.j0
   repeat' first
   | (with_reducible exact ih0 _ _ _ _ _)
   | (with_reducible exact ih1 _ _ _ _ _ _)
   | (with_reducible exact ih2 _ _ _ _ _ _ _ _ _)
   | (with_reducible exact ih3 _ _ _ _ _ _ _ _ _)
   | (with_reducible exact ih4 _ _ _ _ _ _ _ _ _ _)
   | (with_reducible exact spec_l06In.mono _ _ _)
   | (with_reducible exact LeO.refl _)
   | (with_reducible exact LeO.none _)
   | (with_reducible refine LeO.ite ?_ ?_)
   | (with_reducible refine LeO.bind ?_ (fun _ => ?_))
   | exact ih0 _ _ _ _ _
   | exact ih1 _ _ _ _ _ _
   | exact ih2 _ _ _ _ _ _ _ _ _
   | exact ih3 _ _ _ _ _ _ _ _ _
   | exact ih4 _ _ _ _ _ _ _ _ _ _
   | exact spec_l06In.mono _ _ _
   | exact LeO.none _
   | refine LeO.ite ?_ ?_
   | refine LeO.bind ?_ (fun _ => ?_)
  ·intro y0 y1 y2 y3 y4 y5
   unfold spec_MetaOk.l0
   repeat' first
   | (with_reducible exact ih0 _ _ _ _ _)
   | (with_reducible exact ih1 _ _ _ _ _ _)
   | (with_reducible exact ih2 _ _ _ _ _ _ _ _ _)
   | (with_reducible exact ih3 _ _ _ _ _ _ _ _ _)
   | (with_reducible exact ih4 _ _ _ _ _ _ _ _ _ _)
   | (with_reducible exact spec_l06In.mono _ _ _)
   | (with_reducible exact LeO.refl _)
   | (with_reducible exact LeO.none _)
   | (with_reducible refine LeO.ite ?_ ?_)
   | (with_reducible refine LeO.bind ?_ (fun _ => ?_))
   | exact ih0 _ _ _ _ _
   | exact ih1 _ _ _ _ _ _
   | exact ih2 _ _ _ _ _ _ _ _ _
   | exact ih3 _ _ _ _ _ _ _ _ _
   | exact ih4 _ _ _ _ _ _ _ _ _ _
   | exact spec_l06In.mono _ _ _
   | exact LeO.none _
   | refine LeO.ite ?_ ?_
   | refine LeO.bind ?_ (fun _ => ?_)
  ·intro y0 y1 y2 y3 y4 y5 y6 y7 y8
   unfold spec_MetaOk.j2
   repeat' first
   | (with_reducible exact ih0 _ _ _ _ _)
   | (with_reducible exact ih1 _ _ _ _ _ _)
   | (with_reducible exact ih2 _ _ _ _ _ _ _ _ _)
   | (with_reducible exact ih3 _ _ _ _ _ _ _ _ _)
   | (with_reducible exact ih4 _ _ _ _ _ _ _ _ _ _)
   | (with_reducible exact spec_l06In.mono _ _ _)
   | (with_reducible exact LeO.refl _)
   | (with_reducible exact LeO.none _)
   | (with_reducible refine LeO.ite ?_ ?_)
   | (with_reducible refine LeO.bind ?_ (fun _ => ?_))
   | exact ih0 _ _ _ _ _
   | exact ih1 _ _ _ _ _ _
   | exact ih2 _ _ _ _ _ _ _ _ _
   | exact ih3 _ _ _ _ _ _ _ _ _
   | exact ih4 _ _ _ _ _ _ _ _ _ _
   | exact spec_l06In.mono _ _ _
   | exact LeO.none _
   | refine LeO.ite ?_ ?_
   | refine LeO.bind ?_ (fun _ => ?_)
  ·intro y0 y1 y2 y3 y4 y5 y6 y7 y8
   unfold spec_MetaOk.l1
   repeat' first
   | (with_reducible exact ih0 _ _ _ _ _)
   | (with_reducible exact ih1 _ _ _ _ _ _)
   | (with_reducible exact ih2 _ _ _ _ _ _ _ _ _)
   | (with_reducible exact ih3 _ _ _ _ _ _ _ _ _)
   | (with_reducible exact ih4 _ _ _ _ _ _ _ _ _ _)
   | (with_reducible exact spec_l06In.mono _ _ _)
   | (with_reducible exact LeO.refl _)
   | (with_reducible exact LeO.none _)
   | (with_reducible refine LeO.ite ?_ ?_)
   | (with_reducible refine LeO.bind ?_ (fun _ => ?_))
   | exact ih0 _ _ _ _ _
   | exact ih1 _ _ _ _ _ _
   | exact ih2 _ _ _ _ _ _ _ _ _
   | exact ih3 _ _ _ _ _ _ _ _ _
   | exact ih4 _ _ _ _ _ _ _ _ _ _
   | exact spec_l06In.mono _ _ _
   | exact LeO.none _
   | refine LeO.ite ?_ ?_
   | refine LeO.bind ?_ (fun _ => ?_)
  ·intro y0 y1 y2 y3 y4 y5 y6 y7 y8 y9
   unfold spec_MetaOk.j4
   repeat' first
   | (with_reducible exact ih0 _ _ _ _ _)
   | (with_reducible exact ih1 _ _ _ _ _ _)
   | (with_reducible exact ih2 _ _ _ _ _ _ _ _ _)
   | (with_reducible exact ih3 _ _ _ _ _ _ _ _ _)
   | (with_reducible exact ih4 _ _ _ _ _ _ _ _ _ _)
   | (with_reducible exact spec_l06In.mono _ _ _)
   | (with_reducible exact LeO.refl _)
   | (with_reducible exact LeO.none _)
   | (with_reducible refine LeO.ite ?_ ?_)
   | (with_reducible refine LeO.bind ?_ (fun _ => ?_))
   | exact ih0 _ _ _ _ _
   | exact ih1 _ _ _ _ _ _
   | exact ih2 _ _ _ _ _ _ _ _ _
   | exact ih3 _ _ _ _ _ _ _ _ _
   | exact ih4 _ _ _ _ _ _ _ _ _ _
   | exact spec_l06In.mono _ _ _
   | exact LeO.none _
   | refine LeO.ite ?_ ?_
   | refine LeO.bind ?_ (fun _ => ?_)
theorem spec_MetaOk.mono : ∀ a0 a1 a2 a3 k, LeO (spec_MetaOk.f k a0 a1 a2 a3) (spec_MetaOk.f (k + 1) a0 a1 a2 a3) := by
 intro a0 a1 a2 a3 k
 obtain ⟨ih0, ih1, ih2, ih3, ih4⟩ := spec_MetaOk.mono_l k
 unfold spec_MetaOk.f
 repeat' first
   | (with_reducible exact ih0 _ _ _ _ _)
   | (with_reducible exact ih1 _ _ _ _ _ _)
   | (with_reducible exact ih2 _ _ _ _ _ _ _ _ _)
   | (with_reducible exact ih3 _ _ _ _ _ _ _ _ _)
   | (with_reducible exact ih4 _ _ _ _ _ _ _ _ _ _)
   | (with_reducible exact spec_l06In.mono _ _ _)
   | (with_reducible exact LeO.refl _)
   | (with_reducible exact LeO.none _)
   | (with_reducible refine LeO.ite ?_ ?_)
   | (with_reducible refine LeO.bind ?_ (fun _ => ?_))
   | exact ih0 _ _ _ _ _
   | exact ih1 _ _ _ _ _ _
   | exact ih2 _ _ _ _ _ _ _ _ _
   | exact ih3 _ _ _ _ _ _ _ _ _
   | exact ih4 _ _ _ _ _ _ _ _ _ _
   | exact spec_l06In.mono _ _ _
   | exact LeO.none _
   | refine LeO.ite ?_ ?_
   | refine LeO.bind ?_ (fun _ => ?_)
def spec_MetaOk.T8 : Bool × List (List Nat × List Nat) := (true, [([], []), ([0], [0]), ([], []), ([2], [2]), ([1, 3], [1, 3]), ([4], [4]), ([5, 4], [5]), ([6], [6]), ([7, 6], [6, 7]), ([8, 6, 6], [6, 8]), ([9], [9]), ([10, 9], [9, 10]), ([9], [9]), ([12, 9], [9, 12]), ([11, 13, 9], [9, 11, 13]), ([14, 9], [9, 14]), ([15, 9], [9, 15]), ([9], [9]), ([17, 9], [9, 17]), ([16, 18, 9], [9, 16, 18]), ([9, 19, 6], [6, 9, 19]), ([6, 20], [6, 20]), ([21, 9], [21]), ([22], [22]), ([23, 22], [22, 23]), ([24, 22], [22, 24]), ([25, 22, 22], [22, 25]), ([26, 22], [22, 26]), ([22, 27], [22, 27])])
def spec_MetaOk.B8 : List Nat := [0, 1, 0, 4, 15, 31, 63, 127, 255, 511, 1023, 2047, 1023, 5119, 16383, 32767, 65535, 1023, 132095, 524287, 1048575, 2097151, 4194303, 8388607, 16777215, 33554431, 67108863, 134217727, 268435455]
theorem spec_MetaOk.tab8 : rtab .any (opsOf Try.f46 8) = spec_MetaOk.T8 := by kernel_rfl
theorem spec_MetaOk.bits8 : waitsOk spec_MetaOk.T8.2 spec_MetaOk.B8 = true := by kernel_rfl
def spec_MetaOk.T13 : Bool × List (List Nat × List Nat) := (true, [([], []), ([0], [0]), ([], []), ([1, 2], [1, 2]), ([3], [3]), ([], []), ([5], [5]), ([6], [6]), ([4, 7], [4, 7]), ([8], [8]), ([9, 8], [9]), ([10], [10]), ([11, 10], [10, 11]), ([12, 10, 10], [10, 12]), ([13], [13]), ([14, 13], [13, 14]), ([13], [13]), ([16, 13], [13, 16]), ([15, 17, 13], [13, 15, 17]), ([18, 13], [13, 18]), ([13], [13]), ([20, 13], [13, 20]), ([13], [13]), ([21, 22, 13], [13, 21, 22]), ([23, 13], [13, 23]), ([19, 24, 13], [13, 19, 24]), ([13, 25, 10], [10, 13, 25]), ([10, 26], [10, 26]), ([27, 13], [27]), ([28], [28]), ([28], [28]), ([30, 28], [28, 30]), ([28], [28]), ([31, 32, 28], [28, 31, 32]), ([33, 28], [28, 33]), ([29, 34, 28, 28], [28, 29, 34]), ([28, 35], [28, 35])])
def spec_MetaOk.B13 : List Nat := [0, 1, 0, 7, 15, 0, 32, 96, 255, 511, 1023, 2047, 4095, 8191, 16383, 32767, 16383, 81919, 262143, 524287, 16383, 1064959, 16383, 7356415, 15745023, 33554431, 67108863, 134217727, 268435455, 536870911, 536870911, 1610612735, 536870911, 8053063679, 16642998271, 34359738367, 68719476735]
theorem spec_MetaOk.tab13 : rtab .any (opsOf Try.f46 13) = spec_MetaOk.T13 := by kernel_rfl
theorem spec_MetaOk.bits13 : waitsOk spec_MetaOk.T13.2 spec_MetaOk.B13 = true := by kernel_rfl
set_option maxHeartbeats 8000000 in
set_option maxRecDepth 100000 in
theorem spec_MetaOk.calls (k : Nat) (a0_0 : Int) (a0_1 : Int) (a0_2 : Int) (A0_3 : Option Addr) (c0_3 : Nat) (l0_3 : List (S60)) (r : Bool) (w : World) (hr0_3 : Kd.C k60 w A0_3 l0_3.length l0_3) (hc0_3 : l0_3.length ≤ c0_3) (h : spec_MetaOk.f k a0_0 a0_1 a0_2 l0_3 = some r) :
  Calls Try.prog 46 #[.agg #[.int .i64 a0_0, .int .i64 a0_1, .int .i64 a0_2, .slice A0_3 l0_3.length c0_3]] w fun e w' => e = .returned (.bool r) ∧ Below w.heap.size w w' := by
 have hu24 := Try.underlying24
 have hu60 := Try.underlying60
 have HR0_3 := qo hr0_3
 have HC0_3 := qo hc0_3
 clear hr0_3 hc0_3
 have HB := qo (Below.refl w.heap.size w)
 have H : ((spec_l01In.f a0_0 0 100000).bind fun t128 => (if t128 = true then ((spec_l01In.f a0_2 2 40).bind fun t129 => (if t129 = true then (if a0_1 = 0 then (spec_MetaOk.j0 k (decide ((l0_3.length : Int) > 20)) a0_0 a0_1 a0_2 l0_3) else ((spec_l01In.f a0_1 2 (wrap64 (a0_2 - 1))).bind fun t130 => (if t130 = true then (spec_MetaOk.j0 k (decide ((l0_3.length : Int) > 20)) a0_0 a0_1 a0_2 l0_3) else (spec_MetaOk.j0 k true a0_0 a0_1 a0_2 l0_3)))) else (spec_MetaOk.j0 k true a0_0 a0_1 a0_2 l0_3))) else (spec_MetaOk.j0 k true a0_0 a0_1 a0_2 l0_3))) = some r := h
 clear h
 have HC2 := qo H
 clear H
 go_enter Try.func46, Try.ntmps46
 go_upto_region 1 with (first | ((with_reducible refine gate_dst (N := 1) rfl ?_); (try (refine gate_guard zae ?_; dsimp only)); refine box_event ?hg (N := 1) ?hd (cs := #[.int .i64 a0_0, .int .i64 a0_1, .int .i64 a0_2, .slice A0_3 l0_3.length c0_3]) (t := 24) ?hr ?_; (case hd => rfl); (case hg => rfl); (case hr => first | (go_simp; done) | (go_simp; rfl)); intro gb127 hg w3 hbox hb; have n0_ := qo (qq za hb); have n1_ := qo (hbox); have n2_ := qo ((zcn : w.heap.size ≤ gb127)); have n3_ := qo ((zcn : w.heap.size ≤ gb127)); clear HB; have HB := n0_; have BK127 := n1_; have GW127 := n2_; have GE127 := n3_; clear n0_ n1_ n2_ n3_; clear hb hbox hg))
 (try simp only [Act.put, qa, qb, qc])
 go_cut [36] (fun v36 wc => ∃ (kq : Nat) (x36_1 : Bool), v36 = .bool x36_1 ∧ Aside0 (spec_MetaOk.j0 kq x36_1 a0_0 a0_1 a0_2 l0_3 = some r) ∧ Aside0 (kq ≤ k) ∧ Aside0 (wc.heap[gb127]? = some (.cells #[.int .i64 a0_0, .int .i64 a0_1, .int .i64 a0_2, (.slice A0_3 l0_3.length c0_3)] 24 (0, 0))) ∧ Aside0 (Below w.heap.size w wc))
 case first =>
  have H := HC2.out
  clear HC2
  replace H := Option.bind_eq_some_iff.mp H
  obtain ⟨t128, A40, H⟩ := H
  replace H : (if t128 = true then ((spec_l01In.f a0_2 2 40).bind fun t129 => (if t129 = true then (if a0_1 = 0 then (spec_MetaOk.j0 k (decide ((l0_3.length : Int) > 20)) a0_0 a0_1 a0_2 l0_3) else ((spec_l01In.f a0_1 2 (wrap64 (a0_2 - 1))).bind fun t130 => (if t130 = true then (spec_MetaOk.j0 k (decide ((l0_3.length : Int) > 20)) a0_0 a0_1 a0_2 l0_3) else (spec_MetaOk.j0 k true a0_0 a0_1 a0_2 l0_3)))) else (spec_MetaOk.j0 k true a0_0 a0_1 a0_2 l0_3))) else (spec_MetaOk.j0 k true a0_0 a0_1 a0_2 l0_3)) = some r := H
  have A4 := qo A40
  clear A40
  by_cases c5 : t128 = true
  ·subst c5
   have H1 : ((spec_l01In.f a0_2 2 40).bind fun t129 => (if t129 = true then (if a0_1 = 0 then (spec_MetaOk.j0 k (decide ((l0_3.length : Int) > 20)) a0_0 a0_1 a0_2 l0_3) else ((spec_l01In.f a0_1 2 (wrap64 (a0_2 - 1))).bind fun t130 => (if t130 = true then (spec_MetaOk.j0 k (decide ((l0_3.length : Int) > 20)) a0_0 a0_1 a0_2 l0_3) else (spec_MetaOk.j0 k true a0_0 a0_1 a0_2 l0_3)))) else (spec_MetaOk.j0 k true a0_0 a0_1 a0_2 l0_3))) = some r := by rw [if_pos rfl] at H; exact H
   clear H
   have H := H1
   clear H1
   replace H := Option.bind_eq_some_iff.mp H
   obtain ⟨t129, A60, H⟩ := H
   replace H : (if t129 = true then (if a0_1 = 0 then (spec_MetaOk.j0 k (decide ((l0_3.length : Int) > 20)) a0_0 a0_1 a0_2 l0_3) else ((spec_l01In.f a0_1 2 (wrap64 (a0_2 - 1))).bind fun t130 => (if t130 = true then (spec_MetaOk.j0 k (decide ((l0_3.length : Int) > 20)) a0_0 a0_1 a0_2 l0_3) else (spec_MetaOk.j0 k true a0_0 a0_1 a0_2 l0_3)))) else (spec_MetaOk.j0 k true a0_0 a0_1 a0_2 l0_3)) = some r := H
   have A6 := qo A60
   clear A60
   by_cases c7 : t129 = true
   ·subst c7
    have H1 : (if a0_1 = 0 then (spec_MetaOk.j0 k (decide ((l0_3.length : Int) > 20)) a0_0 a0_1 a0_2 l0_3) else ((spec_l01In.f a0_1 2 (wrap64 (a0_2 - 1))).bind fun t130 => (if t130 = true then (spec_MetaOk.j0 k (decide ((l0_3.length : Int) > 20)) a0_0 a0_1 a0_2 l0_3) else (spec_MetaOk.j0 k true a0_0 a0_1 a0_2 l0_3)))) = some r := by rw [if_pos rfl] at H; exact H
    clear H
    have H := H1
    clear H1
    by_cases c8 : a0_1 = 0
    ·rw [if_pos c8] at H
     have c8b0 : (a0_1 == 0) = true := beq_iff_eq.mpr c8
     have c8b1 : (a0_1 != 0) = false := bne_eq_false_iff_eq.mpr c8
     clear c8
     (first | rw [c8b0] | (simp only [i64_w, i32_w]; rw [c8b0]) | skip)
     have H' := qo H
     clear H
     have hcz9_0 : w3.cell? ⟨gb127, 0, none⟩ = some (.int .i64 a0_0) := (qs BK127.out 0).trans rfl
     have hcz9_1 : w3.cell? ⟨gb127, 1, none⟩ = some (.int .i64 a0_1) := (qs BK127.out 1).trans rfl
     have hcz9_2 : w3.cell? ⟨gb127, 2, none⟩ = some (.int .i64 a0_2) := (qs BK127.out 2).trans rfl
     have hcz9_3 : w3.cell? ⟨gb127, 3, none⟩ = some (.slice A0_3 l0_3.length c0_3) := (qs BK127.out 3).trans rfl
     have hfz9_0 := qu BK127.out 0
     have hfz9_1 := qu BK127.out 1
     have hfz9_2 := qu BK127.out 2
     have hfz9_3 := qu BK127.out 3
     go_wp2_with (first | ((with_reducible refine gate_callee (f := 45) rfl ?_); refine goesL_ (some 9) rfl rfl Try.func45 ze rfl #[.int .i64 a0_0, .int .i64 0, .int .i64 100000] rfl zcm ?_; (with_reducible refine (spec_l01In.calls a0_0 0 100000 true _ A4.out).mono ?_); rintro e w' ⟨rfl, ⟨nd, rfl⟩⟩; refine ⟨_, rfl, ?_⟩) | (go_at_call 45; (with_reducible refine (spec_l01In.calls a0_2 2 40 true _ A6.out).mono ?_); rintro e w' ⟨rfl, ⟨nd, rfl⟩⟩))
     go_meet
     case rel => exact ⟨_, (decide ((l0_3.length : Int) > 20)), zc, H', ⟨zcf⟩, ⟨z3⟩, ⟨z1⟩⟩
    ·rw [if_neg c8] at H
     have c8b0 : (a0_1 == 0) = false := beq_eq_false_iff_ne.mpr c8
     have c8b1 : (a0_1 != 0) = true := bne_iff_ne.mpr c8
     (first | rw [c8b0] | (simp only [i64_w, i32_w]; rw [c8b0]) | skip)
     replace H := Option.bind_eq_some_iff.mp H
     obtain ⟨t130, A100, H⟩ := H
     replace H : (if t130 = true then (spec_MetaOk.j0 k (decide ((l0_3.length : Int) > 20)) a0_0 a0_1 a0_2 l0_3) else (spec_MetaOk.j0 k true a0_0 a0_1 a0_2 l0_3)) = some r := H
     have A10 := qo A100
     clear A100
     by_cases c11 : t130 = true
     ·subst c11
      have H1 : (spec_MetaOk.j0 k (decide ((l0_3.length : Int) > 20)) a0_0 a0_1 a0_2 l0_3) = some r := by rw [if_pos rfl] at H; exact H
      clear H
      have H := H1
      clear H1
      have H' := qo H
      clear H
      have hcz12_0 : w3.cell? ⟨gb127, 0, none⟩ = some (.int .i64 a0_0) := (qs BK127.out 0).trans rfl
      have hcz12_1 : w3.cell? ⟨gb127, 1, none⟩ = some (.int .i64 a0_1) := (qs BK127.out 1).trans rfl
      have hcz12_2 : w3.cell? ⟨gb127, 2, none⟩ = some (.int .i64 a0_2) := (qs BK127.out 2).trans rfl
      have hcz12_3 : w3.cell? ⟨gb127, 3, none⟩ = some (.slice A0_3 l0_3.length c0_3) := (qs BK127.out 3).trans rfl
      have hfz12_0 := qu BK127.out 0
      have hfz12_1 := qu BK127.out 1
      have hfz12_2 := qu BK127.out 2
      have hfz12_3 := qu BK127.out 3
      go_wp2_with (first | ((with_reducible refine gate_callee (f := 45) rfl ?_); refine goesL_ (some 9) rfl rfl Try.func45 ze rfl #[.int .i64 a0_0, .int .i64 0, .int .i64 100000] rfl zcm ?_; (with_reducible refine (spec_l01In.calls a0_0 0 100000 true _ A4.out).mono ?_); rintro e w' ⟨rfl, ⟨nd, rfl⟩⟩; refine ⟨_, rfl, ?_⟩) | (go_at_call 45; (with_reducible refine (spec_l01In.calls a0_2 2 40 true _ A6.out).mono ?_); rintro e w' ⟨rfl, ⟨nd, rfl⟩⟩) | (go_at_call 45; (with_reducible refine (spec_l01In.calls a0_1 2 (wrap64 (a0_2 - 1)) true _ A10.out).mono ?_); rintro e w' ⟨rfl, ⟨nd, rfl⟩⟩))
      go_meet
      case rel => exact ⟨_, (decide ((l0_3.length : Int) > 20)), zc, H', ⟨zcf⟩, ⟨z3⟩, ⟨z1⟩⟩
     ·replace c11 := Bool.eq_false_iff.mpr c11
      subst c11
      have H1 : (spec_MetaOk.j0 k true a0_0 a0_1 a0_2 l0_3) = some r := by rw [if_neg (show ¬ (false = true) by decide)] at H; exact H
      clear H
      have H := H1
      clear H1
      have H' := qo H
      clear H
      have hcz13_0 : w3.cell? ⟨gb127, 0, none⟩ = some (.int .i64 a0_0) := (qs BK127.out 0).trans rfl
      have hcz13_1 : w3.cell? ⟨gb127, 1, none⟩ = some (.int .i64 a0_1) := (qs BK127.out 1).trans rfl
      have hcz13_2 : w3.cell? ⟨gb127, 2, none⟩ = some (.int .i64 a0_2) := (qs BK127.out 2).trans rfl
      have hcz13_3 : w3.cell? ⟨gb127, 3, none⟩ = some (.slice A0_3 l0_3.length c0_3) := (qs BK127.out 3).trans rfl
      have hfz13_0 := qu BK127.out 0
      have hfz13_1 := qu BK127.out 1
      have hfz13_2 := qu BK127.out 2
      have hfz13_3 := qu BK127.out 3
      go_wp2_with (first | ((with_reducible refine gate_callee (f := 45) rfl ?_); refine goesL_ (some 9) rfl rfl Try.func45 ze rfl #[.int .i64 a0_0, .int .i64 0, .int .i64 100000] rfl zcm ?_; (with_reducible refine (spec_l01In.calls a0_0 0 100000 true _ A4.out).mono ?_); rintro e w' ⟨rfl, ⟨nd, rfl⟩⟩; refine ⟨_, rfl, ?_⟩) | (go_at_call 45; (with_reducible refine (spec_l01In.calls a0_2 2 40 true _ A6.out).mono ?_); rintro e w' ⟨rfl, ⟨nd, rfl⟩⟩) | (go_at_call 45; (with_reducible refine (spec_l01In.calls a0_1 2 (wrap64 (a0_2 - 1)) false _ A10.out).mono ?_); rintro e w' ⟨rfl, ⟨nd, rfl⟩⟩))
      go_meet
      case rel => exact ⟨_, (true), zc, H', ⟨zcf⟩, ⟨z3⟩, ⟨z1⟩⟩
   ·replace c7 := Bool.eq_false_iff.mpr c7
    subst c7
    have H1 : (spec_MetaOk.j0 k true a0_0 a0_1 a0_2 l0_3) = some r := by rw [if_neg (show ¬ (false = true) by decide)] at H; exact H
    clear H
    have H := H1
    clear H1
    have H' := qo H
    clear H
    have hcz14_0 : w3.cell? ⟨gb127, 0, none⟩ = some (.int .i64 a0_0) := (qs BK127.out 0).trans rfl
    have hcz14_1 : w3.cell? ⟨gb127, 1, none⟩ = some (.int .i64 a0_1) := (qs BK127.out 1).trans rfl
    have hcz14_2 : w3.cell? ⟨gb127, 2, none⟩ = some (.int .i64 a0_2) := (qs BK127.out 2).trans rfl
    have hcz14_3 : w3.cell? ⟨gb127, 3, none⟩ = some (.slice A0_3 l0_3.length c0_3) := (qs BK127.out 3).trans rfl
    have hfz14_0 := qu BK127.out 0
    have hfz14_1 := qu BK127.out 1
    have hfz14_2 := qu BK127.out 2
    have hfz14_3 := qu BK127.out 3
    go_wp2_with (first | ((with_reducible refine gate_callee (f := 45) rfl ?_); refine goesL_ (some 9) rfl rfl Try.func45 ze rfl #[.int .i64 a0_0, .int .i64 0, .int .i64 100000] rfl zcm ?_; (with_reducible refine (spec_l01In.calls a0_0 0 100000 true _ A4.out).mono ?_); rintro e w' ⟨rfl, ⟨nd, rfl⟩⟩; refine ⟨_, rfl, ?_⟩) | (go_at_call 45; (with_reducible refine (spec_l01In.calls a0_2 2 40 false _ A6.out).mono ?_); rintro e w' ⟨rfl, ⟨nd, rfl⟩⟩))
    go_meet
    case rel => exact ⟨_, (true), zc, H', ⟨zcf⟩, ⟨z3⟩, ⟨z1⟩⟩
  ·replace c5 := Bool.eq_false_iff.mpr c5
   subst c5
   have H1 : (spec_MetaOk.j0 k true a0_0 a0_1 a0_2 l0_3) = some r := by rw [if_neg (show ¬ (false = true) by decide)] at H; exact H
   clear H
   have H := H1
   clear H1
   have H' := qo H
   clear H
   have hcz15_0 : w3.cell? ⟨gb127, 0, none⟩ = some (.int .i64 a0_0) := (qs BK127.out 0).trans rfl
   have hcz15_1 : w3.cell? ⟨gb127, 1, none⟩ = some (.int .i64 a0_1) := (qs BK127.out 1).trans rfl
   have hcz15_2 : w3.cell? ⟨gb127, 2, none⟩ = some (.int .i64 a0_2) := (qs BK127.out 2).trans rfl
   have hcz15_3 : w3.cell? ⟨gb127, 3, none⟩ = some (.slice A0_3 l0_3.length c0_3) := (qs BK127.out 3).trans rfl
   have hfz15_0 := qu BK127.out 0
   have hfz15_1 := qu BK127.out 1
   have hfz15_2 := qu BK127.out 2
   have hfz15_3 := qu BK127.out 3
   go_wp2_with (first | ((with_reducible refine gate_callee (f := 45) rfl ?_); refine goesL_ (some 9) rfl rfl Try.func45 ze rfl #[.int .i64 a0_0, .int .i64 0, .int .i64 100000] rfl zcm ?_; (with_reducible refine (spec_l01In.calls a0_0 0 100000 false _ A4.out).mono ?_); rintro e w' ⟨rfl, ⟨nd, rfl⟩⟩; refine ⟨_, rfl, ?_⟩))
   go_meet
   case rel => exact ⟨_, (true), zc, H', ⟨zcf⟩, ⟨z3⟩, ⟨z1⟩⟩
 case rest =>
  clear HC2
  (try clear c1); (try clear p2); (try clear c4); (try clear c5); (try clear p6); (try clear c7); (try clear c8); (try clear c8b0); (try clear c8b1); (try clear c11); (try clear hcz12_0); (try clear hcz12_1); (try clear hcz12_2); (try clear hcz12_3); (try clear hcz13_0); (try clear hcz13_1); (try clear hcz13_2); (try clear hcz13_3); (try clear hcz14_0); (try clear hcz14_1); (try clear hcz14_2); (try clear hcz14_3); (try clear hcz15_0); (try clear hcz15_1); (try clear hcz15_2); (try clear hcz15_3); (try clear hcz9_0); (try clear hcz9_1); (try clear hcz9_2); (try clear hcz9_3); (try clear hfz12_0); (try clear hfz12_1); (try clear hfz12_2); (try clear hfz12_3); (try clear hfz13_0); (try clear hfz13_1); (try clear hfz13_2); (try clear hfz13_3); (try clear hfz14_0); (try clear hfz14_1); (try clear hfz14_2); (try clear hfz14_3); (try clear hfz15_0); (try clear hfz15_1); (try clear hfz15_2); (try clear hfz15_3); (try clear hfz9_0); (try clear hfz9_1); (try clear hfz9_2); (try clear hfz9_3)
  obtain ⟨kq, x36_1, rfl, HA, HJ1, BK127, HB⟩ := hcut
  cases kq with
  | zero => exact absurd HA.out (by simp [spec_MetaOk.j0])
  | succ kj1 =>
   have H := HA.out
   clear HA
   simp only [spec_MetaOk.j0] at H
   by_cases c16 : x36_1 = true
   ·subst c16
    have H1 : (some false) = some r := by rw [if_pos rfl] at H; exact H
    clear H
    have H := H1
    clear H1
    obtain rfl := Option.some.inj H
    go_wp2
    go_ret
    exact ⟨zd, z1⟩
   ·replace c16 := Bool.eq_false_iff.mpr c16
    subst c16
    have H1 : (spec_MetaOk.l0 kj1 (([a0_1] : List Int)) 0 a0_0 a0_1 a0_2 l0_3) = some r := by rw [if_neg (show ¬ (false = true) by decide)] at H; exact H
    clear H
    have H := H1
    clear H1
    obtain ⟨y131, hy131⟩ : ∃ y_ : List Int, y_ = (([a0_1] : List Int)) := ⟨_, rfl⟩
    replace H : (spec_MetaOk.l0 kj1 y131 0 a0_0 a0_1 a0_2 l0_3) = some r := by first | (rw [hy131]; with_reducible exact H) | (have H2_ := (Option.bind_some _ _).symm.trans H; rw [hy131]; with_reducible exact H2_) | (have H2_ := (Option.bind_some _ _).symm.trans H; with_reducible exact H2_) | with_reducible exact H | (rw [hy131]; exact H) | exact H
    have Ny131 := qo hy131
    clear hy131
    have H' := qo H
    clear H
    have hcz17_0 : wc.cell? ⟨gb127, 0, none⟩ = some (.int .i64 a0_0) := (qs BK127.out 0).trans rfl
    have hcz17_1 : wc.cell? ⟨gb127, 1, none⟩ = some (.int .i64 a0_1) := (qs BK127.out 1).trans rfl
    have hcz17_2 : wc.cell? ⟨gb127, 2, none⟩ = some (.int .i64 a0_2) := (qs BK127.out 2).trans rfl
    have hcz17_3 : wc.cell? ⟨gb127, 3, none⟩ = some (.slice A0_3 l0_3.length c0_3) := (qs BK127.out 3).trans rfl
    have hfz17_0 := qu BK127.out 0
    have hfz17_1 := qu BK127.out 1
    have hfz17_2 := qu BK127.out 2
    have hfz17_3 := qu BK127.out 3
    go_wp2_with (first | ((with_reducible refine gate_dst (N := 39) rfl ?_); (try (refine gate_guard zae ?_; dsimp only)); refine Kd.R_lit (Kd.int .i64) _ 3 ?hg (N := 39) ?hd (xs := ([a0_1] : List Int)) (inner := [.int .i64 a0_1]) (ok := fun _ => True) (okp := fun _ => True) ?hr ?hp (fun _ hk => hk) trivial (Below.refl _ _) (Nat.le_refl _) zbh ?_; (case hd => rfl); (case hg => rfl); (case hr => first | (go_simp; done) | (go_simp; rfl)); (case hp => exact (Reps.one (show Kd.M (Kd.int .i64) _ _ _ a0_1 [.int .i64 a0_1] from rfl) (Reps.none _ _))); intro v132 w18 ho19 hb hg_ hnew_; clear hg_ hnew_; (first | rw [← Ny131.out] at ho19 | (simp only [Int.reduceToNat] at ho19; rw [← Ny131.out] at ho19)); have n0_ := qo (Kd.R_lower ho19 (qp z1)); have n1_ := qo (qr (g := gb127) (o := .cells #[.int .i64 a0_0, .int .i64 a0_1, .int .i64 a0_2, .slice A0_3 l0_3.length c0_3] 24 (0, 0)) z3 hb); have n2_ := qo (qq z1 hb); clear BK127; clear HB; have HO133 := n0_; have BK127 := n1_; have HB := n2_; clear n0_ n1_ n2_; clear hb ho19))
    go_loopg [3, 4] kj1 (fun kq v3 v4 w' => ∃ (x3_2 : List Int) (x4_2 : Int), v4 = .int .i64 x4_2 ∧ Aside0 (spec_MetaOk.l0 kq x3_2 x4_2 a0_0 a0_1 a0_2 l0_3 = some r) ∧ Aside0 (kq ≤ kj1) ∧ Aside0 (Kd.R (Kd.int .i64) 3 w' w.heap.size (fun _ => True) v3 x3_2) ∧ Aside0 (w'.heap[gb127]? = some (.cells #[.int .i64 a0_0, .int .i64 a0_1, .int .i64 a0_2, (.slice A0_3 l0_3.length c0_3)] 24 (0, 0))) ∧ Aside0 (Below w.heap.size w w'))
    case atStart => exact ⟨(y131), (0), zc, H', ⟨Nat.le_refl _⟩, ⟨by (with_reducible repeat (first | apply Kd.R_alloc | apply Kd.R_drewN | apply Kd.R_drew)); exact HO133.out⟩, ⟨z3⟩, ⟨z1⟩⟩
    case round =>
     clear H'
     (try clear c1); (try clear p2); (try clear c4); (try clear c5); (try clear p6); (try clear c7); (try clear c8); (try clear c8b0); (try clear c8b1); (try clear c11); (try clear c16); (try clear hcz12_0); (try clear hcz12_1); (try clear hcz12_2); (try clear hcz12_3); (try clear hcz13_0); (try clear hcz13_1); (try clear hcz13_2); (try clear hcz13_3); (try clear hcz14_0); (try clear hcz14_1); (try clear hcz14_2); (try clear hcz14_3); (try clear hcz15_0); (try clear hcz15_1); (try clear hcz15_2); (try clear hcz15_3); (try clear hcz17_0); (try clear hcz17_1); (try clear hcz17_2); (try clear hcz17_3); (try clear hcz9_0); (try clear hcz9_1); (try clear hcz9_2); (try clear hcz9_3); (try clear hfz12_0); (try clear hfz12_1); (try clear hfz12_2); (try clear hfz12_3); (try clear hfz13_0); (try clear hfz13_1); (try clear hfz13_2); (try clear hfz13_3); (try clear hfz14_0); (try clear hfz14_1); (try clear hfz14_2); (try clear hfz14_3); (try clear hfz15_0); (try clear hfz15_1); (try clear hfz15_2); (try clear hfz15_3); (try clear hfz17_0); (try clear hfz17_1); (try clear hfz17_2); (try clear hfz17_3); (try clear hfz9_0); (try clear hfz9_1); (try clear hfz9_2); (try clear hfz9_3); (try clear p2); (try clear p6)
     obtain ⟨x3_2, x4_2, rfl, HA, HK2, HO_3, BK127, HB⟩ := hrel
     cases gk with
     | zero => exact absurd HA.out (by simp [spec_MetaOk.l0])
     | succ k2 =>
      have H := HA.out
      clear HA
      simp only [spec_MetaOk.l0] at H
      by_cases c20 : x4_2 < (l0_3.length : Int)
      ·rw [if_pos c20] at H
       have c20b0 : decide (x4_2 < (l0_3.length : Int)) = true := decide_eq_true c20
       clear c20
       by_cases c21 : 0 ≤ x4_2
       ·rw [if_pos c21] at H
        have c21b0 : decide (0 ≤ x4_2) = true := decide_eq_true c21
        clear c21
        have HC22 := qo H
        clear H
        have hcz23_0 : wr.cell? ⟨gb127, 0, none⟩ = some (.int .i64 a0_0) := (qs BK127.out 0).trans rfl
        have hcz23_1 : wr.cell? ⟨gb127, 1, none⟩ = some (.int .i64 a0_1) := (qs BK127.out 1).trans rfl
        have hcz23_2 : wr.cell? ⟨gb127, 2, none⟩ = some (.int .i64 a0_2) := (qs BK127.out 2).trans rfl
        have hcz23_3 : wr.cell? ⟨gb127, 3, none⟩ = some (.slice A0_3 l0_3.length c0_3) := (qs BK127.out 3).trans rfl
        have hfz23_0 := qu BK127.out 0
        have hfz23_1 := qu BK127.out 1
        have hfz23_2 := qu BK127.out 2
        have hfz23_3 := qu BK127.out 3
        have p134 : 0 ≤ (x4_2 : Int) := of_decide_eq_true zb
        have q134 : x4_2 < (l0_3.length : Int) := of_decide_eq_true zb
        obtain ⟨ad134, A134_1, c134_1, e134, hx134_0, hx134_1, hl134_1, hi134_1⟩ := at_T60 HR0_3.out x4_2 p134 q134
        cases e134
        replace hx134_0 := (HB.out.cell (World.block_lt_of_cell? w _ hx134_0)).trans hx134_0
        replace hx134_1 := (HB.out.cell (World.block_lt_of_cell? w _ hx134_1)).trans hx134_1
        have HR134_1 := qo hi134_1
        have HC134_1 := qo hl134_1
        clear hi134_1 hl134_1
        replace p134 := eq_true p134
        replace q134 := eq_true q134
        go_upto_region 8 with (first | ((with_reducible refine gate_dst (N := 5) rfl ?_); (try (refine gate_guard zae ?_; dsimp only)); refine box_event ?hg (N := 5) ?hd (cs := #[.int .i64 0, .slice none 0 0]) (t := 60) ?hr ?_; (case hd => rfl); (case hg => rfl); (case hr => first | (go_simp; done) | (go_simp; rfl)); intro gb135 hg w24 hbox hb; have n0_ := qo (Kd.R_below zs hb); have n1_ := qo (qr (g := gb127) (o := .cells #[.int .i64 a0_0, .int .i64 a0_1, .int .i64 a0_2, .slice (some ad134) l0_3.length c0_3] 24 (0, 0)) z3 hb); have n2_ := qo (qq z1 hb); have n3_ := qo (hbox); have n4_ := qo ((by rw [hg]; exact (qp z1) : w.heap.size ≤ gb135)); have n5_ := qo ((by rw [hg]; exact (qp z1) : w.heap.size ≤ gb135)); have n6_ := qo ((by rw [hg]; exact Nat.ne_of_lt (blk_lt (g := gb127) (o := .cells #[.int .i64 a0_0, .int .i64 a0_1, .int .i64 a0_2, .slice (some ad134) l0_3.length c0_3] 24 (0, 0)) z3) : gb127 ≠ gb135)); have n7_ := qo ((by rw [hg]; exact Nat.ne_of_gt (blk_lt (g := gb127) (o := .cells #[.int .i64 a0_0, .int .i64 a0_1, .int .i64 a0_2, .slice (some ad134) l0_3.length c0_3] 24 (0, 0)) z3) : gb135 ≠ gb127)); clear HO_3; clear BK127; clear HB; have HO_3 := n0_; have BK127 := n1_; have HB := n2_; have BK135 := n3_; have GW135 := n4_; have GE135 := n5_; have NB127_135 := n6_; have NB135_127 := n7_; clear n0_ n1_ n2_ n3_ n4_ n5_ n6_ n7_; clear hb hbox hg; have hnb25 := NB135_127.out; have hnc25 := NB127_135.out; have hcz26_0 : w24.cell? ⟨gb135, 0, none⟩ = some (.int .i64 0) := (qs BK135.out 0).trans rfl; have hcz26_1 : w24.cell? ⟨gb135, 1, none⟩ = some (.slice none 0 0) := (qs BK135.out 1).trans rfl; have hfz26_0 := qu BK135.out 0; have hfz26_1 := qu BK135.out 1))
        (try simp only [Act.put, qa, qb, qc])
        go_cut [80] (fun v80 wc => ∃ (kq : Nat) (x80_21 : Bool), v80 = .bool x80_21 ∧ Aside0 (spec_MetaOk.j2 kq x3_2 x4_2 x80_21 a0_0 a0_1 a0_2 l0_3 ((rd_T60 l0_3 x4_2).f0) ((rd_T60 l0_3 x4_2).f1) = some r) ∧ Aside0 (kq ≤ k2) ∧ Aside0 (Kd.R (Kd.int .i64) 3 wc w.heap.size (fun _ => True) u3 x3_2) ∧ Aside0 (wc.heap[gb127]? = some (.cells #[.int .i64 a0_0, .int .i64 a0_1, .int .i64 a0_2, (.slice (some ad134) l0_3.length c0_3)] 24 (0, 0))) ∧ Aside0 (wc.heap[gb135]? = some (.cells #[.int .i64 ((rd_T60 l0_3 x4_2).f0), (.slice A134_1 ((rd_T60 l0_3 x4_2).f1).length c134_1)] 60 (0, 0))) ∧ Aside0 (Below w.heap.size w wc))
        case first =>
         have H := HC22.out
         clear HC22
         replace H := Option.bind_eq_some_iff.mp H
         obtain ⟨t136, A270, H⟩ := H
         replace H : (if t136 = true then (if x4_2 > 0 then (if 0 ≤ (wrap64 (x4_2 - 1)) then (if (wrap64 (x4_2 - 1)) < (l0_3.length : Int) then (if ((rd_T60 l0_3 (wrap64 (x4_2 - 1))).f0) ≥ ((rd_T60 l0_3 x4_2).f0) then (spec_MetaOk.j2 k2 x3_2 x4_2 true a0_0 a0_1 a0_2 l0_3 ((rd_T60 l0_3 x4_2).f0) ((rd_T60 l0_3 x4_2).f1)) else ((spec_l01In.f (((rd_T60 l0_3 x4_2).f1).length : Int) 1 40).bind fun t138 => (spec_MetaOk.j2 k2 x3_2 x4_2 (!t138) a0_0 a0_1 a0_2 l0_3 ((rd_T60 l0_3 x4_2).f0) ((rd_T60 l0_3 x4_2).f1)))) else (none)) else (none)) else ((spec_l01In.f (((rd_T60 l0_3 x4_2).f1).length : Int) 1 40).bind fun t139 => (spec_MetaOk.j2 k2 x3_2 x4_2 (!t139) a0_0 a0_1 a0_2 l0_3 ((rd_T60 l0_3 x4_2).f0) ((rd_T60 l0_3 x4_2).f1)))) else (spec_MetaOk.j2 k2 x3_2 x4_2 true a0_0 a0_1 a0_2 l0_3 ((rd_T60 l0_3 x4_2).f0) ((rd_T60 l0_3 x4_2).f1))) = some r := H
         have A27 := qo A270
         clear A270
         by_cases c28 : t136 = true
         ·subst c28
          have H1 : (if x4_2 > 0 then (if 0 ≤ (wrap64 (x4_2 - 1)) then (if (wrap64 (x4_2 - 1)) < (l0_3.length : Int) then (if ((rd_T60 l0_3 (wrap64 (x4_2 - 1))).f0) ≥ ((rd_T60 l0_3 x4_2).f0) then (spec_MetaOk.j2 k2 x3_2 x4_2 true a0_0 a0_1 a0_2 l0_3 ((rd_T60 l0_3 x4_2).f0) ((rd_T60 l0_3 x4_2).f1)) else ((spec_l01In.f (((rd_T60 l0_3 x4_2).f1).length : Int) 1 40).bind fun t138 => (spec_MetaOk.j2 k2 x3_2 x4_2 (!t138) a0_0 a0_1 a0_2 l0_3 ((rd_T60 l0_3 x4_2).f0) ((rd_T60 l0_3 x4_2).f1)))) else (none)) else (none)) else ((spec_l01In.f (((rd_T60 l0_3 x4_2).f1).length : Int) 1 40).bind fun t139 => (spec_MetaOk.j2 k2 x3_2 x4_2 (!t139) a0_0 a0_1 a0_2 l0_3 ((rd_T60 l0_3 x4_2).f0) ((rd_T60 l0_3 x4_2).f1)))) = some r := by rw [if_pos rfl] at H; exact H
          clear H
          have H := H1
          clear H1
          by_cases c29 : x4_2 > 0
          ·rw [if_pos c29] at H
           have c29b0 : decide (0 < x4_2) = true := decide_eq_true c29
           clear c29
           (first | rw [c29b0] | (simp only [i64_w, i32_w]; rw [c29b0]) | skip)
           obtain ⟨ji30, hji30⟩ : ∃ j_ : Int, (wrap64 (x4_2 - 1)) = j_ := ⟨_, rfl⟩
           replace H : (if 0 ≤ (ji30) then (if (ji30) < (l0_3.length : Int) then (if ((rd_T60 l0_3 (ji30)).f0) ≥ ((rd_T60 l0_3 x4_2).f0) then (spec_MetaOk.j2 k2 x3_2 x4_2 true a0_0 a0_1 a0_2 l0_3 ((rd_T60 l0_3 x4_2).f0) ((rd_T60 l0_3 x4_2).f1)) else ((spec_l01In.f (((rd_T60 l0_3 x4_2).f1).length : Int) 1 40).bind fun t138 => (spec_MetaOk.j2 k2 x3_2 x4_2 (!t138) a0_0 a0_1 a0_2 l0_3 ((rd_T60 l0_3 x4_2).f0) ((rd_T60 l0_3 x4_2).f1)))) else (none)) else (none)) = some r := by first | (rw [hji30] at H; exact H) | (simp only [hji30] at H ⊢; exact H)
           (try rw [hji30] at A27)
           have hji30w : (IntKind.i64.wrap (x4_2 - 1)) = ji30 := (i64_w _).trans hji30
           by_cases c31 : 0 ≤ (ji30)
           ·rw [if_pos c31] at H
            have c31b0 : decide (0 ≤ (ji30)) = true := decide_eq_true c31
            clear c31
            by_cases c32 : (ji30) < (l0_3.length : Int)
            ·rw [if_pos c32] at H
             have c32b0 : decide ((ji30) < (l0_3.length : Int)) = true := decide_eq_true c32
             clear c32
             by_cases c33 : ((rd_T60 l0_3 (ji30)).f0) ≥ ((rd_T60 l0_3 x4_2).f0)
             ·rw [if_pos c33] at H
              have c33b0 : decide (((rd_T60 l0_3 x4_2).f0) ≤ ((rd_T60 l0_3 (ji30)).f0)) = true := decide_eq_true c33
              clear c33
              have H' := qo H
              clear H
              have hnb34 := NB135_127.out
              have hnc34 := NB127_135.out
              have hcz35_0 : w24.cell? ⟨gb135, 0, none⟩ = some (.int .i64 0) := (qs BK135.out 0).trans rfl
              have hcz35_1 : w24.cell? ⟨gb135, 1, none⟩ = some (.slice none 0 0) := (qs BK135.out 1).trans rfl
              have hfz35_0 := qu BK135.out 0
              have hfz35_1 := qu BK135.out 1
              have hcz36_0 : w24.cell? ⟨gb127, 0, none⟩ = some (.int .i64 a0_0) := (qs BK127.out 0).trans rfl
              have hcz36_1 : w24.cell? ⟨gb127, 1, none⟩ = some (.int .i64 a0_1) := (qs BK127.out 1).trans rfl
              have hcz36_2 : w24.cell? ⟨gb127, 2, none⟩ = some (.int .i64 a0_2) := (qs BK127.out 2).trans rfl
              have hcz36_3 : w24.cell? ⟨gb127, 3, none⟩ = some (.slice (some ad134) l0_3.length c0_3) := (qs BK127.out 3).trans rfl
              have hfz36_0 := qu BK127.out 0
              have hfz36_1 := qu BK127.out 1
              have hfz36_2 := qu BK127.out 2
              have hfz36_3 := qu BK127.out 3
              go_wp2_with (first | (go_at_call 45; (with_reducible refine (spec_l01In.calls ((rd_T60 l0_3 x4_2).f0) 1 a0_0 true _ A27.out).mono ?_); rintro e w' ⟨rfl, ⟨nd, rfl⟩⟩; (try first | exact ⟨rfl, _, World.drewN_drewN _ _ _⟩ | exact ⟨rfl, _, Eq.trans (World.drewN_drewN _ _ _) (congrArg (World.drewN _) (Nat.add_assoc _ _ _))⟩); have p137 : 0 ≤ ((ji30) : Int) := of_decide_eq_true zb; have q137 : (ji30) < (l0_3.length : Int) := of_decide_eq_true zb; obtain ⟨ad137, A137_1, c137_1, e137, hx137_0, hx137_1, hl137_1, hi137_1⟩ := at_T60 HR0_3.out (ji30) p137 q137; obtain rfl : ad134 = ad137 := (by injection e137); have hn137_0 : ad134.block ≠ gb135 := Nat.ne_of_lt (Nat.lt_of_lt_of_le zat GW135.out); have hn137_1 : ad134.block ≠ gb135 := Nat.ne_of_lt (Nat.lt_of_lt_of_le zat GW135.out); replace hx137_0 := (HB.out.cell (World.block_lt_of_cell? w _ hx137_0)).trans hx137_0; replace hx137_1 := (HB.out.cell (World.block_lt_of_cell? w _ hx137_1)).trans hx137_1; have HR137_1 := qo hi137_1; have HC137_1 := qo hl137_1; clear hi137_1 hl137_1; replace hx137_0 := (cell_far (p := ⟨gb135, 0, none⟩) zag (.int .i64 ((rd_T60 l0_3 x4_2).f0))).trans hx137_0; replace hx137_1 := (cell_far (p := ⟨gb135, 0, none⟩) zag (.int .i64 ((rd_T60 l0_3 x4_2).f0))).trans hx137_1; replace hx137_0 := (cell_far (p := ⟨gb135, 1, none⟩) zah (.slice A134_1 ((rd_T60 l0_3 x4_2).f1).length c134_1)).trans hx137_0; replace hx137_1 := (cell_far (p := ⟨gb135, 1, none⟩) zah (.slice A134_1 ((rd_T60 l0_3 x4_2).f1).length c134_1)).trans hx137_1; (try have hy137_0 := fun (n_ : Nat) => (show ((((w24.drewN n_).setCell ⟨gb135, 0, none⟩ (.int .i64 ((rd_T60 l0_3 x4_2).f0))).setCell ⟨gb135, 1, none⟩ (.slice A134_1 ((rd_T60 l0_3 x4_2).f1).length c134_1))).cell? _ = some _ from hx137_0)); (try have hy137_1 := fun (n_ : Nat) => (show ((((w24.drewN n_).setCell ⟨gb135, 0, none⟩ (.int .i64 ((rd_T60 l0_3 x4_2).f0))).setCell ⟨gb135, 1, none⟩ (.slice A134_1 ((rd_T60 l0_3 x4_2).f1).length c134_1))).cell? _ = some _ from hx137_1)); clear hn137_0; clear hn137_1; replace p137 := eq_true p137; replace q137 := eq_true q137))
              repeat (go_quiet (first | (go_at_call 45; (with_reducible refine (spec_l01In.calls ((rd_T60 l0_3 x4_2).f0) 1 a0_0 true _ A27.out).mono ?_); rintro e w' ⟨rfl, ⟨nd, rfl⟩⟩; (try first | exact ⟨rfl, _, World.drewN_drewN _ _ _⟩ | exact ⟨rfl, _, Eq.trans (World.drewN_drewN _ _ _) (congrArg (World.drewN _) (Nat.add_assoc _ _ _))⟩); have p137 : 0 ≤ ((ji30) : Int) := of_decide_eq_true zb; have q137 : (ji30) < (l0_3.length : Int) := of_decide_eq_true zb; obtain ⟨ad137, A137_1, c137_1, e137, hx137_0, hx137_1, hl137_1, hi137_1⟩ := at_T60 HR0_3.out (ji30) p137 q137; obtain rfl : ad134 = ad137 := (by injection e137); have hn137_0 : ad134.block ≠ gb135 := Nat.ne_of_lt (Nat.lt_of_lt_of_le zat GW135.out); have hn137_1 : ad134.block ≠ gb135 := Nat.ne_of_lt (Nat.lt_of_lt_of_le zat GW135.out); replace hx137_0 := (HB.out.cell (World.block_lt_of_cell? w _ hx137_0)).trans hx137_0; replace hx137_1 := (HB.out.cell (World.block_lt_of_cell? w _ hx137_1)).trans hx137_1; have HR137_1 := qo hi137_1; have HC137_1 := qo hl137_1; clear hi137_1 hl137_1; replace hx137_0 := (cell_far (p := ⟨gb135, 0, none⟩) zag (.int .i64 ((rd_T60 l0_3 x4_2).f0))).trans hx137_0; replace hx137_1 := (cell_far (p := ⟨gb135, 0, none⟩) zag (.int .i64 ((rd_T60 l0_3 x4_2).f0))).trans hx137_1; replace hx137_0 := (cell_far (p := ⟨gb135, 1, none⟩) zah (.slice A134_1 ((rd_T60 l0_3 x4_2).f1).length c134_1)).trans hx137_0; replace hx137_1 := (cell_far (p := ⟨gb135, 1, none⟩) zah (.slice A134_1 ((rd_T60 l0_3 x4_2).f1).length c134_1)).trans hx137_1; (try have hy137_0 := fun (n_ : Nat) => (show ((((w24.drewN n_).setCell ⟨gb135, 0, none⟩ (.int .i64 ((rd_T60 l0_3 x4_2).f0))).setCell ⟨gb135, 1, none⟩ (.slice A134_1 ((rd_T60 l0_3 x4_2).f1).length c134_1))).cell? _ = some _ from hx137_0)); (try have hy137_1 := fun (n_ : Nat) => (show ((((w24.drewN n_).setCell ⟨gb135, 0, none⟩ (.int .i64 ((rd_T60 l0_3 x4_2).f0))).setCell ⟨gb135, 1, none⟩ (.slice A134_1 ((rd_T60 l0_3 x4_2).f1).length c134_1))).cell? _ = some _ from hx137_1)); clear hn137_0; clear hn137_1; replace p137 := eq_true p137; replace q137 := eq_true q137)); try go_wp2_with (first | (go_at_call 45; (with_reducible refine (spec_l01In.calls ((rd_T60 l0_3 x4_2).f0) 1 a0_0 true _ A27.out).mono ?_); rintro e w' ⟨rfl, ⟨nd, rfl⟩⟩; (try first | exact ⟨rfl, _, World.drewN_drewN _ _ _⟩ | exact ⟨rfl, _, Eq.trans (World.drewN_drewN _ _ _) (congrArg (World.drewN _) (Nat.add_assoc _ _ _))⟩); have p137 : 0 ≤ ((ji30) : Int) := of_decide_eq_true zb; have q137 : (ji30) < (l0_3.length : Int) := of_decide_eq_true zb; obtain ⟨ad137, A137_1, c137_1, e137, hx137_0, hx137_1, hl137_1, hi137_1⟩ := at_T60 HR0_3.out (ji30) p137 q137; obtain rfl : ad134 = ad137 := (by injection e137); have hn137_0 : ad134.block ≠ gb135 := Nat.ne_of_lt (Nat.lt_of_lt_of_le zat GW135.out); have hn137_1 : ad134.block ≠ gb135 := Nat.ne_of_lt (Nat.lt_of_lt_of_le zat GW135.out); replace hx137_0 := (HB.out.cell (World.block_lt_of_cell? w _ hx137_0)).trans hx137_0; replace hx137_1 := (HB.out.cell (World.block_lt_of_cell? w _ hx137_1)).trans hx137_1; have HR137_1 := qo hi137_1; have HC137_1 := qo hl137_1; clear hi137_1 hl137_1; replace hx137_0 := (cell_far (p := ⟨gb135, 0, none⟩) zag (.int .i64 ((rd_T60 l0_3 x4_2).f0))).trans hx137_0; replace hx137_1 := (cell_far (p := ⟨gb135, 0, none⟩) zag (.int .i64 ((rd_T60 l0_3 x4_2).f0))).trans hx137_1; replace hx137_0 := (cell_far (p := ⟨gb135, 1, none⟩) zah (.slice A134_1 ((rd_T60 l0_3 x4_2).f1).length c134_1)).trans hx137_0; replace hx137_1 := (cell_far (p := ⟨gb135, 1, none⟩) zah (.slice A134_1 ((rd_T60 l0_3 x4_2).f1).length c134_1)).trans hx137_1; (try have hy137_0 := fun (n_ : Nat) => (show ((((w24.drewN n_).setCell ⟨gb135, 0, none⟩ (.int .i64 ((rd_T60 l0_3 x4_2).f0))).setCell ⟨gb135, 1, none⟩ (.slice A134_1 ((rd_T60 l0_3 x4_2).f1).length c134_1))).cell? _ = some _ from hx137_0)); (try have hy137_1 := fun (n_ : Nat) => (show ((((w24.drewN n_).setCell ⟨gb135, 0, none⟩ (.int .i64 ((rd_T60 l0_3 x4_2).f0))).setCell ⟨gb135, 1, none⟩ (.slice A134_1 ((rd_T60 l0_3 x4_2).f1).length c134_1))).cell? _ = some _ from hx137_1)); clear hn137_0; clear hn137_1; replace p137 := eq_true p137; replace q137 := eq_true q137)))
              go_meet
              case rel => exact ⟨_, (true), zc, H', ⟨zb2⟩, ⟨zco⟩, ⟨zad⟩, ⟨z6⟩, ⟨zr⟩⟩
             ·rw [if_neg c33] at H
              have c33b0 : decide (((rd_T60 l0_3 x4_2).f0) ≤ ((rd_T60 l0_3 (ji30)).f0)) = false := decide_eq_false c33
              clear c33
              replace H := Option.bind_eq_some_iff.mp H
              obtain ⟨t138, A370, H⟩ := H
              replace H : (spec_MetaOk.j2 k2 x3_2 x4_2 (!t138) a0_0 a0_1 a0_2 l0_3 ((rd_T60 l0_3 x4_2).f0) ((rd_T60 l0_3 x4_2).f1)) = some r := H
              have A37 := qo A370
              clear A370
              have H' := qo H
              clear H
              have hnb38 := NB135_127.out
              have hnc38 := NB127_135.out
              have hcz39_0 : w24.cell? ⟨gb135, 0, none⟩ = some (.int .i64 0) := (qs BK135.out 0).trans rfl
              have hcz39_1 : w24.cell? ⟨gb135, 1, none⟩ = some (.slice none 0 0) := (qs BK135.out 1).trans rfl
              have hfz39_0 := qu BK135.out 0
              have hfz39_1 := qu BK135.out 1
              have hcz40_0 : w24.cell? ⟨gb127, 0, none⟩ = some (.int .i64 a0_0) := (qs BK127.out 0).trans rfl
              have hcz40_1 : w24.cell? ⟨gb127, 1, none⟩ = some (.int .i64 a0_1) := (qs BK127.out 1).trans rfl
              have hcz40_2 : w24.cell? ⟨gb127, 2, none⟩ = some (.int .i64 a0_2) := (qs BK127.out 2).trans rfl
              have hcz40_3 : w24.cell? ⟨gb127, 3, none⟩ = some (.slice (some ad134) l0_3.length c0_3) := (qs BK127.out 3).trans rfl
              have hfz40_0 := qu BK127.out 0
              have hfz40_1 := qu BK127.out 1
              have hfz40_2 := qu BK127.out 2
              have hfz40_3 := qu BK127.out 3
              go_wp2_with (first | (go_at_call 45; (with_reducible refine (spec_l01In.calls ((rd_T60 l0_3 x4_2).f0) 1 a0_0 true _ A27.out).mono ?_); rintro e w' ⟨rfl, ⟨nd, rfl⟩⟩; (try first | exact ⟨rfl, _, World.drewN_drewN _ _ _⟩ | exact ⟨rfl, _, Eq.trans (World.drewN_drewN _ _ _) (congrArg (World.drewN _) (Nat.add_assoc _ _ _))⟩); have p137 : 0 ≤ ((ji30) : Int) := of_decide_eq_true zb; have q137 : (ji30) < (l0_3.length : Int) := of_decide_eq_true zb; obtain ⟨ad137, A137_1, c137_1, e137, hx137_0, hx137_1, hl137_1, hi137_1⟩ := at_T60 HR0_3.out (ji30) p137 q137; obtain rfl : ad134 = ad137 := (by injection e137); have hn137_0 : ad134.block ≠ gb135 := Nat.ne_of_lt (Nat.lt_of_lt_of_le zat GW135.out); have hn137_1 : ad134.block ≠ gb135 := Nat.ne_of_lt (Nat.lt_of_lt_of_le zat GW135.out); replace hx137_0 := (HB.out.cell (World.block_lt_of_cell? w _ hx137_0)).trans hx137_0; replace hx137_1 := (HB.out.cell (World.block_lt_of_cell? w _ hx137_1)).trans hx137_1; have HR137_1 := qo hi137_1; have HC137_1 := qo hl137_1; clear hi137_1 hl137_1; replace hx137_0 := (cell_far (p := ⟨gb135, 0, none⟩) zag (.int .i64 ((rd_T60 l0_3 x4_2).f0))).trans hx137_0; replace hx137_1 := (cell_far (p := ⟨gb135, 0, none⟩) zag (.int .i64 ((rd_T60 l0_3 x4_2).f0))).trans hx137_1; replace hx137_0 := (cell_far (p := ⟨gb135, 1, none⟩) zah (.slice A134_1 ((rd_T60 l0_3 x4_2).f1).length c134_1)).trans hx137_0; replace hx137_1 := (cell_far (p := ⟨gb135, 1, none⟩) zah (.slice A134_1 ((rd_T60 l0_3 x4_2).f1).length c134_1)).trans hx137_1; (try have hy137_0 := fun (n_ : Nat) => (show ((((w24.drewN n_).setCell ⟨gb135, 0, none⟩ (.int .i64 ((rd_T60 l0_3 x4_2).f0))).setCell ⟨gb135, 1, none⟩ (.slice A134_1 ((rd_T60 l0_3 x4_2).f1).length c134_1))).cell? _ = some _ from hx137_0)); (try have hy137_1 := fun (n_ : Nat) => (show ((((w24.drewN n_).setCell ⟨gb135, 0, none⟩ (.int .i64 ((rd_T60 l0_3 x4_2).f0))).setCell ⟨gb135, 1, none⟩ (.slice A134_1 ((rd_T60 l0_3 x4_2).f1).length c134_1))).cell? _ = some _ from hx137_1)); clear hn137_0; clear hn137_1; replace p137 := eq_true p137; replace q137 := eq_true q137) | (go_at_call 45; (with_reducible refine (spec_l01In.calls (((rd_T60 l0_3 x4_2).f1).length : Int) 1 40 t138 _ A37.out).mono ?_); rintro e w' ⟨rfl, ⟨nd, rfl⟩⟩; (try first | exact ⟨rfl, _, World.drewN_drewN _ _ _⟩ | exact ⟨rfl, _, Eq.trans (World.drewN_drewN _ _ _) (congrArg (World.drewN _) (Nat.add_assoc _ _ _))⟩)))
              repeat (go_quiet (first | (go_at_call 45; (with_reducible refine (spec_l01In.calls ((rd_T60 l0_3 x4_2).f0) 1 a0_0 true _ A27.out).mono ?_); rintro e w' ⟨rfl, ⟨nd, rfl⟩⟩; (try first | exact ⟨rfl, _, World.drewN_drewN _ _ _⟩ | exact ⟨rfl, _, Eq.trans (World.drewN_drewN _ _ _) (congrArg (World.drewN _) (Nat.add_assoc _ _ _))⟩); have p137 : 0 ≤ ((ji30) : Int) := of_decide_eq_true zb; have q137 : (ji30) < (l0_3.length : Int) := of_decide_eq_true zb; obtain ⟨ad137, A137_1, c137_1, e137, hx137_0, hx137_1, hl137_1, hi137_1⟩ := at_T60 HR0_3.out (ji30) p137 q137; obtain rfl : ad134 = ad137 := (by injection e137); have hn137_0 : ad134.block ≠ gb135 := Nat.ne_of_lt (Nat.lt_of_lt_of_le zat GW135.out); have hn137_1 : ad134.block ≠ gb135 := Nat.ne_of_lt (Nat.lt_of_lt_of_le zat GW135.out); replace hx137_0 := (HB.out.cell (World.block_lt_of_cell? w _ hx137_0)).trans hx137_0; replace hx137_1 := (HB.out.cell (World.block_lt_of_cell? w _ hx137_1)).trans hx137_1; have HR137_1 := qo hi137_1; have HC137_1 := qo hl137_1; clear hi137_1 hl137_1; replace hx137_0 := (cell_far (p := ⟨gb135, 0, none⟩) zag (.int .i64 ((rd_T60 l0_3 x4_2).f0))).trans hx137_0; replace hx137_1 := (cell_far (p := ⟨gb135, 0, none⟩) zag (.int .i64 ((rd_T60 l0_3 x4_2).f0))).trans hx137_1; replace hx137_0 := (cell_far (p := ⟨gb135, 1, none⟩) zah (.slice A134_1 ((rd_T60 l0_3 x4_2).f1).length c134_1)).trans hx137_0; replace hx137_1 := (cell_far (p := ⟨gb135, 1, none⟩) zah (.slice A134_1 ((rd_T60 l0_3 x4_2).f1).length c134_1)).trans hx137_1; (try have hy137_0 := fun (n_ : Nat) => (show ((((w24.drewN n_).setCell ⟨gb135, 0, none⟩ (.int .i64 ((rd_T60 l0_3 x4_2).f0))).setCell ⟨gb135, 1, none⟩ (.slice A134_1 ((rd_T60 l0_3 x4_2).f1).length c134_1))).cell? _ = some _ from hx137_0)); (try have hy137_1 := fun (n_ : Nat) => (show ((((w24.drewN n_).setCell ⟨gb135, 0, none⟩ (.int .i64 ((rd_T60 l0_3 x4_2).f0))).setCell ⟨gb135, 1, none⟩ (.slice A134_1 ((rd_T60 l0_3 x4_2).f1).length c134_1))).cell? _ = some _ from hx137_1)); clear hn137_0; clear hn137_1; replace p137 := eq_true p137; replace q137 := eq_true q137) | (go_at_call 45; (with_reducible refine (spec_l01In.calls (((rd_T60 l0_3 x4_2).f1).length : Int) 1 40 t138 _ A37.out).mono ?_); rintro e w' ⟨rfl, ⟨nd, rfl⟩⟩; (try first | exact ⟨rfl, _, World.drewN_drewN _ _ _⟩ | exact ⟨rfl, _, Eq.trans (World.drewN_drewN _ _ _) (congrArg (World.drewN _) (Nat.add_assoc _ _ _))⟩))); try go_wp2_with (first | (go_at_call 45; (with_reducible refine (spec_l01In.calls ((rd_T60 l0_3 x4_2).f0) 1 a0_0 true _ A27.out).mono ?_); rintro e w' ⟨rfl, ⟨nd, rfl⟩⟩; (try first | exact ⟨rfl, _, World.drewN_drewN _ _ _⟩ | exact ⟨rfl, _, Eq.trans (World.drewN_drewN _ _ _) (congrArg (World.drewN _) (Nat.add_assoc _ _ _))⟩); have p137 : 0 ≤ ((ji30) : Int) := of_decide_eq_true zb; have q137 : (ji30) < (l0_3.length : Int) := of_decide_eq_true zb; obtain ⟨ad137, A137_1, c137_1, e137, hx137_0, hx137_1, hl137_1, hi137_1⟩ := at_T60 HR0_3.out (ji30) p137 q137; obtain rfl : ad134 = ad137 := (by injection e137); have hn137_0 : ad134.block ≠ gb135 := Nat.ne_of_lt (Nat.lt_of_lt_of_le zat GW135.out); have hn137_1 : ad134.block ≠ gb135 := Nat.ne_of_lt (Nat.lt_of_lt_of_le zat GW135.out); replace hx137_0 := (HB.out.cell (World.block_lt_of_cell? w _ hx137_0)).trans hx137_0; replace hx137_1 := (HB.out.cell (World.block_lt_of_cell? w _ hx137_1)).trans hx137_1; have HR137_1 := qo hi137_1; have HC137_1 := qo hl137_1; clear hi137_1 hl137_1; replace hx137_0 := (cell_far (p := ⟨gb135, 0, none⟩) zag (.int .i64 ((rd_T60 l0_3 x4_2).f0))).trans hx137_0; replace hx137_1 := (cell_far (p := ⟨gb135, 0, none⟩) zag (.int .i64 ((rd_T60 l0_3 x4_2).f0))).trans hx137_1; replace hx137_0 := (cell_far (p := ⟨gb135, 1, none⟩) zah (.slice A134_1 ((rd_T60 l0_3 x4_2).f1).length c134_1)).trans hx137_0; replace hx137_1 := (cell_far (p := ⟨gb135, 1, none⟩) zah (.slice A134_1 ((rd_T60 l0_3 x4_2).f1).length c134_1)).trans hx137_1; (try have hy137_0 := fun (n_ : Nat) => (show ((((w24.drewN n_).setCell ⟨gb135, 0, none⟩ (.int .i64 ((rd_T60 l0_3 x4_2).f0))).setCell ⟨gb135, 1, none⟩ (.slice A134_1 ((rd_T60 l0_3 x4_2).f1).length c134_1))).cell? _ = some _ from hx137_0)); (try have hy137_1 := fun (n_ : Nat) => (show ((((w24.drewN n_).setCell ⟨gb135, 0, none⟩ (.int .i64 ((rd_T60 l0_3 x4_2).f0))).setCell ⟨gb135, 1, none⟩ (.slice A134_1 ((rd_T60 l0_3 x4_2).f1).length c134_1))).cell? _ = some _ from hx137_1)); clear hn137_0; clear hn137_1; replace p137 := eq_true p137; replace q137 := eq_true q137) | (go_at_call 45; (with_reducible refine (spec_l01In.calls (((rd_T60 l0_3 x4_2).f1).length : Int) 1 40 t138 _ A37.out).mono ?_); rintro e w' ⟨rfl, ⟨nd, rfl⟩⟩; (try first | exact ⟨rfl, _, World.drewN_drewN _ _ _⟩ | exact ⟨rfl, _, Eq.trans (World.drewN_drewN _ _ _) (congrArg (World.drewN _) (Nat.add_assoc _ _ _))⟩))))
              go_meet
              case rel => exact ⟨_, (!t138), zc, H', ⟨zb2⟩, ⟨zco⟩, ⟨zad⟩, ⟨z6⟩, ⟨zr⟩⟩
            ·rw [if_neg c32] at H
             exact absurd H zbh
           ·rw [if_neg c31] at H
            exact absurd H zbh
          ·rw [if_neg c29] at H
           have c29b0 : decide (0 < x4_2) = false := decide_eq_false c29
           clear c29
           (first | rw [c29b0] | (simp only [i64_w, i32_w]; rw [c29b0]) | skip)
           replace H := Option.bind_eq_some_iff.mp H
           obtain ⟨t139, A410, H⟩ := H
           replace H : (spec_MetaOk.j2 k2 x3_2 x4_2 (!t139) a0_0 a0_1 a0_2 l0_3 ((rd_T60 l0_3 x4_2).f0) ((rd_T60 l0_3 x4_2).f1)) = some r := H
           have A41 := qo A410
           clear A410
           have H' := qo H
           clear H
           have hnb42 := NB135_127.out
           have hnc42 := NB127_135.out
           have hcz43_0 : w24.cell? ⟨gb135, 0, none⟩ = some (.int .i64 0) := (qs BK135.out 0).trans rfl
           have hcz43_1 : w24.cell? ⟨gb135, 1, none⟩ = some (.slice none 0 0) := (qs BK135.out 1).trans rfl
           have hfz43_0 := qu BK135.out 0
           have hfz43_1 := qu BK135.out 1
           have hcz44_0 : w24.cell? ⟨gb127, 0, none⟩ = some (.int .i64 a0_0) := (qs BK127.out 0).trans rfl
           have hcz44_1 : w24.cell? ⟨gb127, 1, none⟩ = some (.int .i64 a0_1) := (qs BK127.out 1).trans rfl
           have hcz44_2 : w24.cell? ⟨gb127, 2, none⟩ = some (.int .i64 a0_2) := (qs BK127.out 2).trans rfl
           have hcz44_3 : w24.cell? ⟨gb127, 3, none⟩ = some (.slice (some ad134) l0_3.length c0_3) := (qs BK127.out 3).trans rfl
           have hfz44_0 := qu BK127.out 0
           have hfz44_1 := qu BK127.out 1
           have hfz44_2 := qu BK127.out 2
           have hfz44_3 := qu BK127.out 3
           go_wp2_with (first | (go_at_call 45; (with_reducible refine (spec_l01In.calls ((rd_T60 l0_3 x4_2).f0) 1 a0_0 true _ A27.out).mono ?_); rintro e w' ⟨rfl, ⟨nd, rfl⟩⟩; (try first | exact ⟨rfl, _, World.drewN_drewN _ _ _⟩ | exact ⟨rfl, _, Eq.trans (World.drewN_drewN _ _ _) (congrArg (World.drewN _) (Nat.add_assoc _ _ _))⟩)) | (go_at_call 45; (with_reducible refine (spec_l01In.calls (((rd_T60 l0_3 x4_2).f1).length : Int) 1 40 t139 _ A41.out).mono ?_); rintro e w' ⟨rfl, ⟨nd, rfl⟩⟩; (try first | exact ⟨rfl, _, World.drewN_drewN _ _ _⟩ | exact ⟨rfl, _, Eq.trans (World.drewN_drewN _ _ _) (congrArg (World.drewN _) (Nat.add_assoc _ _ _))⟩)))
           repeat (go_quiet (first | (go_at_call 45; (with_reducible refine (spec_l01In.calls ((rd_T60 l0_3 x4_2).f0) 1 a0_0 true _ A27.out).mono ?_); rintro e w' ⟨rfl, ⟨nd, rfl⟩⟩; (try first | exact ⟨rfl, _, World.drewN_drewN _ _ _⟩ | exact ⟨rfl, _, Eq.trans (World.drewN_drewN _ _ _) (congrArg (World.drewN _) (Nat.add_assoc _ _ _))⟩)) | (go_at_call 45; (with_reducible refine (spec_l01In.calls (((rd_T60 l0_3 x4_2).f1).length : Int) 1 40 t139 _ A41.out).mono ?_); rintro e w' ⟨rfl, ⟨nd, rfl⟩⟩; (try first | exact ⟨rfl, _, World.drewN_drewN _ _ _⟩ | exact ⟨rfl, _, Eq.trans (World.drewN_drewN _ _ _) (congrArg (World.drewN _) (Nat.add_assoc _ _ _))⟩))); try go_wp2_with (first | (go_at_call 45; (with_reducible refine (spec_l01In.calls ((rd_T60 l0_3 x4_2).f0) 1 a0_0 true _ A27.out).mono ?_); rintro e w' ⟨rfl, ⟨nd, rfl⟩⟩; (try first | exact ⟨rfl, _, World.drewN_drewN _ _ _⟩ | exact ⟨rfl, _, Eq.trans (World.drewN_drewN _ _ _) (congrArg (World.drewN _) (Nat.add_assoc _ _ _))⟩)) | (go_at_call 45; (with_reducible refine (spec_l01In.calls (((rd_T60 l0_3 x4_2).f1).length : Int) 1 40 t139 _ A41.out).mono ?_); rintro e w' ⟨rfl, ⟨nd, rfl⟩⟩; (try first | exact ⟨rfl, _, World.drewN_drewN _ _ _⟩ | exact ⟨rfl, _, Eq.trans (World.drewN_drewN _ _ _) (congrArg (World.drewN _) (Nat.add_assoc _ _ _))⟩))))
           go_meet
           case rel => exact ⟨_, (!t139), zc, H', ⟨zb2⟩, ⟨zco⟩, ⟨zad⟩, ⟨z6⟩, ⟨zr⟩⟩
         ·replace c28 := Bool.eq_false_iff.mpr c28
          subst c28
          have H1 : (spec_MetaOk.j2 k2 x3_2 x4_2 true a0_0 a0_1 a0_2 l0_3 ((rd_T60 l0_3 x4_2).f0) ((rd_T60 l0_3 x4_2).f1)) = some r := by rw [if_neg (show ¬ (false = true) by decide)] at H; exact H
          clear H
          have H := H1
          clear H1
          have H' := qo H
          clear H
          have hnb45 := NB135_127.out
          have hnc45 := NB127_135.out
          have hcz46_0 : w24.cell? ⟨gb135, 0, none⟩ = some (.int .i64 0) := (qs BK135.out 0).trans rfl
          have hcz46_1 : w24.cell? ⟨gb135, 1, none⟩ = some (.slice none 0 0) := (qs BK135.out 1).trans rfl
          have hfz46_0 := qu BK135.out 0
          have hfz46_1 := qu BK135.out 1
          have hcz47_0 : w24.cell? ⟨gb127, 0, none⟩ = some (.int .i64 a0_0) := (qs BK127.out 0).trans rfl
          have hcz47_1 : w24.cell? ⟨gb127, 1, none⟩ = some (.int .i64 a0_1) := (qs BK127.out 1).trans rfl
          have hcz47_2 : w24.cell? ⟨gb127, 2, none⟩ = some (.int .i64 a0_2) := (qs BK127.out 2).trans rfl
          have hcz47_3 : w24.cell? ⟨gb127, 3, none⟩ = some (.slice (some ad134) l0_3.length c0_3) := (qs BK127.out 3).trans rfl
          have hfz47_0 := qu BK127.out 0
          have hfz47_1 := qu BK127.out 1
          have hfz47_2 := qu BK127.out 2
          have hfz47_3 := qu BK127.out 3
          go_wp2_with (first | (go_at_call 45; (with_reducible refine (spec_l01In.calls ((rd_T60 l0_3 x4_2).f0) 1 a0_0 false _ A27.out).mono ?_); rintro e w' ⟨rfl, ⟨nd, rfl⟩⟩; (try first | exact ⟨rfl, _, World.drewN_drewN _ _ _⟩ | exact ⟨rfl, _, Eq.trans (World.drewN_drewN _ _ _) (congrArg (World.drewN _) (Nat.add_assoc _ _ _))⟩)))
          repeat (go_quiet (first | (go_at_call 45; (with_reducible refine (spec_l01In.calls ((rd_T60 l0_3 x4_2).f0) 1 a0_0 false _ A27.out).mono ?_); rintro e w' ⟨rfl, ⟨nd, rfl⟩⟩; (try first | exact ⟨rfl, _, World.drewN_drewN _ _ _⟩ | exact ⟨rfl, _, Eq.trans (World.drewN_drewN _ _ _) (congrArg (World.drewN _) (Nat.add_assoc _ _ _))⟩))); try go_wp2_with (first | (go_at_call 45; (with_reducible refine (spec_l01In.calls ((rd_T60 l0_3 x4_2).f0) 1 a0_0 false _ A27.out).mono ?_); rintro e w' ⟨rfl, ⟨nd, rfl⟩⟩; (try first | exact ⟨rfl, _, World.drewN_drewN _ _ _⟩ | exact ⟨rfl, _, Eq.trans (World.drewN_drewN _ _ _) (congrArg (World.drewN _) (Nat.add_assoc _ _ _))⟩))))
          go_meet
          case rel => exact ⟨_, (true), zc, H', ⟨zb2⟩, ⟨zco⟩, ⟨zad⟩, ⟨z6⟩, ⟨zr⟩⟩
        case rest =>
         clear HC22
         (try clear c1); (try clear c2); (try clear p2); (try clear c3); (try clear c4); (try clear c13); (try clear c28); (try clear c29); (try clear c29b0); (try clear c31); (try clear c32)
         obtain ⟨kq, x80_21, rfl, HA, HJ21, HO_3, BK127, BK135, HB⟩ := hcut
         cases kq with
         | zero => exact absurd HA.out (by simp [spec_MetaOk.j2])
         | succ kj21 =>
          have H := HA.out
          clear HA
          simp only [spec_MetaOk.j2] at H
          by_cases c44 : x80_21 = true
          ·subst c44
           have H1 : (some false) = some r := by rw [if_pos rfl] at H; exact H
           clear H
           have H := H1
           clear H1
           obtain rfl := Option.some.inj H
           go_wp2
           go_ret
           exact ⟨zd, zr⟩
          ·replace c44 := Bool.eq_false_iff.mpr c44
           subst c44
           have H1 : (spec_MetaOk.l1 kj21 x3_2 x4_2 0 a0_0 a0_1 a0_2 l0_3 ((rd_T60 l0_3 x4_2).f0) ((rd_T60 l0_3 x4_2).f1)) = some r := by rw [if_neg (show ¬ (false = true) by decide)] at H; exact H
           clear H
           have H := H1
           clear H1
           have H' := qo H
           clear H
           go_wp2
           go_loopg [3, 6] kj21 (fun kq v3 v6 w' => ∃ (x3_4 : List Int) (x6_4 : Int), v6 = .int .i64 x6_4 ∧ Aside0 (spec_MetaOk.l1 kq x3_4 x4_2 x6_4 a0_0 a0_1 a0_2 l0_3 ((rd_T60 l0_3 x4_2).f0) ((rd_T60 l0_3 x4_2).f1) = some r) ∧ Aside0 (kq ≤ kj21) ∧ Aside0 (Kd.R (Kd.int .i64) 3 w' w.heap.size (fun _ => True) v3 x3_4) ∧ Aside0 (w'.heap[gb127]? = some (.cells #[.int .i64 a0_0, .int .i64 a0_1, .int .i64 a0_2, (.slice (some ad134) l0_3.length c0_3)] 24 (0, 0))) ∧ Aside0 (w'.heap[gb135]? = some (.cells #[.int .i64 ((rd_T60 l0_3 x4_2).f0), (.slice A134_1 ((rd_T60 l0_3 x4_2).f1).length c134_1)] 60 (0, 0))) ∧ Aside0 (Below w.heap.size w w'))
           case atStart => exact ⟨(x3_2), (0), zc, H', ⟨Nat.le_refl _⟩, ⟨zs⟩, ⟨z3⟩, ⟨za6⟩, ⟨zr⟩⟩
           case round =>
            clear H'
            (try clear c1); (try clear c2); (try clear p2); (try clear c3); (try clear c4); (try clear c13); (try clear c28); (try clear c29); (try clear c29b0); (try clear c31); (try clear c32); (try clear c44); (try clear p2)
            obtain ⟨x3_4, x6_4, rfl, HA, HK4, HO_3, BK127, BK135, HB⟩ := hrel
            cases gk with
            | zero => exact absurd HA.out (by simp [spec_MetaOk.l1])
            | succ k4 =>
             have H := HA.out
             clear HA
             simp only [spec_MetaOk.l1] at H
             by_cases c45 : x6_4 < (((rd_T60 l0_3 x4_2).f1).length : Int)
             ·rw [if_pos c45] at H
              have c45b0 : decide (x6_4 < (((rd_T60 l0_3 x4_2).f1).length : Int)) = true := decide_eq_true c45
              clear c45
              have HC46 := qo H
              clear H
              have hnb47 := NB135_127.out
              have hnc47 := NB127_135.out
              have hcz48_0 : wr.cell? ⟨gb135, 0, none⟩ = some (.int .i64 ((rd_T60 l0_3 x4_2).f0)) := (qs BK135.out 0).trans rfl
              have hcz48_1 : wr.cell? ⟨gb135, 1, none⟩ = some (.slice A134_1 ((rd_T60 l0_3 x4_2).f1).length c134_1) := (qs BK135.out 1).trans rfl
              have hfz48_0 := qu BK135.out 0
              have hfz48_1 := qu BK135.out 1
              go_upto_region 13 with (fail)
              go_cut [124] (fun v124 wc => ∃ (kq : Nat) (x124_45 : Bool), v124 = .bool x124_45 ∧ Aside0 (spec_MetaOk.j4 kq x3_4 x4_2 x6_4 x124_45 a0_0 a0_1 a0_2 l0_3 ((rd_T60 l0_3 x4_2).f0) ((rd_T60 l0_3 x4_2).f1) = some r) ∧ Aside0 (kq ≤ k4) ∧ Aside0 (Kd.R (Kd.int .i64) 3 wc w.heap.size (fun _ => True) u3 x3_4) ∧ Aside0 (wc.heap[gb127]? = some (.cells #[.int .i64 a0_0, .int .i64 a0_1, .int .i64 a0_2, (.slice (some ad134) l0_3.length c0_3)] 24 (0, 0))) ∧ Aside0 (wc.heap[gb135]? = some (.cells #[.int .i64 ((rd_T60 l0_3 x4_2).f0), (.slice A134_1 ((rd_T60 l0_3 x4_2).f1).length c134_1)] 60 (0, 0))) ∧ Aside0 (Below w.heap.size w wc))
              case first =>
               have H := HC46.out
               clear HC46
               by_cases c49 : 0 ≤ x6_4
               ·rw [if_pos c49] at H
                have c49b0 : decide (0 ≤ x6_4) = true := decide_eq_true c49
                clear c49
                (first | rw [c49b0] | (simp only [i64_w, i32_w]; rw [c49b0]) | skip)
                replace H := Option.bind_eq_some_iff.mp H
                obtain ⟨t141, A500, H⟩ := H
                replace H : (if t141 = true then (if x6_4 > 0 then (if 0 ≤ (wrap64 (x6_4 - 1)) then (if (wrap64 (x6_4 - 1)) < (((rd_T60 l0_3 x4_2).f1).length : Int) then (if (rd ((rd_T60 l0_3 x4_2).f1) (wrap64 (x6_4 - 1))) ≥ (rd ((rd_T60 l0_3 x4_2).f1) x6_4) then (spec_MetaOk.j4 k4 x3_4 x4_2 x6_4 true a0_0 a0_1 a0_2 l0_3 ((rd_T60 l0_3 x4_2).f0) ((rd_T60 l0_3 x4_2).f1)) else ((spec_l06In.f k4 x3_4 (rd ((rd_T60 l0_3 x4_2).f1) x6_4)).bind fun t145 => (spec_MetaOk.j4 k4 x3_4 x4_2 x6_4 t145 a0_0 a0_1 a0_2 l0_3 ((rd_T60 l0_3 x4_2).f0) ((rd_T60 l0_3 x4_2).f1)))) else (none)) else (none)) else ((spec_l06In.f k4 x3_4 (rd ((rd_T60 l0_3 x4_2).f1) x6_4)).bind fun t147 => (spec_MetaOk.j4 k4 x3_4 x4_2 x6_4 t147 a0_0 a0_1 a0_2 l0_3 ((rd_T60 l0_3 x4_2).f0) ((rd_T60 l0_3 x4_2).f1)))) else (spec_MetaOk.j4 k4 x3_4 x4_2 x6_4 true a0_0 a0_1 a0_2 l0_3 ((rd_T60 l0_3 x4_2).f0) ((rd_T60 l0_3 x4_2).f1))) = some r := H
                have A50 := qo A500
                clear A500
                by_cases c51 : t141 = true
                ·subst c51
                 have H1 : (if x6_4 > 0 then (if 0 ≤ (wrap64 (x6_4 - 1)) then (if (wrap64 (x6_4 - 1)) < (((rd_T60 l0_3 x4_2).f1).length : Int) then (if (rd ((rd_T60 l0_3 x4_2).f1) (wrap64 (x6_4 - 1))) ≥ (rd ((rd_T60 l0_3 x4_2).f1) x6_4) then (spec_MetaOk.j4 k4 x3_4 x4_2 x6_4 true a0_0 a0_1 a0_2 l0_3 ((rd_T60 l0_3 x4_2).f0) ((rd_T60 l0_3 x4_2).f1)) else ((spec_l06In.f k4 x3_4 (rd ((rd_T60 l0_3 x4_2).f1) x6_4)).bind fun t145 => (spec_MetaOk.j4 k4 x3_4 x4_2 x6_4 t145 a0_0 a0_1 a0_2 l0_3 ((rd_T60 l0_3 x4_2).f0) ((rd_T60 l0_3 x4_2).f1)))) else (none)) else (none)) else ((spec_l06In.f k4 x3_4 (rd ((rd_T60 l0_3 x4_2).f1) x6_4)).bind fun t147 => (spec_MetaOk.j4 k4 x3_4 x4_2 x6_4 t147 a0_0 a0_1 a0_2 l0_3 ((rd_T60 l0_3 x4_2).f0) ((rd_T60 l0_3 x4_2).f1)))) = some r := by rw [if_pos rfl] at H; exact H
                 clear H
                 have H := H1
                 clear H1
                 by_cases c52 : x6_4 > 0
                 ·rw [if_pos c52] at H
                  have c52b0 : decide (0 < x6_4) = true := decide_eq_true c52
                  clear c52
                  obtain ⟨ji53, hji53⟩ : ∃ j_ : Int, (wrap64 (x6_4 - 1)) = j_ := ⟨_, rfl⟩
                  replace H : (if 0 ≤ (ji53) then (if (ji53) < (((rd_T60 l0_3 x4_2).f1).length : Int) then (if (rd ((rd_T60 l0_3 x4_2).f1) (ji53)) ≥ (rd ((rd_T60 l0_3 x4_2).f1) x6_4) then (spec_MetaOk.j4 k4 x3_4 x4_2 x6_4 true a0_0 a0_1 a0_2 l0_3 ((rd_T60 l0_3 x4_2).f0) ((rd_T60 l0_3 x4_2).f1)) else ((spec_l06In.f k4 x3_4 (rd ((rd_T60 l0_3 x4_2).f1) x6_4)).bind fun t145 => (spec_MetaOk.j4 k4 x3_4 x4_2 x6_4 t145 a0_0 a0_1 a0_2 l0_3 ((rd_T60 l0_3 x4_2).f0) ((rd_T60 l0_3 x4_2).f1)))) else (none)) else (none)) = some r := by first | (rw [hji53] at H; exact H) | (simp only [hji53] at H ⊢; exact H)
                  (try rw [hji53] at A50)
                  have hji53w : (IntKind.i64.wrap (x6_4 - 1)) = ji53 := (i64_w _).trans hji53
                  by_cases c54 : 0 ≤ (ji53)
                  ·rw [if_pos c54] at H
                   have c54b0 : decide (0 ≤ (ji53)) = true := decide_eq_true c54
                   clear c54
                   by_cases c55 : (ji53) < (((rd_T60 l0_3 x4_2).f1).length : Int)
                   ·rw [if_pos c55] at H
                    have c55b0 : decide ((ji53) < (((rd_T60 l0_3 x4_2).f1).length : Int)) = true := decide_eq_true c55
                    clear c55
                    by_cases c56 : (rd ((rd_T60 l0_3 x4_2).f1) (ji53)) ≥ (rd ((rd_T60 l0_3 x4_2).f1) x6_4)
                    ·rw [if_pos c56] at H
                     have c56b0 : decide ((rd ((rd_T60 l0_3 x4_2).f1) x6_4) ≤ (rd ((rd_T60 l0_3 x4_2).f1) (ji53))) = true := decide_eq_true c56
                     clear c56
                     have H' := qo H
                     clear H
                     try go_wp2
                     have n0_ := qo (Kd.R_drew HO_3.out)
                     have n1_ := qo (qj BK127.out)
                     have n2_ := qo (qj BK135.out)
                     have n3_ := qo (qn HB.out)
                     clear HO_3
                     clear BK127
                     clear BK135
                     clear HB
                     have HO_3 := n0_
                     have BK127 := n1_
                     have BK135 := n2_
                     have HB := n3_
                     clear n0_ n1_ n2_ n3_
                     have p140 : 0 ≤ (x6_4 : Int) := of_decide_eq_true zb
                     have q140 : x6_4 < (((rd_T60 l0_3 x4_2).f1).length : Int) := of_decide_eq_true zb
                     obtain ⟨ad140, e140, hx140_0⟩ := Kd.at_int HR134_1.out x6_4 p140 q140
                     have hw140_0 := hx140_0
                     cases e140
                     replace hx140_0 := (HB.out.cell (World.block_lt_of_cell? w _ hx140_0)).trans hx140_0
                     replace p140 := eq_true p140
                     replace q140 := eq_true q140
                     have p142 : 0 ≤ ((ji53) : Int) := of_decide_eq_true zb
                     have q142 : (ji53) < (((rd_T60 l0_3 x4_2).f1).length : Int) := of_decide_eq_true zb
                     obtain ⟨ad142, e142, hx142_0⟩ := Kd.at_int HR134_1.out (ji53) p142 q142
                     have hw142_0 := hx142_0
                     obtain rfl : ad140 = ad142 := (by injection e142)
                     replace hx142_0 := (HB.out.cell (World.block_lt_of_cell? w _ hx142_0)).trans hx142_0
                     replace p142 := eq_true p142
                     replace q142 := eq_true q142
                     have p143 : 0 ≤ (x6_4 : Int) := of_decide_eq_true zb
                     have q143 : x6_4 < (((rd_T60 l0_3 x4_2).f1).length : Int) := of_decide_eq_true zb
                     obtain ⟨ad143, e143, hx143_0⟩ := Kd.at_int HR134_1.out x6_4 p143 q143
                     have hw143_0 := hx143_0
                     obtain rfl : ad140 = ad143 := (by injection e143)
                     replace hx143_0 := (HB.out.cell (World.block_lt_of_cell? w _ hx143_0)).trans hx143_0
                     replace p143 := eq_true p143
                     replace q143 := eq_true q143
                     refine start_ (n := 37) (S := fun w' => w'.cell? ⟨gb135, 0, none⟩ = some (.int .i64 ((rd_T60 l0_3 x4_2).f0)) ∧ w'.cell? ⟨gb135, 1, none⟩ = some (.slice (some ad140) ((rd_T60 l0_3 x4_2).f1).length c134_1) ∧ w'.cell? ⟨gb127, 0, none⟩ = some (.int .i64 a0_0) ∧ w'.cell? ⟨gb127, 1, none⟩ = some (.int .i64 a0_1) ∧ w'.cell? ⟨gb127, 2, none⟩ = some (.int .i64 a0_2) ∧ w'.cell? ⟨gb127, 3, none⟩ = some (.slice (some ad134) l0_3.length c0_3) ∧ w'.cell? (ad140.add (x6_4).toNat) = some (.int .i64 (rd ((rd_T60 l0_3 x4_2).f1) x6_4)) ∧ w'.cell? (ad140.add ((ji53)).toNat) = some (.int .i64 (rd ((rd_T60 l0_3 x4_2).f1) (ji53))) ∧ w'.cell? (ad140.add (x6_4).toNat) = some (.int .i64 (rd ((rd_T60 l0_3 x4_2).f1) x6_4))) (ds := []) (bz 37 0) ze rfl rfl ⟨(qs BK135.out 0).trans rfl, (qs BK135.out 1).trans rfl, (qs BK127.out 0).trans rfl, (qs BK127.out 1).trans rfl, (qs BK127.out 2).trans rfl, (qs BK127.out 3).trans rfl, ((HB.out.cell (World.block_lt_of_cell? w _ hw140_0)).trans hw140_0), ((HB.out.cell (World.block_lt_of_cell? w _ hw142_0)).trans hw142_0), ((HB.out.cell (World.block_lt_of_cell? w _ hw143_0)).trans hw143_0)⟩ (fun hHeld => ?_); refine with_tabW spec_MetaOk.tab13 spec_MetaOk.bits13 (fun HT_ HW_ => ?_)
                     generalize wr.drew = w57 at HO_3 BK127 BK135 HB hx140_0 hx142_0 hx143_0 hHeld ⊢
                     refine pure_ (i := 0) (N := some 88) (v := ?_) (a' := ?_) (bz 37 1) rfl rfl (any_of HT_.out ze) (fun _ _ _ h => h) (Or.inl ⟨zae, ?_⟩) ?_ ?_; rotate_left; (intro w'; go_simp; with_reducible rfl); rotate_left; (simp only [Act.put, qa, qb, qc, i64_w, i32_w]; rfl)
                     refine pure_ (i := 2) (N := some 90) (v := ?_) (a' := ?_) (bz 37 5) rfl rfl (any_of HT_.out ze) (fun _ _ _ h => h) (Or.inl ⟨zae, ?_⟩) ?_ ?_; rotate_left; (intro w'; go_simp; with_reducible rfl); rotate_left; (simp only [Act.put, qa, qb, qc, i64_w, i32_w]; rfl)
                     refine pure_ (i := 5) (N := some 93) (v := ?_) (a' := ?_) (bz 37 37) rfl rfl (any_of HT_.out ze) (fun _ _ _ h => h) (Or.inl ⟨zae, ?_⟩) ?_ ?_; rotate_left; (intro w'; go_simp; with_reducible rfl); rotate_left; (simp only [Act.put, qa, qb, qc, i64_w, i32_w]; rfl)
                     refine take_ (i := 1) (N := some 89) (v := ?_) (a' := ?_) (bz 37 39) rfl rfl (take_ofW HT_.out HW_.out ze) (fun _ _ _ h => h) (Or.inl ⟨zae, ?_⟩) hHeld ?_ ?_; rotate_left; (rintro w' ⟨s0, s1, s2, s3, s4, s5, s6, s7, s8⟩; go_simp; with_reducible rfl); rotate_left; (simp only [Act.put, qa, qb, qc, i64_w, i32_w]; rfl)
                     refine pure_ (i := 3) (N := some 91) (v := ?_) (a' := ?_) (bz 37 47) rfl rfl (any_of HT_.out ze) (fun _ _ _ h => h) (Or.inl ⟨zae, ?_⟩) ?_ ?_; rotate_left; (intro w'; go_simp; with_reducible rfl); rotate_left; (simp only [Act.put, qa, qb, qc, i64_w, i32_w]; rfl)
                     refine take_ (i := 4) (N := some 92) (v := ?_) (a' := ?_) (bz 37 63) rfl rfl (take_ofW HT_.out HW_.out ze) (fun _ _ _ h => h) (Or.inl ⟨zae, ?_⟩) hHeld ?_ ?_; rotate_left; (rintro w' ⟨s0, s1, s2, s3, s4, s5, s6, s7, s8⟩; go_simp; with_reducible rfl); rotate_left; (simp only [Act.put, qa, qb, qc, i64_w, i32_w]; rfl)
                     refine take_ (i := 6) (N := some 94) (v := ?_) (a' := ?_) (bz 37 127) rfl rfl (take_ofW HT_.out HW_.out ze) (fun _ _ _ h => h) (Or.inl ⟨zae, ?_⟩) hHeld ?_ ?_; rotate_left; (rintro w' ⟨s0, s1, s2, s3, s4, s5, s6, s7, s8⟩; go_simp; with_reducible rfl); rotate_left; (simp only [Act.put, qa, qb, qc, i64_w, i32_w]; rfl)
                     refine pure_ (i := 7) (N := some 95) (v := ?_) (a' := ?_) (bz 37 255) rfl rfl (any_of HT_.out ze) (fun _ _ _ h => h) (Or.inl ⟨zae, ?_⟩) ?_ ?_; rotate_left; (intro w'; go_simp; with_reducible rfl); rotate_left; (simp only [Act.put, qa, qb, qc, i64_w, i32_w]; rfl)
                     refine one_ (i := 8) (N := some 96) (bz 37 511) rfl rfl (one_of HT_.out ze) za7 (fun K hK => ?_)
                     refine goes_ Try.func45 ze rfl #[.int .i64 (rd ((rd_T60 l0_3 x4_2).f1) x6_4), .int .i64 2, .int .i64 (wrap64 (a0_2 - 1))] zae rfl rfl zcm ?_
                     with_reducible refine (spec_l01In.calls (rd ((rd_T60 l0_3 x4_2).f1) x6_4) 2 (wrap64 (a0_2 - 1)) true _ A50.out).mono ?_
                     rintro e w' ⟨rfl, ⟨nd, rfl⟩⟩
                     refine ⟨_, rfl, ?_⟩
                     refine hK.out _ _ ⟨(qs BK135.out 0).trans rfl, (qs BK135.out 1).trans rfl, (qs BK127.out 0).trans rfl, (qs BK127.out 1).trans rfl, (qs BK127.out 2).trans rfl, (qs BK127.out 3).trans rfl, ((HB.out.cell (World.block_lt_of_cell? w _ hw140_0)).trans hw140_0), ((HB.out.cell (World.block_lt_of_cell? w _ hw142_0)).trans hw142_0), ((HB.out.cell (World.block_lt_of_cell? w _ hw143_0)).trans hw143_0)⟩ (fun hHeld => ?_)
                     clear hK K
                     refine norm_ (a' := ?_) ?_ ?_; rotate_left; (show Act.put _ (some 96) _ = _; simp only [Act.put, qa, qb, qc, i64_w, i32_w]; rfl)
                     refine pure_ (i := 9) (N := some 97) (v := ?_) (a' := ?_) (bz 37 1023) rfl rfl (any_of HT_.out ze) (fun _ _ _ h => h) (Or.inl ⟨zae, ?_⟩) ?_ ?_; rotate_left; (intro w'; go_simp; with_reducible rfl); rotate_left; (simp only [Act.put, qa, qb, qc, i64_w, i32_w]; rfl)
                     refine pure_ (i := 10) (N := some 98) (v := ?_) (a' := ?_) (bz 37 2047) rfl rfl (any_of HT_.out ze) (fun _ _ _ h => h) (Or.inl ⟨zae, ?_⟩) ?_ ?_; rotate_left; (intro w'; go_simp; with_reducible rfl); rotate_left; (simp only [Act.put, qa, qb, qc, i64_w, i32_w]; rfl)
                     refine pure_ (i := 11) (N := some 99) (v := ?_) (a' := ?_) (bz 37 4095) rfl rfl (any_of HT_.out ze) (fun _ _ _ h => h) (Or.inl ⟨zae, ?_⟩) ?_ ?_; rotate_left; (intro w'; go_simp; with_reducible rfl); rotate_left; (simp only [Act.put, qa, qb, qc, i64_w, i32_w]; rfl)
                     refine pure_ (i := 12) (N := some 100) (v := ?_) (a' := ?_) (bz 37 8191) rfl rfl (any_of HT_.out ze) (fun _ _ _ h => h) (Or.inl ⟨zae, ?_⟩) ?_ ?_; rotate_left; (intro w'; go_simp; with_reducible rfl); rotate_left; (simp only [Act.put, qa, qb, qc, i64_w, i32_w]; rfl)
                     refine pure_ (i := 13) (N := some 101) (v := ?_) (a' := ?_) (bz 37 16383) rfl rfl (any_of HT_.out ze) (fun _ _ _ h => h) (Or.inl ⟨zae, ?_⟩) ?_ ?_; rotate_left; (intro w'; go_simp; with_reducible rfl); rotate_left; (simp only [Act.put, qa, qb, qc, i64_w, i32_w]; rfl)
                     refine pure_ (i := 14) (N := some 102) (v := ?_) (a' := ?_) (bz 37 32767) rfl rfl (any_of HT_.out ze) (fun _ _ _ h => h) (Or.inl ⟨zae, ?_⟩) ?_ ?_; rotate_left; (intro w'; go_simp; with_reducible rfl); rotate_left; (simp only [Act.put, qa, qb, qc, i64_w, i32_w]; rfl)
                     refine pure_ (i := 16) (N := some 104) (v := ?_) (a' := ?_) (bz 37 98303) rfl rfl (any_of HT_.out ze) (fun _ _ _ h => h) (Or.inl ⟨zae, ?_⟩) ?_ ?_; rotate_left; (intro w'; go_simp; with_reducible rfl); rotate_left; (simp only [Act.put, qa, qb, qc, i64_w, i32_w]; rfl)
                     refine pure_ (i := 17) (N := some 105) (v := ?_) (a' := ?_) (bz 37 229375) rfl rfl (any_of HT_.out ze) (fun _ _ _ h => h) (Or.inl ⟨zae, ?_⟩) ?_ ?_; rotate_left; (intro w'; go_simp; with_reducible rfl); rotate_left; (simp only [Act.put, qa, qb, qc, i64_w, i32_w]; rfl)
                     refine pure_ (i := 20) (N := some 108) (v := ?_) (a' := ?_) (bz 37 1277951) rfl rfl (any_of HT_.out ze) (fun _ _ _ h => h) (Or.inl ⟨zae, ?_⟩) ?_ ?_; rotate_left; (intro w'; go_simp; with_reducible rfl); rotate_left; (simp only [Act.put, qa, qb, qc, i64_w, i32_w]; rfl)
                     refine pure_ (i := 22) (N := some 110) (v := ?_) (a' := ?_) (bz 37 5472255) rfl rfl (any_of HT_.out ze) (fun _ _ _ h => h) (Or.inl ⟨zae, ?_⟩) ?_ ?_; rotate_left; (intro w'; go_simp; with_reducible rfl); rotate_left; (simp only [Act.put, qa, qb, qc, i64_w, i32_w]; rfl)
                     refine take_ (i := 15) (N := some 103) (v := ?_) (a' := ?_) (bz 37 5505023) rfl rfl (take_ofW HT_.out HW_.out ze) (fun _ _ _ h => h) (Or.inl ⟨zae, ?_⟩) hHeld ?_ ?_; rotate_left; (rintro w' ⟨s0, s1, s2, s3, s4, s5, s6, s7, s8⟩; go_simp; with_reducible rfl); rotate_left; (simp only [Act.put, qa, qb, qc, i64_w, i32_w]; rfl)
                     refine pure_ (i := 18) (N := some 106) (v := ?_) (a' := ?_) (bz 37 5767167) rfl rfl (any_of HT_.out ze) (fun _ _ _ h => h) (Or.inl ⟨zae, ?_⟩) ?_ ?_; rotate_left; (intro w'; go_simp; with_reducible rfl); rotate_left; (simp only [Act.put, qa, qb, qc, i64_w, i32_w]; rfl)
                     refine take_ (i := 19) (N := some 107) (v := ?_) (a' := ?_) (bz 37 6291455) rfl rfl (take_ofW HT_.out HW_.out ze) (fun _ _ _ h => h) (Or.inl ⟨zae, ?_⟩) hHeld ?_ ?_; rotate_left; (rintro w' ⟨s0, s1, s2, s3, s4, s5, s6, s7, s8⟩; go_simp; with_reducible rfl); rotate_left; (simp only [Act.put, qa, qb, qc, i64_w, i32_w]; rfl)
                     refine take_ (i := 21) (N := some 109) (v := ?_) (a' := ?_) (bz 37 8388607) rfl rfl (take_ofW HT_.out HW_.out ze) (fun _ _ _ h => h) (Or.inl ⟨zae, ?_⟩) hHeld ?_ ?_; rotate_left; (rintro w' ⟨s0, s1, s2, s3, s4, s5, s6, s7, s8⟩; go_simp; with_reducible rfl); rotate_left; (simp only [Act.put, qa, qb, qc, i64_w, i32_w]; rfl)
                     refine pure_ (i := 23) (N := some 111) (v := ?_) (a' := ?_) (bz 37 16777215) rfl rfl (any_of HT_.out ze) (fun _ _ _ h => h) (Or.inl ⟨zae, ?_⟩) ?_ ?_; rotate_left; (intro w'; go_simp; with_reducible rfl); rotate_left; (simp only [Act.put, qa, qb, qc, i64_w, i32_w]; rfl)
                     refine take_ (i := 24) (N := some 112) (v := ?_) (a' := ?_) (bz 37 33554431) rfl rfl (take_ofW HT_.out HW_.out ze) (fun _ _ _ h => h) (Or.inl ⟨zae, ?_⟩) hHeld ?_ ?_; rotate_left; (rintro w' ⟨s0, s1, s2, s3, s4, s5, s6, s7, s8⟩; go_simp; with_reducible rfl); rotate_left; (simp only [Act.put, qa, qb, qc, i64_w, i32_w]; rfl)
                     refine pure_ (i := 25) (N := some 113) (v := ?_) (a' := ?_) (bz 37 67108863) rfl rfl (any_of HT_.out ze) (fun _ _ _ h => h) (Or.inl ⟨zae, ?_⟩) ?_ ?_; rotate_left; (intro w'; go_simp; with_reducible rfl); rotate_left; (simp only [Act.put, qa, qb, qc, i64_w, i32_w]; rfl)
                     refine pure_ (i := 26) (N := some 114) (v := ?_) (a' := ?_) (bz 37 134217727) rfl rfl (any_of HT_.out ze) (fun _ _ _ h => h) (Or.inl ⟨zae, ?_⟩) ?_ ?_; rotate_left; (intro w'; go_simp; with_reducible rfl); rotate_left; (simp only [Act.put, qa, qb, qc, i64_w, i32_w]; rfl)
                     refine pure_ (i := 27) (N := some 115) (v := ?_) (a' := ?_) (bz 37 268435455) rfl rfl (any_of HT_.out ze) (fun _ _ _ h => h) (Or.inl ⟨zae, ?_⟩) ?_ ?_; rotate_left; (intro w'; go_simp; with_reducible rfl); rotate_left; (simp only [Act.put, qa, qb, qc, i64_w, i32_w]; rfl)
                     refine pure_ (i := 28) (N := some 116) (v := ?_) (a' := ?_) (bz 37 536870911) rfl rfl (any_of HT_.out ze) (fun _ _ _ h => h) (Or.inl ⟨zae, ?_⟩) ?_ ?_; rotate_left; (intro w'; go_simp; with_reducible rfl); rotate_left; (simp only [Act.put, qa, qb, qc, i64_w, i32_w]; rfl)
                     refine pure_ (i := 29) (N := some 117) (v := undef) (a' := ?_) (bz 37 1073741823) rfl rfl (any_of HT_.out ze) (fun _ _ _ h => h) (Or.inr ⟨zae, rfl⟩) ?_ ?_; rotate_left; (simp only [Act.put, qa, qb, qc, i64_w, i32_w]; rfl)
                     refine pure_ (i := 30) (N := some 118) (v := undef) (a' := ?_) (bz 37 2147483647) rfl rfl (any_of HT_.out ze) (fun _ _ _ h => h) (Or.inr ⟨zae, rfl⟩) ?_ ?_; rotate_left; (simp only [Act.put, qa, qb, qc, i64_w, i32_w]; rfl)
                     refine pure_ (i := 31) (N := some 119) (v := undef) (a' := ?_) (bz 37 4294967295) rfl rfl (any_of HT_.out ze) (fun _ _ _ h => h) (Or.inr ⟨zae, rfl⟩) ?_ ?_; rotate_left; (simp only [Act.put, qa, qb, qc, i64_w, i32_w]; rfl)
                     refine pure_ (i := 32) (N := some 120) (v := undef) (a' := ?_) (bz 37 8589934591) rfl rfl (any_of HT_.out ze) (fun _ _ _ h => h) (Or.inr ⟨zae, rfl⟩) ?_ ?_; rotate_left; (simp only [Act.put, qa, qb, qc, i64_w, i32_w]; rfl)
                     refine pure_ (i := 33) (N := some 121) (v := undef) (a' := ?_) (bz 37 17179869183) rfl rfl (any_of HT_.out ze) (fun _ _ _ h => h) (Or.inr ⟨zae, rfl⟩) ?_ ?_; rotate_left; (simp only [Act.put, qa, qb, qc, i64_w, i32_w]; rfl)
                     refine pure_ (i := 34) (N := some 122) (v := undef) (a' := ?_) (bz 37 34359738367) rfl rfl (any_of HT_.out ze) (fun _ _ _ h => h) (Or.inr ⟨zae, rfl⟩) ?_ ?_; rotate_left; (simp only [Act.put, qa, qb, qc, i64_w, i32_w]; rfl)
                     refine pure_ (i := 35) (N := some 123) (v := undef) (a' := ?_) (bz 37 68719476735) rfl rfl (any_of HT_.out ze) (fun _ _ _ h => h) (Or.inr ⟨zae, rfl⟩) ?_ ?_; rotate_left; (simp only [Act.put, qa, qb, qc, i64_w, i32_w]; rfl)
                     refine pure_ (i := 36) (N := some 124) (v := ?_) (a' := ?_) (bz 37 137438953471) rfl rfl (any_of HT_.out ze) (fun _ _ _ h => h) (Or.inl ⟨zae, ?_⟩) ?_ ?_; rotate_left; (intro w'; go_simp; with_reducible rfl); rotate_left; (simp only [Act.put, qa, qb, qc, i64_w, i32_w]; rfl)
                     refine done_ (done_of HT_.out ze) ?_
                     try go_wp2
                     go_meet
                     case rel => exact ⟨_, (true), zc, H', ⟨zcb⟩, ⟨zs⟩, ⟨z3⟩, ⟨za6⟩, ⟨zr⟩⟩
                    ·rw [if_neg c56] at H
                     have c56b0 : decide ((rd ((rd_T60 l0_3 x4_2).f1) x6_4) ≤ (rd ((rd_T60 l0_3 x4_2).f1) (ji53))) = false := decide_eq_false c56
                     clear c56
                     replace H := Option.bind_eq_some_iff.mp H
                     obtain ⟨t145, A580, H⟩ := H
                     replace H : (spec_MetaOk.j4 k4 x3_4 x4_2 x6_4 t145 a0_0 a0_1 a0_2 l0_3 ((rd_T60 l0_3 x4_2).f0) ((rd_T60 l0_3 x4_2).f1)) = some r := H
                     have A58 := qo A580
                     clear A580
                     have H' := qo H
                     clear H
                     try go_wp2
                     have n0_ := qo (Kd.R_drew HO_3.out)
                     have n1_ := qo (qj BK127.out)
                     have n2_ := qo (qj BK135.out)
                     have n3_ := qo (qn HB.out)
                     clear HO_3
                     clear BK127
                     clear BK135
                     clear HB
                     have HO_3 := n0_
                     have BK127 := n1_
                     have BK135 := n2_
                     have HB := n3_
                     clear n0_ n1_ n2_ n3_
                     have p140 : 0 ≤ (x6_4 : Int) := of_decide_eq_true zb
                     have q140 : x6_4 < (((rd_T60 l0_3 x4_2).f1).length : Int) := of_decide_eq_true zb
                     obtain ⟨ad140, e140, hx140_0⟩ := Kd.at_int HR134_1.out x6_4 p140 q140
                     have hw140_0 := hx140_0
                     cases e140
                     replace hx140_0 := (HB.out.cell (World.block_lt_of_cell? w _ hx140_0)).trans hx140_0
                     replace p140 := eq_true p140
                     replace q140 := eq_true q140
                     have p142 : 0 ≤ ((ji53) : Int) := of_decide_eq_true zb
                     have q142 : (ji53) < (((rd_T60 l0_3 x4_2).f1).length : Int) := of_decide_eq_true zb
                     obtain ⟨ad142, e142, hx142_0⟩ := Kd.at_int HR134_1.out (ji53) p142 q142
                     have hw142_0 := hx142_0
                     obtain rfl : ad140 = ad142 := (by injection e142)
                     replace hx142_0 := (HB.out.cell (World.block_lt_of_cell? w _ hx142_0)).trans hx142_0
                     replace p142 := eq_true p142
                     replace q142 := eq_true q142
                     have p143 : 0 ≤ (x6_4 : Int) := of_decide_eq_true zb
                     have q143 : x6_4 < (((rd_T60 l0_3 x4_2).f1).length : Int) := of_decide_eq_true zb
                     obtain ⟨ad143, e143, hx143_0⟩ := Kd.at_int HR134_1.out x6_4 p143 q143
                     have hw143_0 := hx143_0
                     obtain rfl : ad140 = ad143 := (by injection e143)
                     replace hx143_0 := (HB.out.cell (World.block_lt_of_cell? w _ hx143_0)).trans hx143_0
                     replace p143 := eq_true p143
                     replace q143 := eq_true q143
                     have p144 : 0 ≤ (x6_4 : Int) := of_decide_eq_true zb
                     have q144 : x6_4 < (((rd_T60 l0_3 x4_2).f1).length : Int) := of_decide_eq_true zb
                     obtain ⟨ad144, e144, hx144_0⟩ := Kd.at_int HR134_1.out x6_4 p144 q144
                     have hw144_0 := hx144_0
                     obtain rfl : ad140 = ad144 := (by injection e144)
                     replace hx144_0 := (HB.out.cell (World.block_lt_of_cell? w _ hx144_0)).trans hx144_0
                     replace p144 := eq_true p144
                     replace q144 := eq_true q144
                     refine start_ (n := 37) (S := fun w' => w'.cell? ⟨gb135, 0, none⟩ = some (.int .i64 ((rd_T60 l0_3 x4_2).f0)) ∧ w'.cell? ⟨gb135, 1, none⟩ = some (.slice (some ad140) ((rd_T60 l0_3 x4_2).f1).length c134_1) ∧ w'.cell? ⟨gb127, 0, none⟩ = some (.int .i64 a0_0) ∧ w'.cell? ⟨gb127, 1, none⟩ = some (.int .i64 a0_1) ∧ w'.cell? ⟨gb127, 2, none⟩ = some (.int .i64 a0_2) ∧ w'.cell? ⟨gb127, 3, none⟩ = some (.slice (some ad134) l0_3.length c0_3) ∧ w'.cell? (ad140.add (x6_4).toNat) = some (.int .i64 (rd ((rd_T60 l0_3 x4_2).f1) x6_4)) ∧ w'.cell? (ad140.add ((ji53)).toNat) = some (.int .i64 (rd ((rd_T60 l0_3 x4_2).f1) (ji53))) ∧ w'.cell? (ad140.add (x6_4).toNat) = some (.int .i64 (rd ((rd_T60 l0_3 x4_2).f1) x6_4)) ∧ w'.cell? (ad140.add (x6_4).toNat) = some (.int .i64 (rd ((rd_T60 l0_3 x4_2).f1) x6_4))) (ds := []) (bz 37 0) ze rfl rfl ⟨(qs BK135.out 0).trans rfl, (qs BK135.out 1).trans rfl, (qs BK127.out 0).trans rfl, (qs BK127.out 1).trans rfl, (qs BK127.out 2).trans rfl, (qs BK127.out 3).trans rfl, ((HB.out.cell (World.block_lt_of_cell? w _ hw140_0)).trans hw140_0), ((HB.out.cell (World.block_lt_of_cell? w _ hw142_0)).trans hw142_0), ((HB.out.cell (World.block_lt_of_cell? w _ hw143_0)).trans hw143_0), ((HB.out.cell (World.block_lt_of_cell? w _ hw144_0)).trans hw144_0)⟩ (fun hHeld => ?_); refine with_tabW spec_MetaOk.tab13 spec_MetaOk.bits13 (fun HT_ HW_ => ?_)
                     generalize wr.drew = w59 at HO_3 BK127 BK135 HB hx140_0 hx142_0 hx143_0 hx144_0 hHeld ⊢
                     refine pure_ (i := 0) (N := some 88) (v := ?_) (a' := ?_) (bz 37 1) rfl rfl (any_of HT_.out ze) (fun _ _ _ h => h) (Or.inl ⟨zae, ?_⟩) ?_ ?_; rotate_left; (intro w'; go_simp; with_reducible rfl); rotate_left; (simp only [Act.put, qa, qb, qc, i64_w, i32_w]; rfl)
                     refine pure_ (i := 2) (N := some 90) (v := ?_) (a' := ?_) (bz 37 5) rfl rfl (any_of HT_.out ze) (fun _ _ _ h => h) (Or.inl ⟨zae, ?_⟩) ?_ ?_; rotate_left; (intro w'; go_simp; with_reducible rfl); rotate_left; (simp only [Act.put, qa, qb, qc, i64_w, i32_w]; rfl)
                     refine pure_ (i := 5) (N := some 93) (v := ?_) (a' := ?_) (bz 37 37) rfl rfl (any_of HT_.out ze) (fun _ _ _ h => h) (Or.inl ⟨zae, ?_⟩) ?_ ?_; rotate_left; (intro w'; go_simp; with_reducible rfl); rotate_left; (simp only [Act.put, qa, qb, qc, i64_w, i32_w]; rfl)
                     refine take_ (i := 1) (N := some 89) (v := ?_) (a' := ?_) (bz 37 39) rfl rfl (take_ofW HT_.out HW_.out ze) (fun _ _ _ h => h) (Or.inl ⟨zae, ?_⟩) hHeld ?_ ?_; rotate_left; (rintro w' ⟨s0, s1, s2, s3, s4, s5, s6, s7, s8, s9⟩; go_simp; with_reducible rfl); rotate_left; (simp only [Act.put, qa, qb, qc, i64_w, i32_w]; rfl)
                     refine pure_ (i := 3) (N := some 91) (v := ?_) (a' := ?_) (bz 37 47) rfl rfl (any_of HT_.out ze) (fun _ _ _ h => h) (Or.inl ⟨zae, ?_⟩) ?_ ?_; rotate_left; (intro w'; go_simp; with_reducible rfl); rotate_left; (simp only [Act.put, qa, qb, qc, i64_w, i32_w]; rfl)
                     refine take_ (i := 4) (N := some 92) (v := ?_) (a' := ?_) (bz 37 63) rfl rfl (take_ofW HT_.out HW_.out ze) (fun _ _ _ h => h) (Or.inl ⟨zae, ?_⟩) hHeld ?_ ?_; rotate_left; (rintro w' ⟨s0, s1, s2, s3, s4, s5, s6, s7, s8, s9⟩; go_simp; with_reducible rfl); rotate_left; (simp only [Act.put, qa, qb, qc, i64_w, i32_w]; rfl)
                     refine take_ (i := 6) (N := some 94) (v := ?_) (a' := ?_) (bz 37 127) rfl rfl (take_ofW HT_.out HW_.out ze) (fun _ _ _ h => h) (Or.inl ⟨zae, ?_⟩) hHeld ?_ ?_; rotate_left; (rintro w' ⟨s0, s1, s2, s3, s4, s5, s6, s7, s8, s9⟩; go_simp; with_reducible rfl); rotate_left; (simp only [Act.put, qa, qb, qc, i64_w, i32_w]; rfl)
                     refine pure_ (i := 7) (N := some 95) (v := ?_) (a' := ?_) (bz 37 255) rfl rfl (any_of HT_.out ze) (fun _ _ _ h => h) (Or.inl ⟨zae, ?_⟩) ?_ ?_; rotate_left; (intro w'; go_simp; with_reducible rfl); rotate_left; (simp only [Act.put, qa, qb, qc, i64_w, i32_w]; rfl)
                     refine one_ (i := 8) (N := some 96) (bz 37 511) rfl rfl (one_of HT_.out ze) za7 (fun K hK => ?_)
                     refine goes_ Try.func45 ze rfl #[.int .i64 (rd ((rd_T60 l0_3 x4_2).f1) x6_4), .int .i64 2, .int .i64 (wrap64 (a0_2 - 1))] zae rfl rfl zcm ?_
                     with_reducible refine (spec_l01In.calls (rd ((rd_T60 l0_3 x4_2).f1) x6_4) 2 (wrap64 (a0_2 - 1)) true _ A50.out).mono ?_
                     rintro e w' ⟨rfl, ⟨nd, rfl⟩⟩
                     refine ⟨_, rfl, ?_⟩
                     obtain ⟨Ao60, co60, eo60⟩ := Kd.R_slice HO_3.out
                     (first | subst eo60 | (injection eo60 with f1_ f2_ f3_; have f4_ := f1_.symm; have f5_ := f3_.symm; clear f1_ f2_ f3_; subst f4_; subst f5_))
                     refine hK.out _ _ ⟨(qs BK135.out 0).trans rfl, (qs BK135.out 1).trans rfl, (qs BK127.out 0).trans rfl, (qs BK127.out 1).trans rfl, (qs BK127.out 2).trans rfl, (qs BK127.out 3).trans rfl, ((HB.out.cell (World.block_lt_of_cell? w _ hw140_0)).trans hw140_0), ((HB.out.cell (World.block_lt_of_cell? w _ hw142_0)).trans hw142_0), ((HB.out.cell (World.block_lt_of_cell? w _ hw143_0)).trans hw143_0), ((HB.out.cell (World.block_lt_of_cell? w _ hw144_0)).trans hw144_0)⟩ (fun hHeld => ?_)
                     clear hK K
                     refine norm_ (a' := ?_) ?_ ?_; rotate_left; (show Act.put _ (some 96) _ = _; simp only [Act.put, qa, qb, qc, i64_w, i32_w]; rfl)
                     refine pure_ (i := 9) (N := some 97) (v := ?_) (a' := ?_) (bz 37 1023) rfl rfl (any_of HT_.out ze) (fun _ _ _ h => h) (Or.inl ⟨zae, ?_⟩) ?_ ?_; rotate_left; (intro w'; go_simp; with_reducible rfl); rotate_left; (simp only [Act.put, qa, qb, qc, i64_w, i32_w]; rfl)
                     refine pure_ (i := 10) (N := some 98) (v := ?_) (a' := ?_) (bz 37 2047) rfl rfl (any_of HT_.out ze) (fun _ _ _ h => h) (Or.inl ⟨zae, ?_⟩) ?_ ?_; rotate_left; (intro w'; go_simp; with_reducible rfl); rotate_left; (simp only [Act.put, qa, qb, qc, i64_w, i32_w]; rfl)
                     refine pure_ (i := 11) (N := some 99) (v := ?_) (a' := ?_) (bz 37 4095) rfl rfl (any_of HT_.out ze) (fun _ _ _ h => h) (Or.inl ⟨zae, ?_⟩) ?_ ?_; rotate_left; (intro w'; go_simp; with_reducible rfl); rotate_left; (simp only [Act.put, qa, qb, qc, i64_w, i32_w]; rfl)
                     refine pure_ (i := 12) (N := some 100) (v := ?_) (a' := ?_) (bz 37 8191) rfl rfl (any_of HT_.out ze) (fun _ _ _ h => h) (Or.inl ⟨zae, ?_⟩) ?_ ?_; rotate_left; (intro w'; go_simp; with_reducible rfl); rotate_left; (simp only [Act.put, qa, qb, qc, i64_w, i32_w]; rfl)
                     refine pure_ (i := 13) (N := some 101) (v := ?_) (a' := ?_) (bz 37 16383) rfl rfl (any_of HT_.out ze) (fun _ _ _ h => h) (Or.inl ⟨zae, ?_⟩) ?_ ?_; rotate_left; (intro w'; go_simp; with_reducible rfl); rotate_left; (simp only [Act.put, qa, qb, qc, i64_w, i32_w]; rfl)
                     refine pure_ (i := 14) (N := some 102) (v := ?_) (a' := ?_) (bz 37 32767) rfl rfl (any_of HT_.out ze) (fun _ _ _ h => h) (Or.inl ⟨zae, ?_⟩) ?_ ?_; rotate_left; (intro w'; go_simp; with_reducible rfl); rotate_left; (simp only [Act.put, qa, qb, qc, i64_w, i32_w]; rfl)
                     refine pure_ (i := 16) (N := some 104) (v := ?_) (a' := ?_) (bz 37 98303) rfl rfl (any_of HT_.out ze) (fun _ _ _ h => h) (Or.inl ⟨zae, ?_⟩) ?_ ?_; rotate_left; (intro w'; go_simp; with_reducible rfl); rotate_left; (simp only [Act.put, qa, qb, qc, i64_w, i32_w]; rfl)
                     refine pure_ (i := 17) (N := some 105) (v := ?_) (a' := ?_) (bz 37 229375) rfl rfl (any_of HT_.out ze) (fun _ _ _ h => h) (Or.inl ⟨zae, ?_⟩) ?_ ?_; rotate_left; (intro w'; go_simp; with_reducible rfl); rotate_left; (simp only [Act.put, qa, qb, qc, i64_w, i32_w]; rfl)
                     refine pure_ (i := 20) (N := some 108) (v := ?_) (a' := ?_) (bz 37 1277951) rfl rfl (any_of HT_.out ze) (fun _ _ _ h => h) (Or.inl ⟨zae, ?_⟩) ?_ ?_; rotate_left; (intro w'; go_simp; with_reducible rfl); rotate_left; (simp only [Act.put, qa, qb, qc, i64_w, i32_w]; rfl)
                     refine pure_ (i := 22) (N := some 110) (v := ?_) (a' := ?_) (bz 37 5472255) rfl rfl (any_of HT_.out ze) (fun _ _ _ h => h) (Or.inl ⟨zae, ?_⟩) ?_ ?_; rotate_left; (intro w'; go_simp; with_reducible rfl); rotate_left; (simp only [Act.put, qa, qb, qc, i64_w, i32_w]; rfl)
                     refine take_ (i := 15) (N := some 103) (v := ?_) (a' := ?_) (bz 37 5505023) rfl rfl (take_ofW HT_.out HW_.out ze) (fun _ _ _ h => h) (Or.inl ⟨zae, ?_⟩) hHeld ?_ ?_; rotate_left; (rintro w' ⟨s0, s1, s2, s3, s4, s5, s6, s7, s8, s9⟩; go_simp; with_reducible rfl); rotate_left; (simp only [Act.put, qa, qb, qc, i64_w, i32_w]; rfl)
                     refine pure_ (i := 18) (N := some 106) (v := ?_) (a' := ?_) (bz 37 5767167) rfl rfl (any_of HT_.out ze) (fun _ _ _ h => h) (Or.inl ⟨zae, ?_⟩) ?_ ?_; rotate_left; (intro w'; go_simp; with_reducible rfl); rotate_left; (simp only [Act.put, qa, qb, qc, i64_w, i32_w]; rfl)
                     refine take_ (i := 19) (N := some 107) (v := ?_) (a' := ?_) (bz 37 6291455) rfl rfl (take_ofW HT_.out HW_.out ze) (fun _ _ _ h => h) (Or.inl ⟨zae, ?_⟩) hHeld ?_ ?_; rotate_left; (rintro w' ⟨s0, s1, s2, s3, s4, s5, s6, s7, s8, s9⟩; go_simp; with_reducible rfl); rotate_left; (simp only [Act.put, qa, qb, qc, i64_w, i32_w]; rfl)
                     refine take_ (i := 21) (N := some 109) (v := ?_) (a' := ?_) (bz 37 8388607) rfl rfl (take_ofW HT_.out HW_.out ze) (fun _ _ _ h => h) (Or.inl ⟨zae, ?_⟩) hHeld ?_ ?_; rotate_left; (rintro w' ⟨s0, s1, s2, s3, s4, s5, s6, s7, s8, s9⟩; go_simp; with_reducible rfl); rotate_left; (simp only [Act.put, qa, qb, qc, i64_w, i32_w]; rfl)
                     refine pure_ (i := 23) (N := some 111) (v := ?_) (a' := ?_) (bz 37 16777215) rfl rfl (any_of HT_.out ze) (fun _ _ _ h => h) (Or.inl ⟨zae, ?_⟩) ?_ ?_; rotate_left; (intro w'; go_simp; with_reducible rfl); rotate_left; (simp only [Act.put, qa, qb, qc, i64_w, i32_w]; rfl)
                     refine take_ (i := 24) (N := some 112) (v := ?_) (a' := ?_) (bz 37 33554431) rfl rfl (take_ofW HT_.out HW_.out ze) (fun _ _ _ h => h) (Or.inl ⟨zae, ?_⟩) hHeld ?_ ?_; rotate_left; (rintro w' ⟨s0, s1, s2, s3, s4, s5, s6, s7, s8, s9⟩; go_simp; with_reducible rfl); rotate_left; (simp only [Act.put, qa, qb, qc, i64_w, i32_w]; rfl)
                     refine pure_ (i := 25) (N := some 113) (v := ?_) (a' := ?_) (bz 37 67108863) rfl rfl (any_of HT_.out ze) (fun _ _ _ h => h) (Or.inl ⟨zae, ?_⟩) ?_ ?_; rotate_left; (intro w'; go_simp; with_reducible rfl); rotate_left; (simp only [Act.put, qa, qb, qc, i64_w, i32_w]; rfl)
                     refine pure_ (i := 26) (N := some 114) (v := ?_) (a' := ?_) (bz 37 134217727) rfl rfl (any_of HT_.out ze) (fun _ _ _ h => h) (Or.inl ⟨zae, ?_⟩) ?_ ?_; rotate_left; (intro w'; go_simp; with_reducible rfl); rotate_left; (simp only [Act.put, qa, qb, qc, i64_w, i32_w]; rfl)
                     refine pure_ (i := 27) (N := some 115) (v := ?_) (a' := ?_) (bz 37 268435455) rfl rfl (any_of HT_.out ze) (fun _ _ _ h => h) (Or.inl ⟨zae, ?_⟩) ?_ ?_; rotate_left; (intro w'; go_simp; with_reducible rfl); rotate_left; (simp only [Act.put, qa, qb, qc, i64_w, i32_w]; rfl)
                     refine pure_ (i := 28) (N := some 116) (v := ?_) (a' := ?_) (bz 37 536870911) rfl rfl (any_of HT_.out ze) (fun _ _ _ h => h) (Or.inl ⟨zae, ?_⟩) ?_ ?_; rotate_left; (intro w'; go_simp; with_reducible rfl); rotate_left; (simp only [Act.put, qa, qb, qc, i64_w, i32_w]; rfl)
                     refine pure_ (i := 29) (N := some 117) (v := ?_) (a' := ?_) (bz 37 1073741823) rfl rfl (any_of HT_.out ze) (fun _ _ _ h => h) (Or.inl ⟨zae, ?_⟩) ?_ ?_; rotate_left; (intro w'; go_simp; with_reducible rfl); rotate_left; (simp only [Act.put, qa, qb, qc, i64_w, i32_w]; rfl)
                     refine pure_ (i := 30) (N := some 118) (v := ?_) (a' := ?_) (bz 37 2147483647) rfl rfl (any_of HT_.out ze) (fun _ _ _ h => h) (Or.inl ⟨zae, ?_⟩) ?_ ?_; rotate_left; (intro w'; go_simp; with_reducible rfl); rotate_left; (simp only [Act.put, qa, qb, qc, i64_w, i32_w]; rfl)
                     refine pure_ (i := 32) (N := some 120) (v := ?_) (a' := ?_) (bz 37 6442450943) rfl rfl (any_of HT_.out ze) (fun _ _ _ h => h) (Or.inl ⟨zae, ?_⟩) ?_ ?_; rotate_left; (intro w'; go_simp; with_reducible rfl); rotate_left; (simp only [Act.put, qa, qb, qc, i64_w, i32_w]; rfl)
                     refine take_ (i := 31) (N := some 119) (v := ?_) (a' := ?_) (bz 37 8589934591) rfl rfl (take_ofW HT_.out HW_.out ze) (fun _ _ _ h => h) (Or.inl ⟨zae, ?_⟩) hHeld ?_ ?_; rotate_left; (rintro w' ⟨s0, s1, s2, s3, s4, s5, s6, s7, s8, s9⟩; go_simp; with_reducible rfl); rotate_left; (simp only [Act.put, qa, qb, qc, i64_w, i32_w]; rfl)
                     refine pure_ (i := 33) (N := some 121) (v := ?_) (a' := ?_) (bz 37 17179869183) rfl rfl (any_of HT_.out ze) (fun _ _ _ h => h) (Or.inl ⟨zae, ?_⟩) ?_ ?_; rotate_left; (intro w'; go_simp; with_reducible rfl); rotate_left; (simp only [Act.put, qa, qb, qc, i64_w, i32_w]; rfl)
                     refine take_ (i := 34) (N := some 122) (v := ?_) (a' := ?_) (bz 37 34359738367) rfl rfl (take_ofW HT_.out HW_.out ze) (fun _ _ _ h => h) (Or.inl ⟨zae, ?_⟩) hHeld ?_ ?_; rotate_left; (rintro w' ⟨s0, s1, s2, s3, s4, s5, s6, s7, s8, s9⟩; go_simp; with_reducible rfl); rotate_left; (simp only [Act.put, qa, qb, qc, i64_w, i32_w]; rfl)
                     refine one_ (i := 35) (N := some 123) (bz 37 68719476735) rfl rfl (one_of HT_.out ze) za7 (fun K hK => ?_)
                     refine goes_ Try.func72 ze rfl #[.slice Ao60 x3_4.length co60, .int .i64 (rd ((rd_T60 l0_3 x4_2).f1) x6_4)] zae rfl rfl zcm ?_
                     with_reducible refine (spec_l06In.calls k4 _ _ x3_4 (rd ((rd_T60 l0_3 x4_2).f1) x6_4) t145 _ ?side1 ?side2 A58.out).mono ?_
                     (case side1 => repeat (first | exact (Kd.R_reads' HO_3.out).2.2 | (with_reducible refine Kd.C_alloc ?_ _) | (with_reducible refine Kd.C_drewN ?_ _) | (with_reducible refine Kd.C_drew ?_)))
                     (case side2 => exact (Kd.R_reads' HO_3.out).2.1)
                     rintro e w' ⟨rfl, ⟨nd, rfl⟩⟩
                     refine ⟨_, rfl, ?_⟩
                     refine hK.out _ _ ⟨(qs BK135.out 0).trans rfl, (qs BK135.out 1).trans rfl, (qs BK127.out 0).trans rfl, (qs BK127.out 1).trans rfl, (qs BK127.out 2).trans rfl, (qs BK127.out 3).trans rfl, ((HB.out.cell (World.block_lt_of_cell? w _ hw140_0)).trans hw140_0), ((HB.out.cell (World.block_lt_of_cell? w _ hw142_0)).trans hw142_0), ((HB.out.cell (World.block_lt_of_cell? w _ hw143_0)).trans hw143_0), ((HB.out.cell (World.block_lt_of_cell? w _ hw144_0)).trans hw144_0)⟩ (fun hHeld => ?_)
                     clear hK K
                     refine norm_ (a' := ?_) ?_ ?_; rotate_left; (show Act.put _ (some 123) _ = _; simp only [Act.put, qa, qb, qc, i64_w, i32_w]; rfl)
                     refine pure_ (i := 36) (N := some 124) (v := ?_) (a' := ?_) (bz 37 137438953471) rfl rfl (any_of HT_.out ze) (fun _ _ _ h => h) (Or.inl ⟨zae, ?_⟩) ?_ ?_; rotate_left; (intro w'; go_simp; with_reducible rfl); rotate_left; (simp only [Act.put, qa, qb, qc, i64_w, i32_w]; rfl)
                     refine done_ (done_of HT_.out ze) ?_
                     try go_wp2
                     go_meet
                     case rel => exact ⟨_, (t145), zc, H', ⟨zcb⟩, ⟨zs⟩, ⟨z3⟩, ⟨za6⟩, ⟨zr⟩⟩
                   ·rw [if_neg c55] at H
                    exact absurd H zbh
                  ·rw [if_neg c54] at H
                   exact absurd H zbh
                 ·rw [if_neg c52] at H
                  have c52b0 : decide (0 < x6_4) = false := decide_eq_false c52
                  clear c52
                  replace H := Option.bind_eq_some_iff.mp H
                  obtain ⟨t147, A610, H⟩ := H
                  replace H : (spec_MetaOk.j4 k4 x3_4 x4_2 x6_4 t147 a0_0 a0_1 a0_2 l0_3 ((rd_T60 l0_3 x4_2).f0) ((rd_T60 l0_3 x4_2).f1)) = some r := H
                  have A61 := qo A610
                  clear A610
                  have H' := qo H
                  clear H
                  try go_wp2
                  have n0_ := qo (Kd.R_drew HO_3.out)
                  have n1_ := qo (qj BK127.out)
                  have n2_ := qo (qj BK135.out)
                  have n3_ := qo (qn HB.out)
                  clear HO_3
                  clear BK127
                  clear BK135
                  clear HB
                  have HO_3 := n0_
                  have BK127 := n1_
                  have BK135 := n2_
                  have HB := n3_
                  clear n0_ n1_ n2_ n3_
                  have p140 : 0 ≤ (x6_4 : Int) := of_decide_eq_true zb
                  have q140 : x6_4 < (((rd_T60 l0_3 x4_2).f1).length : Int) := of_decide_eq_true zb
                  obtain ⟨ad140, e140, hx140_0⟩ := Kd.at_int HR134_1.out x6_4 p140 q140
                  have hw140_0 := hx140_0
                  cases e140
                  replace hx140_0 := (HB.out.cell (World.block_lt_of_cell? w _ hx140_0)).trans hx140_0
                  replace p140 := eq_true p140
                  replace q140 := eq_true q140
                  have p146 : 0 ≤ (x6_4 : Int) := of_decide_eq_true zb
                  have q146 : x6_4 < (((rd_T60 l0_3 x4_2).f1).length : Int) := of_decide_eq_true zb
                  obtain ⟨ad146, e146, hx146_0⟩ := Kd.at_int HR134_1.out x6_4 p146 q146
                  have hw146_0 := hx146_0
                  obtain rfl : ad140 = ad146 := (by injection e146)
                  replace hx146_0 := (HB.out.cell (World.block_lt_of_cell? w _ hx146_0)).trans hx146_0
                  replace p146 := eq_true p146
                  replace q146 := eq_true q146
                  refine start_ (n := 37) (S := fun w' => w'.cell? ⟨gb135, 0, none⟩ = some (.int .i64 ((rd_T60 l0_3 x4_2).f0)) ∧ w'.cell? ⟨gb135, 1, none⟩ = some (.slice (some ad140) ((rd_T60 l0_3 x4_2).f1).length c134_1) ∧ w'.cell? ⟨gb127, 0, none⟩ = some (.int .i64 a0_0) ∧ w'.cell? ⟨gb127, 1, none⟩ = some (.int .i64 a0_1) ∧ w'.cell? ⟨gb127, 2, none⟩ = some (.int .i64 a0_2) ∧ w'.cell? ⟨gb127, 3, none⟩ = some (.slice (some ad134) l0_3.length c0_3) ∧ w'.cell? (ad140.add (x6_4).toNat) = some (.int .i64 (rd ((rd_T60 l0_3 x4_2).f1) x6_4)) ∧ w'.cell? (ad140.add (x6_4).toNat) = some (.int .i64 (rd ((rd_T60 l0_3 x4_2).f1) x6_4))) (ds := []) (bz 37 0) ze rfl rfl ⟨(qs BK135.out 0).trans rfl, (qs BK135.out 1).trans rfl, (qs BK127.out 0).trans rfl, (qs BK127.out 1).trans rfl, (qs BK127.out 2).trans rfl, (qs BK127.out 3).trans rfl, ((HB.out.cell (World.block_lt_of_cell? w _ hw140_0)).trans hw140_0), ((HB.out.cell (World.block_lt_of_cell? w _ hw146_0)).trans hw146_0)⟩ (fun hHeld => ?_); refine with_tabW spec_MetaOk.tab13 spec_MetaOk.bits13 (fun HT_ HW_ => ?_)
                  generalize wr.drew = w62 at HO_3 BK127 BK135 HB hx140_0 hx146_0 hHeld ⊢
                  refine pure_ (i := 0) (N := some 88) (v := ?_) (a' := ?_) (bz 37 1) rfl rfl (any_of HT_.out ze) (fun _ _ _ h => h) (Or.inl ⟨zae, ?_⟩) ?_ ?_; rotate_left; (intro w'; go_simp; with_reducible rfl); rotate_left; (simp only [Act.put, qa, qb, qc, i64_w, i32_w]; rfl)
                  refine pure_ (i := 2) (N := some 90) (v := ?_) (a' := ?_) (bz 37 5) rfl rfl (any_of HT_.out ze) (fun _ _ _ h => h) (Or.inl ⟨zae, ?_⟩) ?_ ?_; rotate_left; (intro w'; go_simp; with_reducible rfl); rotate_left; (simp only [Act.put, qa, qb, qc, i64_w, i32_w]; rfl)
                  refine pure_ (i := 5) (N := some 93) (v := ?_) (a' := ?_) (bz 37 37) rfl rfl (any_of HT_.out ze) (fun _ _ _ h => h) (Or.inl ⟨zae, ?_⟩) ?_ ?_; rotate_left; (intro w'; go_simp; with_reducible rfl); rotate_left; (simp only [Act.put, qa, qb, qc, i64_w, i32_w]; rfl)
                  refine take_ (i := 1) (N := some 89) (v := ?_) (a' := ?_) (bz 37 39) rfl rfl (take_ofW HT_.out HW_.out ze) (fun _ _ _ h => h) (Or.inl ⟨zae, ?_⟩) hHeld ?_ ?_; rotate_left; (rintro w' ⟨s0, s1, s2, s3, s4, s5, s6, s7⟩; go_simp; with_reducible rfl); rotate_left; (simp only [Act.put, qa, qb, qc, i64_w, i32_w]; rfl)
                  refine pure_ (i := 3) (N := some 91) (v := ?_) (a' := ?_) (bz 37 47) rfl rfl (any_of HT_.out ze) (fun _ _ _ h => h) (Or.inl ⟨zae, ?_⟩) ?_ ?_; rotate_left; (intro w'; go_simp; with_reducible rfl); rotate_left; (simp only [Act.put, qa, qb, qc, i64_w, i32_w]; rfl)
                  refine take_ (i := 4) (N := some 92) (v := ?_) (a' := ?_) (bz 37 63) rfl rfl (take_ofW HT_.out HW_.out ze) (fun _ _ _ h => h) (Or.inl ⟨zae, ?_⟩) hHeld ?_ ?_; rotate_left; (rintro w' ⟨s0, s1, s2, s3, s4, s5, s6, s7⟩; go_simp; with_reducible rfl); rotate_left; (simp only [Act.put, qa, qb, qc, i64_w, i32_w]; rfl)
                  refine take_ (i := 6) (N := some 94) (v := ?_) (a' := ?_) (bz 37 127) rfl rfl (take_ofW HT_.out HW_.out ze) (fun _ _ _ h => h) (Or.inl ⟨zae, ?_⟩) hHeld ?_ ?_; rotate_left; (rintro w' ⟨s0, s1, s2, s3, s4, s5, s6, s7⟩; go_simp; with_reducible rfl); rotate_left; (simp only [Act.put, qa, qb, qc, i64_w, i32_w]; rfl)
                  refine pure_ (i := 7) (N := some 95) (v := ?_) (a' := ?_) (bz 37 255) rfl rfl (any_of HT_.out ze) (fun _ _ _ h => h) (Or.inl ⟨zae, ?_⟩) ?_ ?_; rotate_left; (intro w'; go_simp; with_reducible rfl); rotate_left; (simp only [Act.put, qa, qb, qc, i64_w, i32_w]; rfl)
                  refine one_ (i := 8) (N := some 96) (bz 37 511) rfl rfl (one_of HT_.out ze) za7 (fun K hK => ?_)
                  refine goes_ Try.func45 ze rfl #[.int .i64 (rd ((rd_T60 l0_3 x4_2).f1) x6_4), .int .i64 2, .int .i64 (wrap64 (a0_2 - 1))] zae rfl rfl zcm ?_
                  with_reducible refine (spec_l01In.calls (rd ((rd_T60 l0_3 x4_2).f1) x6_4) 2 (wrap64 (a0_2 - 1)) true _ A50.out).mono ?_
                  rintro e w' ⟨rfl, ⟨nd, rfl⟩⟩
                  refine ⟨_, rfl, ?_⟩
                  obtain ⟨Ao63, co63, eo63⟩ := Kd.R_slice HO_3.out
                  (first | subst eo63 | (injection eo63 with f1_ f2_ f3_; have f4_ := f1_.symm; have f5_ := f3_.symm; clear f1_ f2_ f3_; subst f4_; subst f5_))
                  refine hK.out _ _ ⟨(qs BK135.out 0).trans rfl, (qs BK135.out 1).trans rfl, (qs BK127.out 0).trans rfl, (qs BK127.out 1).trans rfl, (qs BK127.out 2).trans rfl, (qs BK127.out 3).trans rfl, ((HB.out.cell (World.block_lt_of_cell? w _ hw140_0)).trans hw140_0), ((HB.out.cell (World.block_lt_of_cell? w _ hw146_0)).trans hw146_0)⟩ (fun hHeld => ?_)
                  clear hK K
                  refine norm_ (a' := ?_) ?_ ?_; rotate_left; (show Act.put _ (some 96) _ = _; simp only [Act.put, qa, qb, qc, i64_w, i32_w]; rfl)
                  refine pure_ (i := 9) (N := some 97) (v := ?_) (a' := ?_) (bz 37 1023) rfl rfl (any_of HT_.out ze) (fun _ _ _ h => h) (Or.inl ⟨zae, ?_⟩) ?_ ?_; rotate_left; (intro w'; go_simp; with_reducible rfl); rotate_left; (simp only [Act.put, qa, qb, qc, i64_w, i32_w]; rfl)
                  refine pure_ (i := 10) (N := some 98) (v := ?_) (a' := ?_) (bz 37 2047) rfl rfl (any_of HT_.out ze) (fun _ _ _ h => h) (Or.inl ⟨zae, ?_⟩) ?_ ?_; rotate_left; (intro w'; go_simp; with_reducible rfl); rotate_left; (simp only [Act.put, qa, qb, qc, i64_w, i32_w]; rfl)
                  refine pure_ (i := 11) (N := some 99) (v := ?_) (a' := ?_) (bz 37 4095) rfl rfl (any_of HT_.out ze) (fun _ _ _ h => h) (Or.inl ⟨zae, ?_⟩) ?_ ?_; rotate_left; (intro w'; go_simp; with_reducible rfl); rotate_left; (simp only [Act.put, qa, qb, qc, i64_w, i32_w]; rfl)
                  refine pure_ (i := 12) (N := some 100) (v := ?_) (a' := ?_) (bz 37 8191) rfl rfl (any_of HT_.out ze) (fun _ _ _ h => h) (Or.inl ⟨zae, ?_⟩) ?_ ?_; rotate_left; (intro w'; go_simp; with_reducible rfl); rotate_left; (simp only [Act.put, qa, qb, qc, i64_w, i32_w]; rfl)
                  refine pure_ (i := 13) (N := some 101) (v := ?_) (a' := ?_) (bz 37 16383) rfl rfl (any_of HT_.out ze) (fun _ _ _ h => h) (Or.inl ⟨zae, ?_⟩) ?_ ?_; rotate_left; (intro w'; go_simp; with_reducible rfl); rotate_left; (simp only [Act.put, qa, qb, qc, i64_w, i32_w]; rfl)
                  refine pure_ (i := 14) (N := some 102) (v := undef) (a' := ?_) (bz 37 32767) rfl rfl (any_of HT_.out ze) (fun _ _ _ h => h) (Or.inr ⟨zae, rfl⟩) ?_ ?_; rotate_left; (simp only [Act.put, qa, qb, qc, i64_w, i32_w]; rfl)
                  refine pure_ (i := 15) (N := some 103) (v := undef) (a' := ?_) (bz 37 65535) rfl rfl (any_of HT_.out ze) (fun _ _ _ h => h) (Or.inr ⟨zae, rfl⟩) ?_ ?_; rotate_left; (simp only [Act.put, qa, qb, qc, i64_w, i32_w]; rfl)
                  refine pure_ (i := 16) (N := some 104) (v := undef) (a' := ?_) (bz 37 131071) rfl rfl (any_of HT_.out ze) (fun _ _ _ h => h) (Or.inr ⟨zae, rfl⟩) ?_ ?_; rotate_left; (simp only [Act.put, qa, qb, qc, i64_w, i32_w]; rfl)
                  refine pure_ (i := 17) (N := some 105) (v := undef) (a' := ?_) (bz 37 262143) rfl rfl (any_of HT_.out ze) (fun _ _ _ h => h) (Or.inr ⟨zae, rfl⟩) ?_ ?_; rotate_left; (simp only [Act.put, qa, qb, qc, i64_w, i32_w]; rfl)
                  refine pure_ (i := 18) (N := some 106) (v := undef) (a' := ?_) (bz 37 524287) rfl rfl (any_of HT_.out ze) (fun _ _ _ h => h) (Or.inr ⟨zae, rfl⟩) ?_ ?_; rotate_left; (simp only [Act.put, qa, qb, qc, i64_w, i32_w]; rfl)
                  refine pure_ (i := 19) (N := some 107) (v := undef) (a' := ?_) (bz 37 1048575) rfl rfl (any_of HT_.out ze) (fun _ _ _ h => h) (Or.inr ⟨zae, rfl⟩) ?_ ?_; rotate_left; (simp only [Act.put, qa, qb, qc, i64_w, i32_w]; rfl)
                  refine pure_ (i := 20) (N := some 108) (v := undef) (a' := ?_) (bz 37 2097151) rfl rfl (any_of HT_.out ze) (fun _ _ _ h => h) (Or.inr ⟨zae, rfl⟩) ?_ ?_; rotate_left; (simp only [Act.put, qa, qb, qc, i64_w, i32_w]; rfl)
                  refine pure_ (i := 21) (N := some 109) (v := undef) (a' := ?_) (bz 37 4194303) rfl rfl (any_of HT_.out ze) (fun _ _ _ h => h) (Or.inr ⟨zae, rfl⟩) ?_ ?_; rotate_left; (simp only [Act.put, qa, qb, qc, i64_w, i32_w]; rfl)
                  refine pure_ (i := 22) (N := some 110) (v := undef) (a' := ?_) (bz 37 8388607) rfl rfl (any_of HT_.out ze) (fun _ _ _ h => h) (Or.inr ⟨zae, rfl⟩) ?_ ?_; rotate_left; (simp only [Act.put, qa, qb, qc, i64_w, i32_w]; rfl)
                  refine pure_ (i := 23) (N := some 111) (v := undef) (a' := ?_) (bz 37 16777215) rfl rfl (any_of HT_.out ze) (fun _ _ _ h => h) (Or.inr ⟨zae, rfl⟩) ?_ ?_; rotate_left; (simp only [Act.put, qa, qb, qc, i64_w, i32_w]; rfl)
                  refine pure_ (i := 24) (N := some 112) (v := undef) (a' := ?_) (bz 37 33554431) rfl rfl (any_of HT_.out ze) (fun _ _ _ h => h) (Or.inr ⟨zae, rfl⟩) ?_ ?_; rotate_left; (simp only [Act.put, qa, qb, qc, i64_w, i32_w]; rfl)
                  refine pure_ (i := 25) (N := some 113) (v := undef) (a' := ?_) (bz 37 67108863) rfl rfl (any_of HT_.out ze) (fun _ _ _ h => h) (Or.inr ⟨zae, rfl⟩) ?_ ?_; rotate_left; (simp only [Act.put, qa, qb, qc, i64_w, i32_w]; rfl)
                  refine pure_ (i := 26) (N := some 114) (v := ?_) (a' := ?_) (bz 37 134217727) rfl rfl (any_of HT_.out ze) (fun _ _ _ h => h) (Or.inl ⟨zae, ?_⟩) ?_ ?_; rotate_left; (intro w'; go_simp; with_reducible rfl); rotate_left; (simp only [Act.put, qa, qb, qc, i64_w, i32_w]; rfl)
                  refine pure_ (i := 27) (N := some 115) (v := ?_) (a' := ?_) (bz 37 268435455) rfl rfl (any_of HT_.out ze) (fun _ _ _ h => h) (Or.inl ⟨zae, ?_⟩) ?_ ?_; rotate_left; (intro w'; go_simp; with_reducible rfl); rotate_left; (simp only [Act.put, qa, qb, qc, i64_w, i32_w]; rfl)
                  refine pure_ (i := 28) (N := some 116) (v := ?_) (a' := ?_) (bz 37 536870911) rfl rfl (any_of HT_.out ze) (fun _ _ _ h => h) (Or.inl ⟨zae, ?_⟩) ?_ ?_; rotate_left; (intro w'; go_simp; with_reducible rfl); rotate_left; (simp only [Act.put, qa, qb, qc, i64_w, i32_w]; rfl)
                  refine pure_ (i := 29) (N := some 117) (v := ?_) (a' := ?_) (bz 37 1073741823) rfl rfl (any_of HT_.out ze) (fun _ _ _ h => h) (Or.inl ⟨zae, ?_⟩) ?_ ?_; rotate_left; (intro w'; go_simp; with_reducible rfl); rotate_left; (simp only [Act.put, qa, qb, qc, i64_w, i32_w]; rfl)
                  refine pure_ (i := 30) (N := some 118) (v := ?_) (a' := ?_) (bz 37 2147483647) rfl rfl (any_of HT_.out ze) (fun _ _ _ h => h) (Or.inl ⟨zae, ?_⟩) ?_ ?_; rotate_left; (intro w'; go_simp; with_reducible rfl); rotate_left; (simp only [Act.put, qa, qb, qc, i64_w, i32_w]; rfl)
                  refine pure_ (i := 32) (N := some 120) (v := ?_) (a' := ?_) (bz 37 6442450943) rfl rfl (any_of HT_.out ze) (fun _ _ _ h => h) (Or.inl ⟨zae, ?_⟩) ?_ ?_; rotate_left; (intro w'; go_simp; with_reducible rfl); rotate_left; (simp only [Act.put, qa, qb, qc, i64_w, i32_w]; rfl)
                  refine take_ (i := 31) (N := some 119) (v := ?_) (a' := ?_) (bz 37 8589934591) rfl rfl (take_ofW HT_.out HW_.out ze) (fun _ _ _ h => h) (Or.inl ⟨zae, ?_⟩) hHeld ?_ ?_; rotate_left; (rintro w' ⟨s0, s1, s2, s3, s4, s5, s6, s7⟩; go_simp; with_reducible rfl); rotate_left; (simp only [Act.put, qa, qb, qc, i64_w, i32_w]; rfl)
                  refine pure_ (i := 33) (N := some 121) (v := ?_) (a' := ?_) (bz 37 17179869183) rfl rfl (any_of HT_.out ze) (fun _ _ _ h => h) (Or.inl ⟨zae, ?_⟩) ?_ ?_; rotate_left; (intro w'; go_simp; with_reducible rfl); rotate_left; (simp only [Act.put, qa, qb, qc, i64_w, i32_w]; rfl)
                  refine take_ (i := 34) (N := some 122) (v := ?_) (a' := ?_) (bz 37 34359738367) rfl rfl (take_ofW HT_.out HW_.out ze) (fun _ _ _ h => h) (Or.inl ⟨zae, ?_⟩) hHeld ?_ ?_; rotate_left; (rintro w' ⟨s0, s1, s2, s3, s4, s5, s6, s7⟩; go_simp; with_reducible rfl); rotate_left; (simp only [Act.put, qa, qb, qc, i64_w, i32_w]; rfl)
                  refine one_ (i := 35) (N := some 123) (bz 37 68719476735) rfl rfl (one_of HT_.out ze) za7 (fun K hK => ?_)
                  refine goes_ Try.func72 ze rfl #[.slice Ao63 x3_4.length co63, .int .i64 (rd ((rd_T60 l0_3 x4_2).f1) x6_4)] zae rfl rfl zcm ?_
                  with_reducible refine (spec_l06In.calls k4 _ _ x3_4 (rd ((rd_T60 l0_3 x4_2).f1) x6_4) t147 _ ?side1 ?side2 A61.out).mono ?_
                  (case side1 => repeat (first | exact (Kd.R_reads' HO_3.out).2.2 | (with_reducible refine Kd.C_alloc ?_ _) | (with_reducible refine Kd.C_drewN ?_ _) | (with_reducible refine Kd.C_drew ?_)))
                  (case side2 => exact (Kd.R_reads' HO_3.out).2.1)
                  rintro e w' ⟨rfl, ⟨nd, rfl⟩⟩
                  refine ⟨_, rfl, ?_⟩
                  refine hK.out _ _ ⟨(qs BK135.out 0).trans rfl, (qs BK135.out 1).trans rfl, (qs BK127.out 0).trans rfl, (qs BK127.out 1).trans rfl, (qs BK127.out 2).trans rfl, (qs BK127.out 3).trans rfl, ((HB.out.cell (World.block_lt_of_cell? w _ hw140_0)).trans hw140_0), ((HB.out.cell (World.block_lt_of_cell? w _ hw146_0)).trans hw146_0)⟩ (fun hHeld => ?_)
                  clear hK K
                  refine norm_ (a' := ?_) ?_ ?_; rotate_left; (show Act.put _ (some 123) _ = _; simp only [Act.put, qa, qb, qc, i64_w, i32_w]; rfl)
                  refine pure_ (i := 36) (N := some 124) (v := ?_) (a' := ?_) (bz 37 137438953471) rfl rfl (any_of HT_.out ze) (fun _ _ _ h => h) (Or.inl ⟨zae, ?_⟩) ?_ ?_; rotate_left; (intro w'; go_simp; with_reducible rfl); rotate_left; (simp only [Act.put, qa, qb, qc, i64_w, i32_w]; rfl)
                  refine done_ (done_of HT_.out ze) ?_
                  try go_wp2
                  go_meet
                  case rel => exact ⟨_, (t147), zc, H', ⟨zcb⟩, ⟨zs⟩, ⟨z3⟩, ⟨za6⟩, ⟨zr⟩⟩
                ·replace c51 := Bool.eq_false_iff.mpr c51
                 subst c51
                 have H1 : (spec_MetaOk.j4 k4 x3_4 x4_2 x6_4 true a0_0 a0_1 a0_2 l0_3 ((rd_T60 l0_3 x4_2).f0) ((rd_T60 l0_3 x4_2).f1)) = some r := by rw [if_neg (show ¬ (false = true) by decide)] at H; exact H
                 clear H
                 have H := H1
                 clear H1
                 have H' := qo H
                 clear H
                 try go_wp2
                 have n0_ := qo (Kd.R_drew HO_3.out)
                 have n1_ := qo (qj BK127.out)
                 have n2_ := qo (qj BK135.out)
                 have n3_ := qo (qn HB.out)
                 clear HO_3
                 clear BK127
                 clear BK135
                 clear HB
                 have HO_3 := n0_
                 have BK127 := n1_
                 have BK135 := n2_
                 have HB := n3_
                 clear n0_ n1_ n2_ n3_
                 have p140 : 0 ≤ (x6_4 : Int) := of_decide_eq_true zb
                 have q140 : x6_4 < (((rd_T60 l0_3 x4_2).f1).length : Int) := of_decide_eq_true zb
                 obtain ⟨ad140, e140, hx140_0⟩ := Kd.at_int HR134_1.out x6_4 p140 q140
                 have hw140_0 := hx140_0
                 cases e140
                 replace hx140_0 := (HB.out.cell (World.block_lt_of_cell? w _ hx140_0)).trans hx140_0
                 replace p140 := eq_true p140
                 replace q140 := eq_true q140
                 refine start_ (n := 37) (S := fun w' => w'.cell? ⟨gb135, 0, none⟩ = some (.int .i64 ((rd_T60 l0_3 x4_2).f0)) ∧ w'.cell? ⟨gb135, 1, none⟩ = some (.slice (some ad140) ((rd_T60 l0_3 x4_2).f1).length c134_1) ∧ w'.cell? ⟨gb127, 0, none⟩ = some (.int .i64 a0_0) ∧ w'.cell? ⟨gb127, 1, none⟩ = some (.int .i64 a0_1) ∧ w'.cell? ⟨gb127, 2, none⟩ = some (.int .i64 a0_2) ∧ w'.cell? ⟨gb127, 3, none⟩ = some (.slice (some ad134) l0_3.length c0_3) ∧ w'.cell? (ad140.add (x6_4).toNat) = some (.int .i64 (rd ((rd_T60 l0_3 x4_2).f1) x6_4))) (ds := []) (bz 37 0) ze rfl rfl ⟨(qs BK135.out 0).trans rfl, (qs BK135.out 1).trans rfl, (qs BK127.out 0).trans rfl, (qs BK127.out 1).trans rfl, (qs BK127.out 2).trans rfl, (qs BK127.out 3).trans rfl, ((HB.out.cell (World.block_lt_of_cell? w _ hw140_0)).trans hw140_0)⟩ (fun hHeld => ?_); refine with_tabW spec_MetaOk.tab13 spec_MetaOk.bits13 (fun HT_ HW_ => ?_)
                 generalize wr.drew = w64 at HO_3 BK127 BK135 HB hx140_0 hHeld ⊢
                 refine pure_ (i := 0) (N := some 88) (v := ?_) (a' := ?_) (bz 37 1) rfl rfl (any_of HT_.out ze) (fun _ _ _ h => h) (Or.inl ⟨zae, ?_⟩) ?_ ?_; rotate_left; (intro w'; go_simp; with_reducible rfl); rotate_left; (simp only [Act.put, qa, qb, qc, i64_w, i32_w]; rfl)
                 refine pure_ (i := 2) (N := some 90) (v := ?_) (a' := ?_) (bz 37 5) rfl rfl (any_of HT_.out ze) (fun _ _ _ h => h) (Or.inl ⟨zae, ?_⟩) ?_ ?_; rotate_left; (intro w'; go_simp; with_reducible rfl); rotate_left; (simp only [Act.put, qa, qb, qc, i64_w, i32_w]; rfl)
                 refine pure_ (i := 5) (N := some 93) (v := ?_) (a' := ?_) (bz 37 37) rfl rfl (any_of HT_.out ze) (fun _ _ _ h => h) (Or.inl ⟨zae, ?_⟩) ?_ ?_; rotate_left; (intro w'; go_simp; with_reducible rfl); rotate_left; (simp only [Act.put, qa, qb, qc, i64_w, i32_w]; rfl)
                 refine take_ (i := 1) (N := some 89) (v := ?_) (a' := ?_) (bz 37 39) rfl rfl (take_ofW HT_.out HW_.out ze) (fun _ _ _ h => h) (Or.inl ⟨zae, ?_⟩) hHeld ?_ ?_; rotate_left; (rintro w' ⟨s0, s1, s2, s3, s4, s5, s6⟩; go_simp; with_reducible rfl); rotate_left; (simp only [Act.put, qa, qb, qc, i64_w, i32_w]; rfl)
                 refine pure_ (i := 3) (N := some 91) (v := ?_) (a' := ?_) (bz 37 47) rfl rfl (any_of HT_.out ze) (fun _ _ _ h => h) (Or.inl ⟨zae, ?_⟩) ?_ ?_; rotate_left; (intro w'; go_simp; with_reducible rfl); rotate_left; (simp only [Act.put, qa, qb, qc, i64_w, i32_w]; rfl)
                 refine take_ (i := 4) (N := some 92) (v := ?_) (a' := ?_) (bz 37 63) rfl rfl (take_ofW HT_.out HW_.out ze) (fun _ _ _ h => h) (Or.inl ⟨zae, ?_⟩) hHeld ?_ ?_; rotate_left; (rintro w' ⟨s0, s1, s2, s3, s4, s5, s6⟩; go_simp; with_reducible rfl); rotate_left; (simp only [Act.put, qa, qb, qc, i64_w, i32_w]; rfl)
                 refine take_ (i := 6) (N := some 94) (v := ?_) (a' := ?_) (bz 37 127) rfl rfl (take_ofW HT_.out HW_.out ze) (fun _ _ _ h => h) (Or.inl ⟨zae, ?_⟩) hHeld ?_ ?_; rotate_left; (rintro w' ⟨s0, s1, s2, s3, s4, s5, s6⟩; go_simp; with_reducible rfl); rotate_left; (simp only [Act.put, qa, qb, qc, i64_w, i32_w]; rfl)
                 refine pure_ (i := 7) (N := some 95) (v := ?_) (a' := ?_) (bz 37 255) rfl rfl (any_of HT_.out ze) (fun _ _ _ h => h) (Or.inl ⟨zae, ?_⟩) ?_ ?_; rotate_left; (intro w'; go_simp; with_reducible rfl); rotate_left; (simp only [Act.put, qa, qb, qc, i64_w, i32_w]; rfl)
                 refine one_ (i := 8) (N := some 96) (bz 37 511) rfl rfl (one_of HT_.out ze) za7 (fun K hK => ?_)
                 refine goes_ Try.func45 ze rfl #[.int .i64 (rd ((rd_T60 l0_3 x4_2).f1) x6_4), .int .i64 2, .int .i64 (wrap64 (a0_2 - 1))] zae rfl rfl zcm ?_
                 with_reducible refine (spec_l01In.calls (rd ((rd_T60 l0_3 x4_2).f1) x6_4) 2 (wrap64 (a0_2 - 1)) false _ A50.out).mono ?_
                 rintro e w' ⟨rfl, ⟨nd, rfl⟩⟩
                 refine ⟨_, rfl, ?_⟩
                 refine hK.out _ _ ⟨(qs BK135.out 0).trans rfl, (qs BK135.out 1).trans rfl, (qs BK127.out 0).trans rfl, (qs BK127.out 1).trans rfl, (qs BK127.out 2).trans rfl, (qs BK127.out 3).trans rfl, ((HB.out.cell (World.block_lt_of_cell? w _ hw140_0)).trans hw140_0)⟩ (fun hHeld => ?_)
                 clear hK K
                 refine norm_ (a' := ?_) ?_ ?_; rotate_left; (show Act.put _ (some 96) _ = _; simp only [Act.put, qa, qb, qc, i64_w, i32_w]; rfl)
                 refine pure_ (i := 9) (N := some 97) (v := ?_) (a' := ?_) (bz 37 1023) rfl rfl (any_of HT_.out ze) (fun _ _ _ h => h) (Or.inl ⟨zae, ?_⟩) ?_ ?_; rotate_left; (intro w'; go_simp; with_reducible rfl); rotate_left; (simp only [Act.put, qa, qb, qc, i64_w, i32_w]; rfl)
                 refine pure_ (i := 10) (N := some 98) (v := ?_) (a' := ?_) (bz 37 2047) rfl rfl (any_of HT_.out ze) (fun _ _ _ h => h) (Or.inl ⟨zae, ?_⟩) ?_ ?_; rotate_left; (intro w'; go_simp; with_reducible rfl); rotate_left; (simp only [Act.put, qa, qb, qc, i64_w, i32_w]; rfl)
                 refine pure_ (i := 11) (N := some 99) (v := undef) (a' := ?_) (bz 37 4095) rfl rfl (any_of HT_.out ze) (fun _ _ _ h => h) (Or.inr ⟨zae, rfl⟩) ?_ ?_; rotate_left; (simp only [Act.put, qa, qb, qc, i64_w, i32_w]; rfl)
                 refine pure_ (i := 12) (N := some 100) (v := undef) (a' := ?_) (bz 37 8191) rfl rfl (any_of HT_.out ze) (fun _ _ _ h => h) (Or.inr ⟨zae, rfl⟩) ?_ ?_; rotate_left; (simp only [Act.put, qa, qb, qc, i64_w, i32_w]; rfl)
                 refine pure_ (i := 13) (N := some 101) (v := undef) (a' := ?_) (bz 37 16383) rfl rfl (any_of HT_.out ze) (fun _ _ _ h => h) (Or.inr ⟨zae, rfl⟩) ?_ ?_; rotate_left; (simp only [Act.put, qa, qb, qc, i64_w, i32_w]; rfl)
                 refine pure_ (i := 14) (N := some 102) (v := undef) (a' := ?_) (bz 37 32767) rfl rfl (any_of HT_.out ze) (fun _ _ _ h => h) (Or.inr ⟨zae, rfl⟩) ?_ ?_; rotate_left; (simp only [Act.put, qa, qb, qc, i64_w, i32_w]; rfl)
                 refine pure_ (i := 15) (N := some 103) (v := undef) (a' := ?_) (bz 37 65535) rfl rfl (any_of HT_.out ze) (fun _ _ _ h => h) (Or.inr ⟨zae, rfl⟩) ?_ ?_; rotate_left; (simp only [Act.put, qa, qb, qc, i64_w, i32_w]; rfl)
                 refine pure_ (i := 16) (N := some 104) (v := undef) (a' := ?_) (bz 37 131071) rfl rfl (any_of HT_.out ze) (fun _ _ _ h => h) (Or.inr ⟨zae, rfl⟩) ?_ ?_; rotate_left; (simp only [Act.put, qa, qb, qc, i64_w, i32_w]; rfl)
                 refine pure_ (i := 17) (N := some 105) (v := undef) (a' := ?_) (bz 37 262143) rfl rfl (any_of HT_.out ze) (fun _ _ _ h => h) (Or.inr ⟨zae, rfl⟩) ?_ ?_; rotate_left; (simp only [Act.put, qa, qb, qc, i64_w, i32_w]; rfl)
                 refine pure_ (i := 18) (N := some 106) (v := undef) (a' := ?_) (bz 37 524287) rfl rfl (any_of HT_.out ze) (fun _ _ _ h => h) (Or.inr ⟨zae, rfl⟩) ?_ ?_; rotate_left; (simp only [Act.put, qa, qb, qc, i64_w, i32_w]; rfl)
                 refine pure_ (i := 19) (N := some 107) (v := undef) (a' := ?_) (bz 37 1048575) rfl rfl (any_of HT_.out ze) (fun _ _ _ h => h) (Or.inr ⟨zae, rfl⟩) ?_ ?_; rotate_left; (simp only [Act.put, qa, qb, qc, i64_w, i32_w]; rfl)
                 refine pure_ (i := 20) (N := some 108) (v := undef) (a' := ?_) (bz 37 2097151) rfl rfl (any_of HT_.out ze) (fun _ _ _ h => h) (Or.inr ⟨zae, rfl⟩) ?_ ?_; rotate_left; (simp only [Act.put, qa, qb, qc, i64_w, i32_w]; rfl)
                 refine pure_ (i := 21) (N := some 109) (v := undef) (a' := ?_) (bz 37 4194303) rfl rfl (any_of HT_.out ze) (fun _ _ _ h => h) (Or.inr ⟨zae, rfl⟩) ?_ ?_; rotate_left; (simp only [Act.put, qa, qb, qc, i64_w, i32_w]; rfl)
                 refine pure_ (i := 22) (N := some 110) (v := undef) (a' := ?_) (bz 37 8388607) rfl rfl (any_of HT_.out ze) (fun _ _ _ h => h) (Or.inr ⟨zae, rfl⟩) ?_ ?_; rotate_left; (simp only [Act.put, qa, qb, qc, i64_w, i32_w]; rfl)
                 refine pure_ (i := 23) (N := some 111) (v := undef) (a' := ?_) (bz 37 16777215) rfl rfl (any_of HT_.out ze) (fun _ _ _ h => h) (Or.inr ⟨zae, rfl⟩) ?_ ?_; rotate_left; (simp only [Act.put, qa, qb, qc, i64_w, i32_w]; rfl)
                 refine pure_ (i := 24) (N := some 112) (v := undef) (a' := ?_) (bz 37 33554431) rfl rfl (any_of HT_.out ze) (fun _ _ _ h => h) (Or.inr ⟨zae, rfl⟩) ?_ ?_; rotate_left; (simp only [Act.put, qa, qb, qc, i64_w, i32_w]; rfl)
                 refine pure_ (i := 25) (N := some 113) (v := undef) (a' := ?_) (bz 37 67108863) rfl rfl (any_of HT_.out ze) (fun _ _ _ h => h) (Or.inr ⟨zae, rfl⟩) ?_ ?_; rotate_left; (simp only [Act.put, qa, qb, qc, i64_w, i32_w]; rfl)
                 refine pure_ (i := 26) (N := some 114) (v := undef) (a' := ?_) (bz 37 134217727) rfl rfl (any_of HT_.out ze) (fun _ _ _ h => h) (Or.inr ⟨zae, rfl⟩) ?_ ?_; rotate_left; (simp only [Act.put, qa, qb, qc, i64_w, i32_w]; rfl)
                 refine pure_ (i := 27) (N := some 115) (v := ?_) (a' := ?_) (bz 37 268435455) rfl rfl (any_of HT_.out ze) (fun _ _ _ h => h) (Or.inl ⟨zae, ?_⟩) ?_ ?_; rotate_left; (intro w'; go_simp; with_reducible rfl); rotate_left; (simp only [Act.put, qa, qb, qc, i64_w, i32_w]; rfl)
                 refine pure_ (i := 28) (N := some 116) (v := ?_) (a' := ?_) (bz 37 536870911) rfl rfl (any_of HT_.out ze) (fun _ _ _ h => h) (Or.inl ⟨zae, ?_⟩) ?_ ?_; rotate_left; (intro w'; go_simp; with_reducible rfl); rotate_left; (simp only [Act.put, qa, qb, qc, i64_w, i32_w]; rfl)
                 refine pure_ (i := 29) (N := some 117) (v := undef) (a' := ?_) (bz 37 1073741823) rfl rfl (any_of HT_.out ze) (fun _ _ _ h => h) (Or.inr ⟨zae, rfl⟩) ?_ ?_; rotate_left; (simp only [Act.put, qa, qb, qc, i64_w, i32_w]; rfl)
                 refine pure_ (i := 30) (N := some 118) (v := undef) (a' := ?_) (bz 37 2147483647) rfl rfl (any_of HT_.out ze) (fun _ _ _ h => h) (Or.inr ⟨zae, rfl⟩) ?_ ?_; rotate_left; (simp only [Act.put, qa, qb, qc, i64_w, i32_w]; rfl)
                 refine pure_ (i := 31) (N := some 119) (v := undef) (a' := ?_) (bz 37 4294967295) rfl rfl (any_of HT_.out ze) (fun _ _ _ h => h) (Or.inr ⟨zae, rfl⟩) ?_ ?_; rotate_left; (simp only [Act.put, qa, qb, qc, i64_w, i32_w]; rfl)
                 refine pure_ (i := 32) (N := some 120) (v := undef) (a' := ?_) (bz 37 8589934591) rfl rfl (any_of HT_.out ze) (fun _ _ _ h => h) (Or.inr ⟨zae, rfl⟩) ?_ ?_; rotate_left; (simp only [Act.put, qa, qb, qc, i64_w, i32_w]; rfl)
                 refine pure_ (i := 33) (N := some 121) (v := undef) (a' := ?_) (bz 37 17179869183) rfl rfl (any_of HT_.out ze) (fun _ _ _ h => h) (Or.inr ⟨zae, rfl⟩) ?_ ?_; rotate_left; (simp only [Act.put, qa, qb, qc, i64_w, i32_w]; rfl)
                 refine pure_ (i := 34) (N := some 122) (v := undef) (a' := ?_) (bz 37 34359738367) rfl rfl (any_of HT_.out ze) (fun _ _ _ h => h) (Or.inr ⟨zae, rfl⟩) ?_ ?_; rotate_left; (simp only [Act.put, qa, qb, qc, i64_w, i32_w]; rfl)
                 refine pure_ (i := 35) (N := some 123) (v := undef) (a' := ?_) (bz 37 68719476735) rfl rfl (any_of HT_.out ze) (fun _ _ _ h => h) (Or.inr ⟨zae, rfl⟩) ?_ ?_; rotate_left; (simp only [Act.put, qa, qb, qc, i64_w, i32_w]; rfl)
                 refine pure_ (i := 36) (N := some 124) (v := ?_) (a' := ?_) (bz 37 137438953471) rfl rfl (any_of HT_.out ze) (fun _ _ _ h => h) (Or.inl ⟨zae, ?_⟩) ?_ ?_; rotate_left; (intro w'; go_simp; with_reducible rfl); rotate_left; (simp only [Act.put, qa, qb, qc, i64_w, i32_w]; rfl)
                 refine done_ (done_of HT_.out ze) ?_
                 try go_wp2
                 go_meet
                 case rel => exact ⟨_, (true), zc, H', ⟨zcb⟩, ⟨zs⟩, ⟨z3⟩, ⟨za6⟩, ⟨zr⟩⟩
               ·rw [if_neg c49] at H
                exact absurd H zbh
              case rest =>
               clear HC46
               (try clear c1); (try clear p1); (try clear q1); (try clear hx1); (try clear p2); (try clear c4); (try clear c5); (try clear p6); (try clear c7); (try clear c13); (try clear p14); (try clear q14); (try clear hx14); (try clear c45); (try clear c49); (try clear c51); (try clear c52); (try clear c52b0); (try clear c54); (try clear c55); (try clear p64); (try clear hx140_0); (try clear hx146_0); (try clear p140); (try clear p146); (try clear q140); (try clear q146)
               obtain ⟨kq, x124_45, rfl, HA, HJ45, HO_3, BK127, BK135, HB⟩ := hcut
               cases kq with
               | zero => exact absurd HA.out (by simp [spec_MetaOk.j4])
               | succ kj45 =>
                have H := HA.out
                clear HA
                simp only [spec_MetaOk.j4] at H
                by_cases c65 : x124_45 = true
                ·subst c65
                 have H1 : (some false) = some r := by rw [if_pos rfl] at H; exact H
                 clear H
                 have H := H1
                 clear H1
                 obtain rfl := Option.some.inj H
                 go_wp2
                 go_ret
                 exact ⟨zd, zr⟩
                ·replace c65 := Bool.eq_false_iff.mpr c65
                 subst c65
                 have H1 : (if 0 ≤ x6_4 then (if x6_4 < (((rd_T60 l0_3 x4_2).f1).length : Int) then (if x3_4.length < 17592186044416 then (spec_MetaOk.l1 kj45 (x3_4 ++ [rd ((rd_T60 l0_3 x4_2).f1) x6_4]) x4_2 (wrap64 (x6_4 + 1)) a0_0 a0_1 a0_2 l0_3 ((rd_T60 l0_3 x4_2).f0) ((rd_T60 l0_3 x4_2).f1)) else (none)) else (none)) else (none)) = some r := by rw [if_neg (show ¬ (false = true) by decide)] at H; exact H
                 clear H
                 have H := H1
                 clear H1
                 by_cases c66 : 0 ≤ x6_4
                 ·rw [if_pos c66] at H
                  have c66b0 : decide (0 ≤ x6_4) = true := decide_eq_true c66
                  clear c66
                  by_cases c67 : x6_4 < (((rd_T60 l0_3 x4_2).f1).length : Int)
                  ·rw [if_pos c67] at H
                   have c67b0 : decide (x6_4 < (((rd_T60 l0_3 x4_2).f1).length : Int)) = true := decide_eq_true c67
                   clear c67
                   by_cases c68 : x3_4.length < 17592186044416
                   ·rw [if_pos c68] at H
                    have LMc68 := qo c68
                    clear c68
                    obtain ⟨y149, hy149⟩ : ∃ y_ : List Int, y_ = (x3_4 ++ [rd ((rd_T60 l0_3 x4_2).f1) x6_4]) := ⟨_, rfl⟩
                    replace H : (spec_MetaOk.l1 kj45 y149 x4_2 (wrap64 (x6_4 + 1)) a0_0 a0_1 a0_2 l0_3 ((rd_T60 l0_3 x4_2).f0) ((rd_T60 l0_3 x4_2).f1)) = some r := by first | (rw [hy149]; with_reducible exact H) | (have H2_ := (Option.bind_some _ _).symm.trans H; rw [hy149]; with_reducible exact H2_) | (have H2_ := (Option.bind_some _ _).symm.trans H; with_reducible exact H2_) | with_reducible exact H | (rw [hy149]; exact H) | exact H
                    have Ny149 := qo hy149
                    clear hy149
                    have H' := qo H
                    clear H
                    have hnb69 := NB135_127.out
                    have hnc69 := NB127_135.out
                    have hcz70_0 : wc.cell? ⟨gb135, 0, none⟩ = some (.int .i64 ((rd_T60 l0_3 x4_2).f0)) := (qs BK135.out 0).trans rfl
                    have hcz70_1 : wc.cell? ⟨gb135, 1, none⟩ = some (.slice A134_1 ((rd_T60 l0_3 x4_2).f1).length c134_1) := (qs BK135.out 1).trans rfl
                    have hfz70_0 := qu BK135.out 0
                    have hfz70_1 := qu BK135.out 1
                    have p148 : 0 ≤ (x6_4 : Int) := of_decide_eq_true zb
                    have q148 : x6_4 < (((rd_T60 l0_3 x4_2).f1).length : Int) := of_decide_eq_true zb
                    obtain ⟨ad148, e148, hx148_0⟩ := Kd.at_int HR134_1.out x6_4 p148 q148
                    cases e148
                    replace hx148_0 := (HB.out.cell (World.block_lt_of_cell? w _ hx148_0)).trans hx148_0
                    replace p148 := eq_true p148
                    replace q148 := eq_true q148
                    go_wp2_with (first | ((with_reducible refine gate_builtin (b := .append) (xs := #[.tmp 125, .tmp 131]) rfl ?_); (try (refine gate_guard zae ?_; dsimp only)); at_builtin; refine Kd.R_append (Kd.int .i64) (w0 := w) w.heap.size rfl (.tmp 125) (.tmp 131) 58 3 (.int .i64 0) 8 rfl Try.underlying58 info3 rfl za7 zck u3 x3_4 (rd ((rd_T60 l0_3 x4_2).f1) x6_4) [.int .i64 (rd ((rd_T60 l0_3 x4_2).f1) x6_4)] (fun _ => True) (fun _ => False) rfl rfl ?aP (fun _ hk => hk.elim) ?aF ?aO ?aB ?aS ?aL ?_; (case aP => exact rfl); (case aB => exact zr); (case aF => exact (fun _ _ => trivial)); (case aO => exact zs); (case aS => exact (qp zr)); (case aL => have := LMc68.out; omega); intro v150 w71 ho hb hg hat; rw [← Ny149.out] at ho; have n0_ := qo (blk_grown (g := gb127) (o := .cells #[.int .i64 a0_0, .int .i64 a0_1, .int .i64 a0_2, .slice (some ad134) l0_3.length c0_3] 24 (0, 0)) z3 hg (Kd.R_ne HO_3.out BK127.out za7)); have n1_ := qo (blk_grown (g := gb135) (o := .cells #[.int .i64 ((rd_T60 l0_3 x4_2).f0), .slice (some ad148) ((rd_T60 l0_3 x4_2).f1).length c134_1] 60 (0, 0)) za6 hg (Kd.R_ne HO_3.out BK135.out za7)); have n2_ := qo (hb); have n3_ := qo (ho); clear BK127; clear BK135; clear HB; clear HO_3; have BK127 := n0_; have BK135 := n1_; have HB := n2_; have HO151 := n3_; clear n0_ n1_ n2_ n3_; clear ho hb hg hat))
                    go_roundg kj45
                    case measure => have := HJ1.out; have := HK2.out; have := HJ21.out; have := HK4.out; have := HJ45.out; omega
                    case rel => exact ⟨(y149), (wrap64 (x6_4 + 1)), zc, H', ⟨by have := HJ1.out; have := HK2.out; have := HJ21.out; have := HK4.out; have := HJ45.out; omega⟩, ⟨by (with_reducible repeat (first | apply Kd.R_alloc | apply Kd.R_drewN | apply Kd.R_drew)); exact HO151.out⟩, ⟨z3⟩, ⟨za6⟩, ⟨zr⟩⟩
                   ·rw [if_neg c68] at H
                    exact absurd H zbh
                  ·rw [if_neg c67] at H
                   exact absurd H zbh
                 ·rw [if_neg c66] at H
                  exact absurd H zbh
             ·rw [if_neg c45] at H
              have c45b0 : decide (x6_4 < (((rd_T60 l0_3 x4_2).f1).length : Int)) = false := decide_eq_false c45
              clear c45
              have H' := qo H
              clear H
              have hnb72 := NB135_127.out
              have hnc72 := NB127_135.out
              have hcz73_0 : wr.cell? ⟨gb135, 0, none⟩ = some (.int .i64 ((rd_T60 l0_3 x4_2).f0)) := (qs BK135.out 0).trans rfl
              have hcz73_1 : wr.cell? ⟨gb135, 1, none⟩ = some (.slice A134_1 ((rd_T60 l0_3 x4_2).f1).length c134_1) := (qs BK135.out 1).trans rfl
              have hfz73_0 := qu BK135.out 0
              have hfz73_1 := qu BK135.out 1
              go_wp2
              go_roundg k4
              case measure => have := HJ1.out; have := HK2.out; have := HJ21.out; have := HK4.out; omega
              case rel => exact ⟨(x3_4), (wrap64 (x4_2 + 1)), zc, H', ⟨by have := HJ1.out; have := HK2.out; have := HJ21.out; have := HK4.out; omega⟩, ⟨zs⟩, ⟨z3⟩, ⟨zr⟩⟩
       ·rw [if_neg c21] at H
        exact absurd H zbh
      ·rw [if_neg c20] at H
       have c20b0 : decide (x4_2 < (l0_3.length : Int)) = false := decide_eq_false c20
       clear c20
       obtain rfl := Option.some.inj H
       have hcz74_0 : wr.cell? ⟨gb127, 0, none⟩ = some (.int .i64 a0_0) := (qs BK127.out 0).trans rfl
       have hcz74_1 : wr.cell? ⟨gb127, 1, none⟩ = some (.int .i64 a0_1) := (qs BK127.out 1).trans rfl
       have hcz74_2 : wr.cell? ⟨gb127, 2, none⟩ = some (.int .i64 a0_2) := (qs BK127.out 2).trans rfl
       have hcz74_3 : wr.cell? ⟨gb127, 3, none⟩ = some (.slice A0_3 l0_3.length c0_3) := (qs BK127.out 3).trans rfl
       have hfz74_0 := qu BK127.out 0
       have hfz74_1 := qu BK127.out 1
       have hfz74_2 := qu BK127.out 2
       have hfz74_3 := qu BK127.out 3
       go_wp2
       go_ret
       exact ⟨zd, z1⟩


end Go.Proofs.Yteokilffbcbllaa.VFnExactBestMeta
